/-
PuP1, PuP2, PuP3, PuP4, PuQ1, PuQ2, PuQ3
-/
import Derived.Test.YtjcbhbncncbdjaaGreatDoorApX34b
import Derived.Test.YtjcbhbncncbdjaaGreatDoorApL
namespace Go.Proofs.YtjcbhbncncbdjaaGreatDoorAi
open Go Go.RowKit
set_option linter.unusedVariables false
set_option linter.unusedSimpArgs false

theorem w64_id {x : Int} (h1 : -9223372036854775808 ≤ x) (h2 : x ≤ 9223372036854775807) : w64 x = x := by
  unfold w64
  simp [IntKind.wrap, IntKind.bits, IntKind.signed]; omega
theorem gt_nat {α : Type} [Inhabited α] (l : List α) (n : Nat) : gt l (n : Int) = l.getD n default := rfl
def isDg (c : UInt8) : Bool := decide (48 ≤ c.toNat) && decide (c.toNat ≤ 57)
theorem isDg_iff {c : UInt8} : isDg c = true ↔ 48 ≤ c.toNat ∧ c.toNat ≤ 57 := by simp [isDg]
theorem isDigit_eq (c : UInt8) : g_source_isDigit.f c = some (isDg c) := by
  unfold g_source_isDigit.f isDg
  congr 2
  · exact decide_eq_decide.2 (by show ((48 : Nat) : Int) ≤ _ ↔ _; omega)
  · exact decide_eq_decide.2 (by show _ ≤ ((57 : Nat) : Int) ↔ _; omega)
theorem refDigit_eq (c : UInt8) : g_ref01_isDigit.f c = some (isDg c) := by
  unfold g_ref01_isDigit.f isDg
  congr 2
  · exact decide_eq_decide.2 (by show _ ≥ ((48 : Nat) : Int) ↔ _; omega)
  · exact decide_eq_decide.2 (by show _ ≤ ((57 : Nat) : Int) ↔ _; omega)
/-- Where what is so, seen from a place to the left, begins. -/
def dg (p : Nat → Bool) : Nat → Nat
  | 0 => 0
  | n + 1 => if p n then dg p n else n + 1
theorem dg_le (p : Nat → Bool) : ∀ n, dg p n ≤ n
  | 0 => Nat.le_refl _
  | n + 1 => by
    unfold dg
    split
    · exact Nat.le_succ_of_le (dg_le p n)
    · exact Nat.le_refl _
theorem dg_all (p : Nat → Bool) : ∀ n k, dg p n ≤ k → k < n → p k = true
  | 0, k, _, h => by omega
  | n + 1, k, h1, h2 => by
    unfold dg at h1
    split at h1
    · by_cases hk : k = n
      · subst hk; assumption
      · exact dg_all p n k h1 (by omega)
    · omega
/-- A digit, not one of a constant. -/
def pD (out : List UInt8) (own : List Bool) (k : Nat) : Bool := !(own.getD k default) && isDg (out.getD k default)
theorem digits_eq {out : List UInt8} {own : List Bool} (hl : out.length = own.length) (hs : own.length < 1000000) : ∀ n : Nat, n ≤ own.length → iter (g_source_squeezer_digits.b0 out own) (n : Int) = some ((dg (pD out own) n : Nat) : Int)
  | 0, _ => iter_stop (by unfold g_source_squeezer_digits.b0; rfl)
  | n + 1, hn => by
    have hw : w64 (((n + 1 : Nat) : Int) - 1) = (n : Int) := by rw [w64_id] <;> omega
    have key : g_source_squeezer_digits.b0 out own ((n + 1 : Nat) : Int) = if pD out own n then some (.inl (n : Int)) else some (.inr ((n + 1 : Nat) : Int)) := by
      unfold g_source_squeezer_digits.b0 pD
      rw [hw, if_pos (decide_eq_true (by omega)), if_pos ⟨by omega, by omega⟩, if_pos ⟨by omega, by omega⟩, isDigit_eq, gt_nat, gt_nat]
      cases own.getD n default <;> simp
    unfold dg
    split
    · rename_i h
      rw [iter_next (key.trans (if_pos h))]
      exact digits_eq hl hs n (by omega)
    · rename_i h
      exact iter_stop (key.trans (if_neg h))
theorem digits_f {out : List UInt8} {own : List Bool} (hl : out.length = own.length) (hs : own.length < 1000000) (n : Nat) (hn : n ≤ own.length) : g_source_squeezer_digits.f out own (n : Int) = some ((dg (pD out own) n : Nat) : Int) := by
  unfold g_source_squeezer_digits.f
  rw [digits_eq hl hs n hn]; rfl
theorem indexByte_eq (l : List UInt8) (c : UInt8) : g_strings_IndexByte.f l c = some (idxB l c) := rfl
theorem idxB_ge (l : List UInt8) (c : UInt8) : decide (idxB l c ≥ 0) = l.contains c := by
  unfold idxB
  cases h : l.findIdx? (· == c) with
  | none =>
    rw [List.findIdx?_eq_none_iff] at h
    symm
    show l.contains c = false
    rw [Bool.eq_false_iff]
    intro hc
    have := h c (List.contains_iff_mem.1 hc)
    simp at this
  | some i =>
    rw [decide_eq_true (show (i : Int) ≥ 0 by omega)]
    symm
    obtain ⟨hi, h1, _⟩ := List.findIdx?_eq_some_iff_getElem.1 h
    rw [List.contains_iff_mem]
    have : l[i] = c := by simpa using h1
    rw [← this]; exact List.getElem_mem hi
/-- One of some signs stands before a place. -/
def isB (out : List UInt8) (own : List Bool) (n : Nat) (sg : List UInt8) : Bool := match n with | 0 => false | n + 1 => !(own.getD n default) && sg.contains (out.getD n default)
theorem isBefore_f {out : List UInt8} {own : List Bool} (hl : out.length = own.length) (hs : own.length < 1000000) (n : Nat) (hn : n ≤ own.length) (sg : List UInt8) : g_source_squeezer_isBefore.f out own (n : Int) sg = some (isB out own n sg) := by
  cases n with
  | zero => unfold g_source_squeezer_isBefore.f; rfl
  | succ n =>
    have hw : w64 (((n + 1 : Nat) : Int) - 1) = (n : Int) := by rw [w64_id] <;> omega
    unfold g_source_squeezer_isBefore.f isB
    rw [hw, if_pos (decide_eq_true (by omega)), if_pos ⟨by omega, by omega⟩, if_pos ⟨by omega, by omega⟩, indexByte_eq, gt_nat, gt_nat]
    simp only [Option.bind_some, idxB_ge]
    cases own.getD n default <;> simp
/-- Where the digits of a Hollerith constant begin. -/
def hol (out : List UInt8) (own : List Bool) : Option Nat :=
  let b := dg (pD out own) out.length
  if b = out.length then none else if isB out own b [40, 44, 47, 61] then some b else if isB out own b [42] then
    (let k := dg (pD out own) (b - 1)
     if k < b - 1 ∧ isB out own k [40, 44, 47, 61] = true then some b else none) else none
theorem hollerith_f {out : List UInt8} {own : List Bool} (hl : out.length = own.length) (hs : own.length < 1000000) :
    ∃ d : Int, g_source_squeezer_hollerith.f out own = some (match hol out own with | some b => ((b : Int), true) | none => (d, false)) := by
  have hle := dg_le (pD out own) out.length
  have hf := digits_f hl hs out.length (by omega)
  unfold g_source_squeezer_hollerith.f hol
  rw [hf]
  simp only [Option.bind_some]
  generalize dg (pD out own) out.length = b at *
  by_cases hb : b = out.length
  · rw [if_pos (by simp [hb]), if_pos hb]; exact ⟨_, rfl⟩
  · rw [if_neg (by simp; omega), if_neg hb, isBefore_f hl hs b (by omega)]
    simp only [Option.bind_some]
    cases h1 : isB out own b [40, 44, 47, 61]
    · simp only [Bool.false_eq_true, if_false]
      rw [isBefore_f hl hs b (by omega)]
      simp only [Option.bind_some]
      cases h2 : isB out own b [42]
      · simp only [Bool.not_false, Bool.false_eq_true, if_false, if_true]; exact ⟨_, rfl⟩
      · simp only [Bool.not_true, Bool.false_eq_true, if_false, if_true]
        have hb0 : 0 < b := by
          cases b with
          | zero => simp [isB] at h2
          | succ b => omega
        have hw : w64 ((b : Int) - 1) = ((b - 1 : Nat) : Int) := by rw [w64_id] <;> omega
        have hk := dg_le (pD out own) (b - 1)
        rw [hw, digits_f hl hs (b - 1) (by omega)]
        simp only [Option.bind_some]
        generalize dg (pD out own) (b - 1) = k at *
        rw [isBefore_f hl hs k (by omega)]
        simp only [Option.bind_some]
        by_cases h3 : k < b - 1
        · rw [if_pos (decide_eq_true (by omega))]
          cases h4 : isB out own k [40, 44, 47, 61]
          · rw [if_neg (by simp)]; exact ⟨_, rfl⟩
          · rw [if_pos ⟨h3, rfl⟩]; exact ⟨0, rfl⟩
        · rw [if_neg (by simp; omega), if_neg (by omega)]; exact ⟨_, rfl⟩
    · simp only [if_true]; exact ⟨0, trivial⟩
end Go.Proofs.YtjcbhbncncbdjaaGreatDoorAi

namespace Go.Proofs.YtjcbhbncncbdjaaGreatDoorAi
open Go Go.RowKit
set_option linter.unusedVariables false
set_option linter.unusedSimpArgs false

def piece (t : List UInt8) (a n : Nat) : List UInt8 := (t.drop a).take n
def rng (a : Nat) : Nat → List Int
  | 0 => []
  | n + 1 => (a : Int) :: rng (a + 1) n
theorem rng_len (a n : Nat) : (rng a n).length = n := by
  induction n generalizing a with
  | zero => rfl
  | succ n ih => show (rng (a + 1) n).length + 1 = _; rw [ih]
theorem piece_zero (t : List UInt8) (a : Nat) : piece t a 0 = [] := rfl
theorem piece_succ {t : List UInt8} {a : Nat} (n : Nat) (h : a < t.length) : piece t a (n + 1) = t.getD a default :: piece t (a + 1) n := by
  unfold piece
  rw [List.drop_eq_getElem_cons h, List.take_succ_cons, List.getD_eq_getElem?_getD, List.getElem?_eq_getElem h]
  rfl
theorem piece_len {t : List UInt8} {a n : Nat} (h : a + n ≤ t.length) : (piece t a n).length = n := by
  unfold piece
  rw [List.length_take, List.length_drop]; omega
theorem put_f {out : List UInt8} {frm : List Int} {own : List Bool} (h1 : out.length < 1000000) (h2 : frm.length < 1000000) (h3 : own.length < 1000000) (c : UInt8) (a : Int) (b : Bool) :
    g_source_squeezer_put.f out frm own c a b = some (out ++ [c], frm ++ [a], own ++ [b]) := by
  unfold g_source_squeezer_put.f
  rw [if_pos (by simp only [List.length_cons, List.length_nil]; omega), if_pos (by simp only [List.length_cons, List.length_nil]; omega), if_pos (by simp only [List.length_cons, List.length_nil]; omega)]
theorem constant_iter {t : List UInt8} (ht : t.length < 10000) : ∀ (n a : Nat) (out : List UInt8) (frm : List Int) (own : List Bool), a + n ≤ t.length → out.length + n < 900000 → frm.length + n < 900000 → own.length + n < 900000 →
    iter (g_source_squeezer_constant.b0 t ((a + n : Nat) : Int)) ((a : Int), out, frm, own) = some (((a + n : Nat) : Int), out ++ piece t a n, frm ++ rng a n, own ++ List.replicate n true)
  | 0, a, out, frm, own, h, _, _, _ => iter_stop (by
      unfold g_source_squeezer_constant.b0
      rw [if_neg (by simp)]
      simp [piece_zero, rng])
  | n + 1, a, out, frm, own, h, h1, h2, h3 => by
    have ih := constant_iter ht n (a + 1) (out ++ [t.getD a default]) (frm ++ [(a : Int)]) (own ++ [true]) (by omega) (by simp; omega) (by simp; omega) (by simp; omega)
    rw [show a + 1 + n = a + (n + 1) by omega] at ih
    rw [iter_next (y := (((a + 1 : Nat) : Int), out ++ [t.getD a default], frm ++ [(a : Int)], own ++ [true])) (by
      unfold g_source_squeezer_constant.b0
      rw [if_pos (decide_eq_true (by simp only; omega)), if_pos ⟨by simp only; omega, by simp only; omega⟩]
      simp only
      rw [put_f (by omega) (by omega) (by omega), Option.bind_some, w64_id (by omega) (by omega), gt_nat]
      rfl), ih, piece_succ n (by omega)]
    simp [rng, List.replicate_succ]
theorem constant_f {t : List UInt8} (ht : t.length < 10000) {n a : Nat} {out : List UInt8} {frm : List Int} {own : List Bool} (h : a + n ≤ t.length) (h1 : out.length < 800000) (h2 : frm.length < 800000) (h3 : own.length < 800000) :
    g_source_squeezer_constant.f t out frm own (a : Int) ((a + n : Nat) : Int) = some (out ++ piece t a n, frm ++ rng a n, own ++ List.replicate n true) := by
  unfold g_source_squeezer_constant.f
  rw [constant_iter ht n a out frm own h (by omega) (by omega) (by omega)]; rfl
def upC (c : UInt8) : UInt8 := if 97 ≤ c.toNat ∧ c.toNat ≤ 122 then c - 32 else c
def valL (acc : Nat) (l : List UInt8) : Nat := l.foldl (fun a c => a * 10 + (c.toNat - 48)) acc
theorem valL_nil (acc : Nat) : valL acc [] = acc := rfl
theorem valL_cons (acc : Nat) (c : UInt8) (r : List UInt8) : valL acc (c :: r) = valL (acc * 10 + (c.toNat - 48)) r := by unfold valL; rw [List.foldl_cons]
theorem valL_ge : ∀ (l : List UInt8) (acc : Nat), acc ≤ valL acc l
  | [], acc => Nat.le_refl _
  | c :: r, acc => by
    rw [valL_cons]
    exact Nat.le_trans (Nat.le_trans (Nat.le_mul_of_pos_right acc (by decide)) (Nat.le_add_right _ _)) (valL_ge r _)
theorem pu10 : ∀ (l : List UInt8) (acc : Nat), acc < 18446744073709551616 → l.all isDg = true → Lib.parseUint10 acc l = if valL acc l < 18446744073709551616 then .ok (valL acc l) else .range
  | [], acc, h, _ => by
    rw [valL_nil, if_pos h]; rfl
  | c :: r, acc, h, ha => by
    simp only [List.all_cons, Bool.and_eq_true] at ha
    have hc := isDg_iff.1 ha.1
    have ih := fun h => pu10 r (acc * 10 + (c.toNat - 48)) h ha.2
    have hg := valL_ge r (acc * 10 + (c.toNat - 48))
    rw [valL_cons, Lib.parseUint10, if_pos hc]
    generalize valL (acc * 10 + (c.toNat - 48)) r = z at *
    generalize c.toNat - 48 = d at *
    split
    · rw [if_neg (by omega)]
    · split
      · rw [if_neg (by omega)]
      · exact ih (by omega)
theorem atoi_digits {l : List UInt8} (h0 : l ≠ []) (ha : l.all isDg = true) : Lib.atoiAll l = if valL 0 l < 9223372036854775808 then .ok (valL 0 l : Int) else .range := by
  cases l with
  | nil => exact absurd rfl h0
  | cons c r =>
    have hc := isDg_iff.1 (show isDg c = true by simp at ha; exact ha.1)
    unfold Lib.atoiAll
    simp only
    rw [if_neg (by omega)]
    unfold Lib.parseMag
    rw [if_neg (List.cons_ne_nil c r), pu10 _ _ (by omega) ha]
    generalize valL 0 (c :: r) = v
    by_cases h1 : v < 18446744073709551616
    · rw [if_pos h1]
      simp only
      by_cases h2 : v < 9223372036854775808
      · rw [if_neg (by omega), if_neg (by omega), if_neg (by omega), if_pos h2]
      · rw [if_pos (by omega), if_neg h2]
    · rw [if_neg h1, if_neg (by omega)]
theorem atoi_f {l : List UInt8} (h0 : l ≠ []) (ha : l.all isDg = true) (hl : l.length < 1000000) : g_atoi.f l = if valL 0 l < 9223372036854775808 then some ((valL 0 l : Int), false) else some (9223372036854775807, true) := by
  unfold g_atoi.f
  rw [if_pos (by omega), atoi_digits h0 ha]
  by_cases h : valL 0 l < 9223372036854775808
  · rw [if_pos h, if_pos h]
  · rw [if_neg h, if_neg h]
    simp only
    have : Lib.atoiSat l = 9223372036854775807 := by
      cases l with
      | nil => exact absurd rfl h0
      | cons c r =>
        have hc := isDg_iff.1 (show isDg c = true by simp at ha; exact ha.1)
        unfold Lib.atoiSat
        rw [if_neg (by simp; omega)]
    rw [this]
/-- One step of squeezing: an error, or: the place behind it, the characters, which are of a constant, the constants. -/
def stp (t : List UInt8) (a : Nat) (out : List UInt8) (own : List Bool) (frm : List Int) : Except Int (Nat × List UInt8 × List Bool × List (Int × Int)) :=
  let c := t.getD a default
  if c = 39 ∨ c = 34 then
    match (t.drop (a + 1)).findIdx? (· == c) with
    | none => .error 21
    | some n => .ok (a + (n + 2), piece t a (n + 2), List.replicate (n + 2) true, [((a : Int), ((a + (n + 2) : Nat) : Int))])
  else match (if upC c = 72 then hol out own else none) with
    | some b =>
      let n := valL 0 (out.drop b)
      if t.length < a + 1 + n then .error 21 else if n = 0 then .error 11 else
        .ok (a + 1 + n, 72 :: piece t (a + 1) n, false :: List.replicate n true, [(frm.getD b default, ((a + 1 + n : Nat) : Int))])
    | none => if upC c = 32 then .ok (a + 1, [], [], []) else .ok (a + 1, [upC c], [false], [])
/-- The digits before a Hollerith constant's H. -/
theorem hol_some {out : List UInt8} {own : List Bool} {b : Nat} (h : hol out own = some b) : b < out.length ∧ (out.drop b).all isDg = true ∧ 0 < b := by
  unfold hol at h
  have hle := dg_le (pD out own) out.length
  have hall := dg_all (pD out own) out.length
  simp only at h
  generalize dg (pD out own) out.length = d at *
  have key : d < out.length → (out.drop d).all isDg = true := fun hd => by
    rw [List.all_eq_true]
    intro x hx
    obtain ⟨i, hi, rfl⟩ := List.mem_iff_getElem.1 hx
    rw [List.length_drop] at hi
    rw [List.getElem_drop]
    have := hall (d + i) (by omega) (by omega)
    unfold pD at this
    rw [Bool.and_eq_true, List.getD_eq_getElem?_getD (l := out), List.getElem?_eq_getElem (by omega)] at this
    exact this.2
  have pos : ∀ sg, isB out own d sg = true → 0 < d := fun sg hs => by
    cases d with
    | zero => simp [isB] at hs
    | succ d => omega
  split at h
  · cases h
  · split at h
    · rename_i h1 h2
      obtain rfl := Option.some.inj h
      exact ⟨by omega, key (by omega), pos _ h2⟩
    · split at h
      · split at h
        · rename_i h1 h2 h3 h4
          obtain rfl := Option.some.inj h
          exact ⟨by omega, key (by omega), pos _ h3⟩
        · cases h
      · cases h
end Go.Proofs.YtjcbhbncncbdjaaGreatDoorAi

namespace Go.Proofs.YtjcbhbncncbdjaaGreatDoorAi
open Go Go.RowKit
set_option linter.unusedVariables false
set_option linter.unusedSimpArgs false

theorem mid_all {α : Type} (l : List α) (n : Nat) : mid l (n : Int) (l.length : Int) = l.drop n := by
  unfold mid
  rw [Int.toNat_natCast, Int.toNat_natCast, List.take_length]
theorem u8eq (a b : UInt8) : ((a.toNat : Int) == (b.toNat : Int)) = decide (a = b) := by
  by_cases h : a = b
  · subst h; simp
  · rw [decide_eq_false h]
    exact beq_eq_false_iff_ne.2 fun e => h (UInt8.toNat_inj.1 (by omega))
theorem isQuote_f (c : UInt8) : g_source_isQuote.f c = some (decide (c = 39) || decide (c = 34)) := by
  unfold g_source_isQuote.f
  rw [u8eq, u8eq]
/-- What a step makes of what was there. -/
def enc (out : List UInt8) (frm : List Int) (own : List Bool) (cs : List (Int × Int)) (a : Nat) : Except Int (Nat × List UInt8 × List Bool × List (Int × Int)) → Int × Int × List UInt8 × List Int × List Bool × List (Int × Int)
  | .error e => (0, e, out, frm, own, cs)
  | .ok (a', o, w, c) => ((a' : Int), 0, out ++ o, frm ++ rng a o.length, own ++ w, cs ++ c)
theorem character_f {t : List UInt8} (ht : t.length < 10000) {a : Nat} (ha : a < t.length) {out : List UInt8} {frm : List Int} {own : List Bool} {cs : List (Int × Int)} (h1 : out.length < 800000) (h2 : frm.length < 800000) (h3 : own.length < 800000) (h4 : cs.length < 800000) :
    g_source_squeezer_character.f t out frm own cs (a : Int) = some (enc out frm own cs a (match (t.drop (a + 1)).findIdx? (· == t.getD a default) with
    | none => .error 21
    | some n => .ok (a + (n + 2), piece t a (n + 2), List.replicate (n + 2) true, [((a : Int), ((a + (n + 2) : Nat) : Int))]))) := by
  have hw : w64 ((a : Int) + 1) = ((a + 1 : Nat) : Int) := by rw [w64_id] <;> omega
  unfold g_source_squeezer_character.f
  rw [hw, if_pos ⟨by omega, by omega, Int.le_refl _⟩, if_pos ⟨by omega, by omega⟩, indexByte_eq, mid_all, gt_nat, Option.bind_some]
  unfold idxB
  cases h : (t.drop (a + 1)).findIdx? (· == t.getD a default) with
  | none => rfl
  | some n =>
    obtain ⟨hn, _, _⟩ := List.findIdx?_eq_some_iff_getElem.1 h
    rw [List.length_drop] at hn
    have hw2 : w64 (w64 ((a : Int) + (n : Int)) + 2) = ((a + (n + 2) : Nat) : Int) := by rw [w64_id (x := (a : Int) + (n : Int)) (by omega) (by omega), w64_id] <;> omega
    rw [if_neg (by simp), hw2, if_pos (by simp only [List.length_cons, List.length_nil]; omega), constant_f ht (by omega) h1 h2 h3, Option.bind_some]
    simp only [enc]
    rw [piece_len (by omega)]
theorem count_f {t : List UInt8} (ht : t.length < 10000) {a : Nat} (ha : a < t.length) {out : List UInt8} {frm : List Int} {own : List Bool} {cs : List (Int × Int)} (h1 : out.length < 700000) (h2 : frm.length = out.length) (h3 : own.length < 700000) (h4 : cs.length < 800000)
    {b : Nat} (hb : b < out.length) (hd : (out.drop b).all isDg = true) :
    g_source_squeezer_count.f t out frm own cs (b : Int) (a : Int) = some (enc out frm own cs a (
      if t.length < a + 1 + valL 0 (out.drop b) then .error 21 else if valL 0 (out.drop b) = 0 then .error 11 else
        .ok (a + 1 + valL 0 (out.drop b), 72 :: piece t (a + 1) (valL 0 (out.drop b)), false :: List.replicate (valL 0 (out.drop b)) true, [(frm.getD b default, ((a + 1 + valL 0 (out.drop b) : Nat) : Int))]))) := by
  have hne : out.drop b ≠ [] := fun e => by
    have := congrArg List.length e
    rw [List.length_drop] at this
    simp at this; omega
  have hw : w64 (w64 ((t.length : Int) - (a : Int)) - 1) = ((t.length - a - 1 : Nat) : Int) := by rw [w64_id (x := (t.length : Int) - (a : Int)) (by omega) (by omega), w64_id] <;> omega
  unfold g_source_squeezer_count.f
  rw [if_pos ⟨by omega, by omega, Int.le_refl _⟩, mid_all, atoi_f hne hd (by rw [List.length_drop]; omega)]
  generalize valL 0 (out.drop b) = v
  by_cases hv : v < 9223372036854775808
  · rw [if_pos hv, Option.bind_some]
    simp only [Bool.false_or, hw]
    by_cases hq : t.length < a + 1 + v
    · rw [if_pos (decide_eq_true (by omega)), if_pos hq]; rfl
    · rw [if_neg (by simp; omega), if_neg hq]
      by_cases h0 : v = 0
      · subst h0; rfl
      · have hw2 : w64 ((a : Int) + 1) = ((a + 1 : Nat) : Int) := by rw [w64_id] <;> omega
        have hw3 : w64 (((a + 1 : Nat) : Int) + (v : Int)) = ((a + 1 + v : Nat) : Int) := by rw [w64_id] <;> omega
        rw [if_neg (by simp; omega), if_neg h0, if_pos ⟨by omega, by omega⟩, if_pos (by simp only [List.length_cons, List.length_nil]; omega), put_f (by omega) (by omega) (by omega), Option.bind_some]
        simp only
        rw [hw2, hw3, constant_f ht (n := v) (a := a + 1) (by omega) (by simp; omega) (by simp; omega) (by simp; omega), Option.bind_some]
        simp only [enc, gt_nat, List.append_assoc, List.singleton_append]
        rw [List.length_cons, piece_len (by omega)]
        rfl
  · rw [if_neg hv, Option.bind_some, if_pos (show t.length < a + 1 + v by omega), if_pos (by simp)]; rfl
theorem upC_eq (c : UInt8) : (if ((decide (((97 : UInt8).toNat : Int) ≤ (c.toNat : Int))) && (decide ((c.toNat : Int) ≤ ((122 : UInt8).toNat : Int)))) = true then some (c - 32) else some c) = some (upC c) := by
  have e1 : ((97 : UInt8).toNat : Int) = 97 := rfl
  have e2 : ((122 : UInt8).toNat : Int) = 122 := rfl
  rw [e1, e2]
  unfold upC
  by_cases h : 97 ≤ c.toNat ∧ c.toNat ≤ 122
  · rw [if_pos h, if_pos (by simp; omega)]
  · rw [if_neg h, if_neg (by simp; omega)]
/-- The place, the lengths. -/
structure Fine (t : List UInt8) (a : Nat) (out : List UInt8) (frm : List Int) (own : List Bool) (cs : List (Int × Int)) : Prop where
  lt : t.length < 10000
  la : a ≤ t.length
  lo : out.length ≤ a
  lf : frm.length = out.length
  lw : own.length = out.length
  lc : cs.length ≤ a
theorem next_f {t : List UInt8} {a : Nat} {out : List UInt8} {frm : List Int} {own : List Bool} {cs : List (Int × Int)} (h : Fine t a out frm own cs) (ha : a < t.length) :
    g_source_squeezer_next.f t out frm own cs (a : Int) = some (enc out frm own cs a (stp t a out own frm)) := by
  obtain ⟨h1, h2, h3, h4, h5, h6⟩ := h
  unfold g_source_squeezer_next.f
  rw [if_pos ⟨by omega, by omega⟩, gt_nat, isQuote_f, Option.bind_some]
  unfold stp
  simp only
  by_cases hq : t.getD a default = 39 ∨ t.getD a default = 34
  · rw [if_pos (by simpa using hq), if_pos hq, character_f h1 ha (by omega) (by omega) (by omega) (by omega)]
    rfl
  · rw [if_neg (by simpa using hq), if_neg hq, upC_eq, Option.bind_some]
    have hend : Option.bind ((if ((((upC (t.getD a default)).toNat : Int) != ((32 : UInt8).toNat : Int))) = true then Option.bind (g_source_squeezer_put.f out frm own (upC (t.getD a default)) (a : Int) false) fun y => some (y.1, y.2.1, y.2.2) else some (out, frm, own))) (fun z => some ((w64 ((a : Int) + 1)), (0 : Int), z.1, z.2.1, z.2.2, cs)) =
        some (enc out frm own cs a (if upC (t.getD a default) = 32 then .ok (a + 1, [], [], []) else .ok (a + 1, [upC (t.getD a default)], [false], []))) := by
      rw [bne, u8eq, w64_id (by omega) (by omega)]
      by_cases h32 : upC (t.getD a default) = 32
      · rw [if_pos h32, if_neg (by rw [decide_eq_true h32]; decide)]
        simp [enc, rng]
      · rw [if_neg h32, if_pos (by rw [decide_eq_false h32]; rfl), put_f (by omega) (by omega) (by omega)]
        simp [enc, rng]
    rw [u8eq]
    by_cases h72 : upC (t.getD a default) = 72
    · rw [if_pos (decide_eq_true h72), if_pos h72]
      obtain ⟨d, hd⟩ := hollerith_f (out := out) (own := own) (by omega) (by omega)
      rw [hd, Option.bind_some]
      cases hh : hol out own with
      | none => simp only [Bool.false_eq_true, if_false]; exact hend
      | some b =>
        obtain ⟨k1, k2, _⟩ := hol_some hh
        simp only [if_true]
        rw [count_f h1 ha (by omega) (by omega) (by omega) (by omega) k1 k2]
        rfl
    · rw [if_neg (by rw [decide_eq_false h72]; decide), if_neg h72]
      exact hend
end Go.Proofs.YtjcbhbncncbdjaaGreatDoorAi

namespace Go.Proofs.YtjcbhbncncbdjaaGreatDoorAi
open Go Go.RowKit
set_option linter.unusedVariables false
set_option linter.unusedSimpArgs false

theorem get_bang (l : List UInt8) (i : Nat) : (⟨l.toArray⟩ : ByteArray).get! i = l.getD i default := by
  show l.toArray[i]! = _
  simp [List.getD_eq_getElem?_getD]
theorem dec_lo {l : List UInt8} {p : Nat} (h : (l.getD p default).toNat < 128) : dec l p = ((l.getD p default).toNat, 1) := by
  unfold dec Utf8.decode
  simp only [Nat.add_zero, get_bang]
  rw [if_pos h]
theorem dec_hi {l : List UInt8} {p : Nat} (h : ¬ (l.getD p default).toNat < 128) : 126 < (dec l p).1 := by
  unfold dec Utf8.decode
  simp only [Nat.add_zero, get_bang]
  rw [if_neg h]
  split
  · split
    · simp only; omega
    · decide
  · split
    · split
      · rename_i h2
        simp only [Bool.and_eq_true, decide_eq_true_eq] at h2
        simp only; omega
      · decide
    · split
      · split
        · rename_i h2
          simp only [Bool.and_eq_true, decide_eq_true_eq] at h2
          simp only; omega
        · decide
      · decide
def shown (c : UInt8) : Bool := decide (32 ≤ c.toNat) && decide (c.toNat ≤ 126)
theorem notShown_eq (r : Nat) : g_source_isShown_1.f (r : Int) 32 = some (!(decide (32 ≤ r) && decide (r ≤ 126))) := by
  unfold g_source_isShown_1.f
  have : IntKind.i32.wrap (((32 : UInt8).toNat : Nat) : Int) = 32 := by decide
  rw [this]
  congr 1
  by_cases h1 : 32 ≤ r <;> by_cases h2 : r ≤ 126 <;> simp [h1, h2] <;> omega
theorem drop_getD {t : List UInt8} {a : Nat} (h : a < t.length) : t.drop a = t.getD a default :: t.drop (a + 1) := by
  rw [List.drop_eq_getElem_cons h, List.getD_eq_getElem?_getD, List.getElem?_eq_getElem h]; rfl
theorem indexFunc_iter (t : List UInt8) : ∀ d x : Nat, x + d = t.length →
    if (t.drop x).all shown = true then iter (g_strings_indexFunc_1.b0 t 32 true) x = some (.inl t.length) else ∃ k : Nat, iter (g_strings_indexFunc_1.b0 t 32 true) x = some (.inr (k : Int))
  | 0, x, h => by
    rw [show x = t.length by omega, List.drop_length]
    exact iter_stop (by unfold g_strings_indexFunc_1.b0; rw [if_neg (by simp)])
  | d + 1, x, h => by
    have ih := indexFunc_iter t d (x + 1) (by omega)
    have key : g_strings_indexFunc_1.b0 t 32 true x = if (decide (32 ≤ (dec t x).1) && decide ((dec t x).1 ≤ 126)) = true then some (.inl (x + (dec t x).2)) else some (.inr (.inr (x : Int))) := by
      unfold g_strings_indexFunc_1.b0
      rw [if_pos (decide_eq_true (by omega)), notShown_eq, Option.bind_some]
      cases (decide (32 ≤ (dec t x).1) && decide ((dec t x).1 ≤ 126)) <;> rfl
    rw [drop_getD (by omega), List.all_cons]
    by_cases hb : (t.getD x default).toNat < 128
    · rw [dec_lo hb] at key
      cases hs : shown (t.getD x default)
      · rw [Bool.false_and, if_neg (by decide)]
        unfold shown at hs
        exact ⟨x, iter_stop (key.trans (if_neg (by rw [hs]; decide)))⟩
      · rw [Bool.true_and]
        unfold shown at hs
        rw [iter_next (key.trans (if_pos hs))]
        exact ih
    · have hh := dec_hi hb
      have hs : shown (t.getD x default) = false := by unfold shown; rw [decide_eq_false (show ¬ (t.getD x default).toNat ≤ 126 by omega), Bool.and_false]
      rw [hs, Bool.false_and, if_neg (by decide)]
      exact ⟨x, iter_stop (key.trans (if_neg (by rw [decide_eq_false (show ¬ (dec t x).1 ≤ 126 by omega), Bool.and_false]; decide)))⟩
theorem isShown_f (t : List UInt8) : g_source_isShown.f t 32 = some (t.all shown) := by
  have h := indexFunc_iter t t.length 0 (by omega)
  rw [List.drop_zero] at h
  unfold g_source_isShown.f g_strings_IndexFunc_1.f g_strings_indexFunc_1.f
  cases hs : t.all shown
  · rw [hs, if_neg (by decide)] at h
    obtain ⟨k, hk⟩ := h
    rw [hk]
    simp [onSum]
  · rw [hs, if_pos rfl] at h
    rw [h]
    simp [onSum]
theorem first2 (a b : Int) : g_source_first.f [a, b] = some (if a ≠ 0 then a else b) := by
  have s0 : g_source_first.b0 [a, b] 0 = if (a != 0) = true then some (.inr (.inr a)) else some (.inl 1) := rfl
  have s1 : g_source_first.b0 [a, b] 1 = if (b != 0) = true then some (.inr (.inr b)) else some (.inl 2) := rfl
  have s2 : g_source_first.b0 [a, b] 2 = some (.inr (.inl 2)) := rfl
  unfold g_source_first.f
  by_cases ha : a = 0
  · subst ha
    rw [iter_next (s0.trans (if_neg (by simp))), if_neg (by simp)]
    by_cases hb : b = 0
    · subst hb
      rw [iter_next (s1.trans (if_neg (by simp))), iter_stop s2]; rfl
    · rw [iter_stop (s1.trans (if_pos (by simp [hb])))]; rfl
  · rw [iter_stop (s0.trans (if_pos (by simp [ha]))), if_pos ha]; rfl
/-- The error of a text. -/
def tErr (t : List UInt8) : Int := if 1320 < t.length then 8 else if t.all shown = true then 0 else 3
theorem textErr_f (t : List UInt8) : g_source_textErr.f t = some (tErr t) := by
  unfold g_source_textErr.f g_source_unless.f tErr
  rw [isShown_f]
  by_cases h : 1320 < t.length
  · rw [if_neg (by simp; omega), if_pos h]
    cases t.all shown <;> simp [first2]
  · rw [if_pos (by simp; omega), if_neg h]
    cases t.all shown <;> simp [first2]
theorem within_eq (c : UInt8) : g_base_Within.f (IntKind.i64.wrap (c.toNat : Int)) 32 126 = some (shown c) := by
  have hc := c.toNat_lt
  have : IntKind.i64.wrap (c.toNat : Int) = (c.toNat : Int) := w64_id (by omega) (by omega)
  rw [this]
  unfold g_base_Within.f shown
  congr 1
  by_cases h1 : 32 ≤ c.toNat <;> by_cases h2 : c.toNat ≤ 126 <;> simp [h1, h2] <;> omega
theorem isText_iter (t : List UInt8) (ht : t.length < 10000) : ∀ d x : Nat, x + d = t.length →
    iter (g_base_IsText.b0 t) (x : Int) = if (t.drop x).all shown = true then some (.inl (t.length : Int)) else some (.inr false)
  | 0, x, h => by
    rw [show x = t.length by omega, List.drop_length]
    exact iter_stop (by unfold g_base_IsText.b0; rw [if_neg (by simp)])
  | d + 1, x, h => by
    have ih := isText_iter t ht d (x + 1) (by omega)
    have key : g_base_IsText.b0 t (x : Int) = if shown (t.getD x default) = true then some (.inl ((x + 1 : Nat) : Int)) else some (.inr (.inr false)) := by
      unfold g_base_IsText.b0
      rw [if_pos (decide_eq_true (by omega)), if_pos ⟨by omega, by omega⟩, gt_nat, within_eq, Option.bind_some, w64_id (by omega) (by omega)]
      cases shown (t.getD x default) <;> rfl
    rw [drop_getD (by omega), List.all_cons]
    cases hs : shown (t.getD x default)
    · rw [hs, if_neg (by decide)] at key
      rw [iter_stop key]; rfl
    · rw [hs, if_pos rfl] at key
      rw [iter_next key, ih]; rfl
theorem refTextErr_f (t : List UInt8) (ht : t.length < 10000) : g_ref01_TextErr.f t = some (tErr t) := by
  unfold g_ref01_TextErr.f tErr
  by_cases h : 1320 < t.length
  · rw [if_pos (by simp; omega), if_pos h]
  · have := isText_iter t ht t.length 0 (by omega)
    rw [List.drop_zero] at this
    unfold g_base_IsText.f
    rw [if_neg (by simp; omega), if_neg h, if_neg (by simp; omega)]
    show Option.bind (Option.bind (iter (g_base_IsText.b0 t) ((0 : Nat) : Int)) _) _ = _
    rw [this]
    cases t.all shown <;> simp [onSum]
/-! ### the loop -/
theorem stp_fine {t : List UInt8} {a : Nat} {out : List UInt8} {frm : List Int} {own : List Bool} {cs : List (Int × Int)} (h : Fine t a out frm own cs) (ha : a < t.length) {a' : Nat} {o : List UInt8} {w : List Bool} {c : List (Int × Int)} (hs : stp t a out own frm = .ok (a', o, w, c)) :
    a < a' ∧ Fine t a' (out ++ o) (frm ++ rng a o.length) (own ++ w) (cs ++ c) ∧ o.length = w.length := by
  obtain ⟨h1, h2, h3, h4, h5, h6⟩ := h
  have key : a < a' ∧ a' ≤ t.length ∧ o.length ≤ a' - a ∧ w.length = o.length ∧ c.length ≤ 1 := by
    unfold stp at hs
    simp only at hs
    split at hs
    · split at hs
      · cases hs
      · rename_i n hn
        obtain ⟨hn, _, _⟩ := List.findIdx?_eq_some_iff_getElem.1 hn
        rw [List.length_drop] at hn
        simp only [Except.ok.injEq, Prod.mk.injEq] at hs
        obtain ⟨rfl, rfl, rfl, rfl⟩ := hs
        rw [piece_len (by omega), List.length_replicate]
        exact ⟨by omega, by omega, by omega, rfl, Nat.le_refl _⟩
    · split at hs
      · split at hs
        · cases hs
        · split at hs
          · cases hs
          · simp only [Except.ok.injEq, Prod.mk.injEq] at hs
            obtain ⟨rfl, rfl, rfl, rfl⟩ := hs
            rw [List.length_cons, piece_len (by omega), List.length_cons, List.length_replicate]
            exact ⟨by omega, by omega, by omega, rfl, Nat.le_refl _⟩
      · split at hs
        · simp only [Except.ok.injEq, Prod.mk.injEq] at hs
          obtain ⟨rfl, rfl, rfl, rfl⟩ := hs
          exact ⟨by omega, by omega, by simp, rfl, by simp⟩
        · simp only [Except.ok.injEq, Prod.mk.injEq] at hs
          obtain ⟨rfl, rfl, rfl, rfl⟩ := hs
          exact ⟨by omega, by omega, by simp, rfl, by simp⟩
  obtain ⟨k1, k2, k3, k4, k5⟩ := key
  refine ⟨k1, ⟨h1, k2, ?_, ?_, ?_, ?_⟩, k4.symm⟩
  · rw [List.length_append]; omega
  · rw [List.length_append, List.length_append, rng_len]; omega
  · rw [List.length_append, List.length_append]; omega
  · rw [List.length_append]; omega
theorem stp_err {t : List UInt8} {a : Nat} {out : List UInt8} {frm : List Int} {own : List Bool} {e : Int} (hs : stp t a out own frm = .error e) : e = 21 ∨ e = 11 := by
  unfold stp at hs
  simp only at hs
  split at hs
  · split at hs
    · simp only [Except.error.injEq] at hs; exact .inl hs.symm
    · cases hs
  · split at hs
    · split at hs
      · simp only [Except.error.injEq] at hs; exact .inl hs.symm
      · split at hs
        · simp only [Except.error.injEq] at hs; exact .inr hs.symm
        · cases hs
    · split at hs <;> cases hs
/-- Squeezing from a place on, in so many rounds. -/
def sqz (t : List UInt8) : Nat → Nat → List UInt8 → List Int → List Bool → List (Int × Int) → Except Int (List UInt8 × List Int × List Bool × List (Int × Int))
  | 0, _, out, frm, own, cs => .ok (out, frm, own, cs)
  | n + 1, a, out, frm, own, cs => if a < t.length then
      match stp t a out own frm with
      | .error e => .error e
      | .ok (a', o, w, c) => sqz t n a' (out ++ o) (frm ++ rng a o.length) (own ++ w) (cs ++ c)
    else .ok (out, frm, own, cs)
theorem squeeze_iter {t : List UInt8} : ∀ (n a : Nat) (out : List UInt8) (frm : List Int) (own : List Bool) (cs : List (Int × Int)), Fine t a out frm own cs → t.length < a + n →
    iter (g_source_squeeze.b0 t) ((a : Int), out, frm, own, cs) = some (match sqz t n a out frm own cs with | .error e => .inr (none, e) | .ok r => .inl ((t.length : Int), r))
  | 0, a, out, frm, own, cs, h, hn => absurd h.la (by omega)
  | n + 1, a, out, frm, own, cs, h, hn => by
    unfold sqz
    by_cases ha : a < t.length
    · rw [if_pos ha]
      have key : g_source_squeeze.b0 t ((a : Int), out, frm, own, cs) = match stp t a out own frm with | .error e => some (.inr (.inr (none, e))) | .ok (a', o, w, c) => some (.inl ((a' : Int), out ++ o, frm ++ rng a o.length, own ++ w, cs ++ c)) := by
        unfold g_source_squeeze.b0
        rw [if_pos (decide_eq_true (by simp only; omega))]
        simp only
        rw [next_f h ha, Option.bind_some]
        cases hs : stp t a out own frm with
        | error e =>
          rcases stp_err hs with rfl | rfl <;> rfl
        | ok r => rfl
      cases hs : stp t a out own frm with
      | error e =>
        rw [hs] at key
        exact iter_stop key
      | ok r =>
        obtain ⟨a', o, w, c⟩ := r
        rw [hs] at key
        obtain ⟨k1, k2, _⟩ := stp_fine h ha hs
        rw [iter_next key]
        exact squeeze_iter n a' _ _ _ _ k2 (by omega)
    · rw [if_neg ha]
      have := h.la
      rw [show a = t.length by omega]
      exact iter_stop (by
        unfold g_source_squeeze.b0
        rw [if_neg (by simp)])
/-- What squeezing makes of a text. -/
def SQ (t : List UInt8) : Except Int (List UInt8 × List Int × List Bool × List (Int × Int)) := if tErr t ≠ 0 then .error (tErr t) else sqz t (t.length + 1) 0 [] [] [] []
theorem squeeze_f (t : List UInt8) : g_source_squeeze.f t = some (match SQ t with | .error e => (none, e) | .ok r => (some (t, r), 0)) := by
  unfold g_source_squeeze.f SQ
  rw [textErr_f, Option.bind_some]
  by_cases h : tErr t = 0
  · have hl : t.length ≤ 1320 := by
      unfold tErr at h
      split at h
      · cases h
      · omega
    rw [if_neg (by simp [h]), if_neg (by simp [h])]
    have := squeeze_iter (t := t) (t.length + 1) 0 [] [] [] [] ⟨by omega, by omega, Nat.le_refl _, rfl, rfl, Nat.le_refl _⟩ (by omega)
    show Option.bind (iter (g_source_squeeze.b0 t) (((0 : Nat) : Int), _)) _ = _
    rw [this, Option.bind_some]
    cases sqz t (t.length + 1) 0 [] [] [] [] <;> rfl
  · rw [if_pos (by simp [h]), if_pos (by simp [h])]
theorem sqz_err {t : List UInt8} : ∀ (n a : Nat) (out : List UInt8) (frm : List Int) (own : List Bool) (cs : List (Int × Int)) (e : Int), sqz t n a out frm own cs = .error e → e ≠ 0
  | 0, _, _, _, _, _, e, h => by cases h
  | n + 1, a, out, frm, own, cs, e, h => by
    unfold sqz at h
    split at h
    · split at h
      · rename_i e' he
        simp only [Except.error.injEq] at h
        subst h
        rcases stp_err he with rfl | rfl <;> decide
      · exact sqz_err n _ _ _ _ _ e h
    · cases h
theorem SQ_err {t : List UInt8} {e : Int} (h : SQ t = .error e) : e ≠ 0 := by
  unfold SQ at h
  split at h
  · rename_i h0
    simp only [Except.error.injEq] at h
    rw [← h]; exact h0
  · exact sqz_err _ _ _ _ _ _ _ h
theorem Squeezed_f (t : List UInt8) : g_source_Squeezed.f t = some (match SQ t with | .error e => ([], [], e) | .ok r => (r.1, r.2.1, 0)) := by
  unfold g_source_Squeezed.f
  rw [squeeze_f, Option.bind_some]
  cases h : SQ t with
  | error e =>
    have := SQ_err h
    simp [onOpt, this]
  | ok r => rfl
theorem ConstantsIn_f (t : List UInt8) : g_source_ConstantsIn.f t = some (match SQ t with | .error e => ([], e) | .ok r => (r.2.2.2, 0)) := by
  unfold g_source_ConstantsIn.f
  rw [squeeze_f, Option.bind_some]
  cases h : SQ t with
  | error e =>
    have := SQ_err h
    simp [onOpt, this]
  | ok r => rfl
end Go.Proofs.YtjcbhbncncbdjaaGreatDoorAi

namespace Go.Proofs.YtjcbhbncncbdjaaGreatDoorAi
open Go Go.RowKit
set_option linter.unusedVariables false
set_option linter.unusedSimpArgs false

/-! ### where the characters stood -/
def upOk (x c : UInt8) : Prop := c = x ∨ c = upC x
def Bl (t : List UInt8) (p a : Nat) : Prop := ∀ k, p ≤ k → k < a → t.getD k default = 32
/-- From a place to another one: these characters stood at these places, all others are blanks. -/
def Tra (t : List UInt8) : Nat → List UInt8 → List Int → Nat → Prop
  | p, [], [], a => p ≤ a ∧ Bl t p a
  | p, c :: o, x :: f, a => ∃ q : Nat, x = q ∧ p ≤ q ∧ Bl t p q ∧ q < t.length ∧ upOk (t.getD q default) c ∧ Tra t (q + 1) o f a
  | _, _, _, _ => False
theorem Tra.le {t : List UInt8} : ∀ {o : List UInt8} {f : List Int} {p a : Nat}, Tra t p o f a → p ≤ a
  | [], [], p, a, h => h.1
  | c :: o, x :: f, p, a, h => by
    obtain ⟨q, _, h1, _, _, _, h2⟩ := h
    have := Tra.le h2
    omega
  | [], _ :: _, _, _, h => h.elim
  | _ :: _, [], _, _, h => h.elim
theorem Tra.len {t : List UInt8} : ∀ {o : List UInt8} {f : List Int} {p a : Nat}, Tra t p o f a → o.length = f.length
  | [], [], p, a, h => rfl
  | c :: o, x :: f, p, a, h => by
    obtain ⟨q, _, _, _, _, _, h2⟩ := h
    rw [List.length_cons, List.length_cons, Tra.len h2]
  | [], _ :: _, _, _, h => h.elim
  | _ :: _, [], _, _, h => h.elim
theorem Tra.head {t : List UInt8} {p a b : Nat} (hp : p ≤ a) (hb : Bl t p a) : ∀ {o : List UInt8} {f : List Int}, Tra t a o f b → Tra t p o f b
  | [], [], h => ⟨by have := h.1; omega, fun k h1 h2 => by
      by_cases hk : k < a
      · exact hb k h1 hk
      · exact h.2 k (by omega) h2⟩
  | c :: o, x :: f, h => by
    obtain ⟨q, h1, h2, h3, h4⟩ := h
    exact ⟨q, h1, by omega, fun k k1 k2 => by
      by_cases hk : k < a
      · exact hb k k1 hk
      · exact h3 k (by omega) k2, h4⟩
  | [], _ :: _, h => h.elim
  | _ :: _, [], h => h.elim
theorem Tra.app {t : List UInt8} : ∀ {o : List UInt8} {f : List Int} {p a b : Nat} {o2 : List UInt8} {f2 : List Int}, Tra t p o f a → Tra t a o2 f2 b → Tra t p (o ++ o2) (f ++ f2) b
  | [], [], p, a, b, o2, f2, h, k => Tra.head h.1 h.2 k
  | c :: o, x :: f, p, a, b, o2, f2, h, k => by
    obtain ⟨q, h1, h2, h3, h4, h5, h6⟩ := h
    exact ⟨q, h1, h2, h3, h4, h5, Tra.app h6 k⟩
  | [], _ :: _, _, _, _, _, _, h, _ => h.elim
  | _ :: _, [], _, _, _, _, _, h, _ => h.elim
theorem Tra.piece {t : List UInt8} : ∀ (n a : Nat), a + n ≤ t.length → Tra t a (piece t a n) (rng a n) (a + n)
  | 0, a, h => ⟨Nat.le_refl _, fun k h1 h2 => by omega⟩
  | n + 1, a, h => by
    rw [piece_succ n (by omega)]
    refine ⟨a, rfl, Nat.le_refl _, fun k h1 h2 => by omega, by omega, .inl rfl, ?_⟩
    have := Tra.piece (t := t) n (a + 1) (by omega)
    rwa [show a + 1 + n = a + (n + 1) by omega] at this
theorem up_fin2 : ∀ n : Fin 256, (decide (upC (UInt8.ofNat n.val) = 72) = (decide (UInt8.ofNat n.val = 72) || decide (UInt8.ofNat n.val = 104))) ∧ decide (upC (UInt8.ofNat n.val) = 32) = decide (UInt8.ofNat n.val = 32) ∧
    decide (upC (UInt8.ofNat n.val) = 39) = decide (UInt8.ofNat n.val = 39) ∧ decide (upC (UInt8.ofNat n.val) = 34) = decide (UInt8.ofNat n.val = 34) ∧ upC (upC (UInt8.ofNat n.val)) = upC (UInt8.ofNat n.val) ∧ (shown (UInt8.ofNat n.val) = true → shown (upC (UInt8.ofNat n.val)) = true) := by decide +kernel
theorem up_all (c : UInt8) : (upC c = 72 ↔ c = 72 ∨ c = 104) ∧ (upC c = 32 ↔ c = 32) ∧ (upC c = 39 ↔ c = 39) ∧ (upC c = 34 ↔ c = 34) ∧ upC (upC c) = upC c ∧ (shown c = true → shown (upC c) = true) := by
  have h := up_fin2 ⟨c.toNat, c.toNat_lt⟩
  simp only [UInt8.ofNat_toNat] at h
  obtain ⟨h1, h2, h3, h4, h5, h6⟩ := h
  refine ⟨?_, decide_eq_decide.1 h2, decide_eq_decide.1 h3, decide_eq_decide.1 h4, h5, h6⟩
  rw [← Bool.decide_or] at h1
  exact decide_eq_decide.1 h1
theorem stp_tr {t : List UInt8} {a : Nat} {out : List UInt8} {frm : List Int} {own : List Bool} (ha : a < t.length) {a' : Nat} {o : List UInt8} {w : List Bool} {c : List (Int × Int)} (hs : stp t a out own frm = .ok (a', o, w, c)) : Tra t a o (rng a o.length) a' := by
  unfold stp at hs
  simp only at hs
  split at hs
  · split at hs
    · cases hs
    · rename_i n hn
      obtain ⟨hn, _, _⟩ := List.findIdx?_eq_some_iff_getElem.1 hn
      rw [List.length_drop] at hn
      simp only [Except.ok.injEq, Prod.mk.injEq] at hs
      obtain ⟨rfl, rfl, rfl, rfl⟩ := hs
      rw [piece_len (by omega)]
      exact Tra.piece _ _ (by omega)
  · split at hs
    · rename_i b hb
      split at hs
      · cases hs
      · split at hs
        · cases hs
        · simp only [Except.ok.injEq, Prod.mk.injEq] at hs
          obtain ⟨rfl, rfl, rfl, rfl⟩ := hs
          rw [List.length_cons, piece_len (by omega)]
          refine ⟨a, rfl, Nat.le_refl _, fun k h1 h2 => by omega, ha, ?_, Tra.piece _ _ (by omega)⟩
          split at hb
          · rename_i h72; exact .inr h72.symm
          · cases hb
    · split at hs
      · rename_i h32
        simp only [Except.ok.injEq, Prod.mk.injEq] at hs
        obtain ⟨rfl, rfl, rfl, rfl⟩ := hs
        refine ⟨by omega, fun k h1 h2 => ?_⟩
        rw [show k = a by omega]
        exact (up_all _).2.1.1 h32
      · simp only [Except.ok.injEq, Prod.mk.injEq] at hs
        obtain ⟨rfl, rfl, rfl, rfl⟩ := hs
        exact ⟨a, rfl, Nat.le_refl _, fun k h1 h2 => by omega, ha, .inr rfl, Nat.le_refl _, fun k h1 h2 => by omega⟩
theorem sqz_tr {t : List UInt8} : ∀ (n a : Nat) (out : List UInt8) (frm : List Int) (own : List Bool) (cs : List (Int × Int)) (r : List UInt8 × List Int × List Bool × List (Int × Int)), Fine t a out frm own cs → t.length < a + n → Tra t 0 out frm a → sqz t n a out frm own cs = .ok r → Tra t 0 r.1 r.2.1 t.length
  | 0, a, out, frm, own, cs, r, hf, hn, ht, h => absurd hf.la (by omega)
  | n + 1, a, out, frm, own, cs, r, hf, hn, ht, h => by
    unfold sqz at h
    split at h
    · rename_i ha
      split at h
      · cases h
      · rename_i a' o w c hs
        obtain ⟨k1, k2, _⟩ := stp_fine hf ha hs
        exact sqz_tr n a' _ _ _ _ r k2 (by omega) (ht.app (stp_tr ha hs)) h
    · rename_i ha
      simp only [Except.ok.injEq] at h
      subst h
      have := hf.la
      rw [show t.length = a by omega]
      exact ht
theorem Tra.shown {t : List UInt8} (ht : t.all shown = true) : ∀ {o : List UInt8} {f : List Int} {p a : Nat}, Tra t p o f a → o.all shown = true
  | [], [], p, a, h => rfl
  | c :: o, x :: f, p, a, h => by
    obtain ⟨q, _, _, _, h4, h5, h2⟩ := h
    rw [List.all_cons, Tra.shown ht h2, Bool.and_true]
    have hq : YtjcbhbncncbdjaaGreatDoorAi.shown (t.getD q default) = true := by
      rw [List.all_eq_true] at ht
      rw [List.getD_eq_getElem?_getD, List.getElem?_eq_getElem h4]
      exact ht _ (List.getElem_mem h4)
    rcases h5 with rfl | rfl
    · exact hq
    · exact (up_all _).2.2.2.2.2 hq
  | [], _ :: _, _, _, h => h.elim
  | _ :: _, [], _, _, h => h.elim
end Go.Proofs.YtjcbhbncncbdjaaGreatDoorAi

namespace Go.Proofs.YtjcbhbncncbdjaaGreatDoorAi
open Go Go.RowKit
set_option linter.unusedVariables false
set_option linter.unusedSimpArgs false

theorem rng_app : ∀ (p a q : Nat), rng a p ++ rng (a + p) q = rng a (p + q)
  | 0, a, q => by rw [Nat.zero_add]; rfl
  | p + 1, a, q => by
    rw [show p + 1 + q = (p + q) + 1 by omega]
    show (a : Int) :: (rng (a + 1) p ++ rng (a + (p + 1)) q) = (a : Int) :: rng (a + 1) (p + q)
    rw [← rng_app p (a + 1) q, show a + 1 + p = a + (p + 1) by omega]
theorem find_take {l r : List UInt8} {c : UInt8} {n : Nat} (h : l.findIdx? (· == c) = some n) : (l.take (n + 1) ++ r).findIdx? (· == c) = some n := by
  rw [List.findIdx?_eq_some_iff_getElem] at h ⊢
  obtain ⟨h1, h2, h3⟩ := h
  have hl : (l.take (n + 1)).length = n + 1 := by rw [List.length_take]; omega
  refine ⟨by rw [List.length_append, hl]; omega, ?_, fun j hj => ?_⟩
  · rw [List.getElem_append_left (by omega), List.getElem_take]; exact h2
  · rw [List.getElem_append_left (by omega), List.getElem_take]; exact h3 j hj
theorem getD_mid (out o r : List UInt8) (h : 0 < o.length) : (out ++ (o ++ r)).getD out.length default = o.getD 0 default := by
  rw [List.getD_eq_getElem?_getD, List.getElem?_append_right (Nat.le_refl _), Nat.sub_self, List.getElem?_append_left h, List.getD_eq_getElem?_getD]
theorem piece_mid (out o r : List UInt8) : piece (out ++ (o ++ r)) out.length o.length = o := by
  unfold piece
  rw [List.drop_left, List.take_left]
theorem piece_getD {t : List UInt8} {a n : Nat} (h : a < t.length) : (piece t a (n + 1)).getD 0 default = t.getD a default := by
  rw [piece_succ n h]; rfl
theorem stp_nil {t : List UInt8} {a : Nat} {out : List UInt8} {frm : List Int} {own : List Bool} (ha : a < t.length) {a' : Nat} {w : List Bool} {c : List (Int × Int)} (hs : stp t a out own frm = .ok (a', [], w, c)) : w = [] ∧ c = [] := by
  unfold stp at hs
  simp only at hs
  split at hs
  · split at hs
    · cases hs
    · rename_i n hn
      obtain ⟨hn, _, _⟩ := List.findIdx?_eq_some_iff_getElem.1 hn
      rw [List.length_drop] at hn
      simp only [Except.ok.injEq, Prod.mk.injEq] at hs
      have := congrArg List.length hs.2.1
      rw [piece_len (by omega)] at this
      simp at this
  · split at hs
    · split at hs
      · cases hs
      · split at hs
        · cases hs
        · simp only [Except.ok.injEq, Prod.mk.injEq] at hs
          exact absurd hs.2.1 (List.cons_ne_nil _ _)
    · split at hs
      · simp only [Except.ok.injEq, Prod.mk.injEq] at hs
        exact ⟨hs.2.2.1.symm, hs.2.2.2.symm⟩
      · simp only [Except.ok.injEq, Prod.mk.injEq] at hs
        exact absurd hs.2.1 (List.cons_ne_nil _ _)
/-- The same step on what was squeezed. -/
theorem stp_again {t : List UInt8} {a : Nat} {out : List UInt8} {frm : List Int} {own : List Bool} (ha : a < t.length) {a' : Nat} {o : List UInt8} {w : List Bool} {c : List (Int × Int)} (hs : stp t a out own frm = .ok (a', o, w, c)) (ho : o ≠ []) (r : List UInt8) (f2 : List Int) :
    ∃ c2, stp (out ++ (o ++ r)) out.length out own f2 = .ok (out.length + o.length, o, w, c2) ∧ c2.length = c.length := by
  have hoL : 0 < o.length := List.length_pos_iff.2 ho
  have hg := getD_mid out o r hoL
  have hp := piece_mid out o r
  have hlen : (out ++ (o ++ r)).length = out.length + o.length + r.length := by rw [List.length_append, List.length_append]; omega
  have hdrop : (out ++ (o ++ r)).drop (out.length + 1) = o.drop 1 ++ r := by
    rw [← List.drop_drop, List.drop_left]
    cases o with
    | nil => exact absurd rfl ho
    | cons x o => rfl
  unfold stp at hs ⊢
  simp only at hs ⊢
  rw [hg]
  split at hs
  · rename_i hq
    split at hs
    · cases hs
    · rename_i n hn
      have hn' := hn
      obtain ⟨hn2, _, _⟩ := List.findIdx?_eq_some_iff_getElem.1 hn'
      rw [List.length_drop] at hn2
      simp only [Except.ok.injEq, Prod.mk.injEq] at hs
      obtain ⟨rfl, rfl, rfl, rfl⟩ := hs
      have hpl : (piece t a (n + 2)).length = n + 2 := piece_len (by omega)
      rw [piece_getD (by omega), if_pos hq, hdrop]
      have hd : (piece t a (n + 2)).drop 1 = (t.drop (a + 1)).take (n + 1) := by rw [piece_succ (n + 1) (by omega)]; rfl
      rw [hd, find_take hn]
      simp only
      rw [hpl] at hp ⊢
      rw [hp]
      exact ⟨_, rfl, rfl⟩
  · rename_i hq
    split at hs
    · rename_i b hb
      split at hs
      · cases hs
      · rename_i hv
        split at hs
        · cases hs
        · rename_i h0
          simp only [Except.ok.injEq, Prod.mk.injEq] at hs
          obtain ⟨rfl, rfl, rfl, rfl⟩ := hs
          have hpl : (piece t (a + 1) (valL 0 (out.drop b))).length = valL 0 (out.drop b) := piece_len (by omega)
          have hb' : hol out own = some b := by
            split at hb
            · exact hb
            · cases hb
          rw [show (72 :: piece t (a + 1) (valL 0 (out.drop b))).getD 0 default = 72 from rfl, if_neg (by decide), if_pos (by decide), hb']
          simp only
          rw [hlen, List.length_cons, hpl, if_neg (by omega), if_neg h0]
          have hp2 : piece (out ++ (72 :: piece t (a + 1) (valL 0 (out.drop b)) ++ r)) (out.length + 1) (valL 0 (out.drop b)) = piece t (a + 1) (valL 0 (out.drop b)) := by
            unfold piece at hdrop ⊢
            rw [hdrop, List.drop_one, List.tail_cons]
            exact (congrArg (fun z => List.take z _) hpl.symm).trans List.take_left
          rw [hp2]
          refine ⟨[(f2.getD b default, ((out.length + 1 + valL 0 (out.drop b) : Nat) : Int))], ?_, rfl⟩
          rw [show out.length + 1 + valL 0 (out.drop b) = out.length + (valL 0 (out.drop b) + 1) by omega]
    · rename_i hb
      split at hs
      · simp only [Except.ok.injEq, Prod.mk.injEq] at hs
        exact absurd hs.2.1.symm ho
      · rename_i h32
        simp only [Except.ok.injEq, Prod.mk.injEq] at hs
        obtain ⟨rfl, rfl, rfl, rfl⟩ := hs
        obtain ⟨_, u2, u3, u4, u5, _⟩ := up_all (t.getD a default)
        rw [show [upC (t.getD a default)].getD 0 default = upC (t.getD a default) from rfl, u5, if_neg (by rw [u3, u4]; exact hq), hb]
        simp only
        rw [if_neg h32]
        exact ⟨_, rfl, rfl⟩
theorem sqz_pre {t : List UInt8} : ∀ (n a : Nat) (out : List UInt8) (frm : List Int) (own : List Bool) (cs : List (Int × Int)) (r : List UInt8 × List Int × List Bool × List (Int × Int)), sqz t n a out frm own cs = .ok r → ∃ x, r.1 = out ++ x
  | 0, a, out, frm, own, cs, r, h => by
    simp only [sqz, Except.ok.injEq] at h
    subst h
    exact ⟨[], (List.append_nil _).symm⟩
  | n + 1, a, out, frm, own, cs, r, h => by
    unfold sqz at h
    split at h
    · split at h
      · cases h
      · obtain ⟨x, hx⟩ := sqz_pre n _ _ _ _ _ r h
        exact ⟨_, hx.trans (List.append_assoc _ _ _)⟩
    · simp only [Except.ok.injEq] at h
      subst h
      exact ⟨[], (List.append_nil _).symm⟩
theorem sqz_again {t : List UInt8} : ∀ (n a : Nat) (out : List UInt8) (frm : List Int) (own : List Bool) (cs : List (Int × Int)) (r : List UInt8 × List Int × List Bool × List (Int × Int)), Fine t a out frm own cs → sqz t n a out frm own cs = .ok r → t.length < a + n →
    ∀ (n2 : Nat) (cs2 : List (Int × Int)), r.1.length < out.length + n2 → cs2.length = cs.length → ∃ own3 cs3, sqz r.1 n2 out.length out (rng 0 out.length) own cs2 = .ok (r.1, rng 0 r.1.length, own3, cs3) ∧ cs3.length = r.2.2.2.length
  | 0, a, out, frm, own, cs, r, hf, h, hn => absurd hf.la (by omega)
  | n + 1, a, out, frm, own, cs, r, hf, h, hn => by
    intro n2 cs2 hn2 hc2
    unfold sqz at h
    split at h
    · rename_i ha
      split at h
      · cases h
      · rename_i a' o w c hs
        obtain ⟨k1, k2, k3⟩ := stp_fine hf ha hs
        have ih := sqz_again n a' _ _ _ _ r k2 h (by omega)
        by_cases ho : o = []
        · subst ho
          obtain ⟨rfl, rfl⟩ := stp_nil ha hs
          simp only [List.append_nil] at ih
          exact ih n2 cs2 hn2 hc2
        · obtain ⟨x, hx⟩ := sqz_pre n _ _ _ _ _ r h
          rw [List.append_assoc] at hx
          obtain ⟨c2, e1, e2⟩ := stp_again ha hs ho x (rng 0 out.length)
          have hoL : 0 < o.length := List.length_pos_iff.2 ho
          have hl : r.1.length = out.length + o.length + x.length := by rw [hx, List.length_append, List.length_append]; omega
          cases n2 with
          | zero => omega
          | succ m =>
            have ih2 := ih m (cs2 ++ c2) (by rw [List.length_append]; omega) (by rw [List.length_append, List.length_append]; omega)
            rw [← hx] at e1
            rw [sqz, if_pos (by omega), e1]
            simp only
            have e3 := rng_app out.length 0 o.length
            rw [Nat.zero_add] at e3
            rw [e3, ← List.length_append]
            exact ih2
    · simp only [Except.ok.injEq] at h
      subst h
      cases n2 with
      | zero => simp only at hn2; omega
      | succ m =>
        rw [sqz, if_neg (by simp)]
        exact ⟨own, cs2, rfl, hc2⟩
theorem sqz_le {t : List UInt8} : ∀ {o : List UInt8} {f : List Int} {p a : Nat}, Tra t p o f a → o.length ≤ a - p
  | [], [], p, a, h => Nat.zero_le _
  | c :: o, x :: f, p, a, h => by
    obtain ⟨q, _, h1, _, _, _, h2⟩ := h
    have h3 := sqz_le h2
    have h4 := Tra.le h2
    rw [List.length_cons]; omega
  | [], _ :: _, _, _, h => h.elim
  | _ :: _, [], _, _, h => h.elim
/-- What was squeezed is squeezed to itself. -/
theorem SQ_again {t : List UInt8} {r : List UInt8 × List Int × List Bool × List (Int × Int)} (h : SQ t = .ok r) :
    t.length ≤ 1320 ∧ Tra t 0 r.1 r.2.1 t.length ∧ r.1.length ≤ t.length ∧ ∃ own3 cs3, SQ r.1 = .ok (r.1, rng 0 r.1.length, own3, cs3) ∧ cs3.length = r.2.2.2.length := by
  unfold SQ at h
  split at h
  · cases h
  · rename_i h0
    have h0' : tErr t = 0 := by
      by_cases hz : tErr t = 0
      · exact hz
      · exact absurd hz h0
    have hl : t.length ≤ 1320 ∧ t.all shown = true := by
      unfold tErr at h0'
      split at h0'
      · cases h0'
      · split at h0'
        · rename_i k1 k2; exact ⟨by omega, k2⟩
        · cases h0'
    have hf : Fine t 0 [] [] [] [] := ⟨by omega, Nat.zero_le _, Nat.le_refl _, rfl, rfl, Nat.le_refl _⟩
    have htr := sqz_tr _ _ _ _ _ _ r hf (by omega) ⟨Nat.le_refl _, fun k h1 h2 => by omega⟩ h
    have hsl : r.1.length ≤ t.length := sqz_le htr
    refine ⟨hl.1, htr, hsl, ?_⟩
    obtain ⟨own3, cs3, e1, e2⟩ := sqz_again _ _ _ _ _ _ r hf h (by omega) (r.1.length + 1) [] (by simp) rfl
    refine ⟨own3, cs3, ?_, e2⟩
    have ht : tErr r.1 = 0 := by
      unfold tErr
      rw [if_neg (by omega), if_pos (Tra.shown hl.2 htr)]
    unfold SQ
    rw [if_neg (by simp [ht])]
    exact e1
end Go.Proofs.YtjcbhbncncbdjaaGreatDoorAi

namespace Go.Proofs.YtjcbhbncncbdjaaGreatDoorAi
open Go Go.RowKit
set_option linter.unusedVariables false
set_option linter.unusedSimpArgs false

theorem rng_getD : ∀ (n a i : Nat), i < n → (rng a n).getD i default = ((a + i : Nat) : Int)
  | 0, a, i, h => by omega
  | n + 1, a, 0, h => rfl
  | n + 1, a, i + 1, h => by
    show (rng (a + 1) n).getD i default = _
    rw [rng_getD n (a + 1) i (by omega), show a + 1 + i = a + (i + 1) by omega]
theorem drop_head {α : Type} [Inhabited α] {l : List α} {i : Nat} {x : α} {r : List α} (h : l.drop i = x :: r) : i < l.length ∧ l.getD i default = x ∧ l.drop (i + 1) = r := by
  have hi : i < l.length := by
    by_cases hi : i < l.length
    · exact hi
    · rw [List.drop_eq_nil_of_le (by omega)] at h; cases h
  rw [List.drop_eq_getElem_cons hi] at h
  simp only [List.cons.injEq] at h
  exact ⟨hi, by rw [List.getD_eq_getElem?_getD, List.getElem?_eq_getElem hi]; exact h.1, h.2⟩
theorem again_b1 {t : List UInt8} (ht : t.length < 10000) {y5 : List UInt8 × List Int × Int} {x39 : Int × Int} {i q : Nat} (hx : x39.2 = (i : Int)) (hi : i < y5.2.1.length) (hq : y5.2.1.getD i default = (q : Int)) (hql : q < t.length) : ∀ d k : Nat, k + d = q → Bl t k q →
    iter (g_law01_SourceAgain.b1 t y5 x39) (k : Int) = some (.inl (q : Int))
  | 0, k, h, _ => by
    rw [show k = q by omega]
    exact iter_stop (by
      unfold g_law01_SourceAgain.b1
      rw [hx, if_pos ⟨by omega, by omega⟩, gt_nat, hq, if_neg (by simp)])
  | d + 1, k, h, hb => by
    rw [iter_next (y := ((k + 1 : Nat) : Int)) (by
      unfold g_law01_SourceAgain.b1
      rw [hx, if_pos ⟨by omega, by omega⟩, gt_nat, hq, if_pos (decide_eq_true (by omega)), if_pos ⟨by omega, by omega⟩, gt_nat, hb k (Nat.le_refl _) (by omega), if_neg (by decide), w64_id (by omega) (by omega)]
      rfl)]
    exact again_b1 ht hx hi hq hql d (k + 1) (by omega) fun j h1 h2 => hb j (by omega) h2
theorem again_b2 {t : List UInt8} (ht : t.length < 10000) : ∀ d k : Nat, k + d = t.length → Bl t k t.length → iter (g_law01_SourceAgain.b2 t) (k : Int) = some (.inl (t.length : Int))
  | 0, k, h, _ => by
    rw [show k = t.length by omega]
    exact iter_stop (by
      unfold g_law01_SourceAgain.b2
      rw [if_neg (by simp)])
  | d + 1, k, h, hb => by
    rw [iter_next (y := ((k + 1 : Nat) : Int)) (by
      unfold g_law01_SourceAgain.b2
      rw [if_pos (decide_eq_true (by omega)), if_pos ⟨by omega, by omega⟩, gt_nat, hb k (Nat.le_refl _) (by omega), if_neg (by decide), w64_id (by omega) (by omega)]
      rfl)]
    exact again_b2 ht d (k + 1) (by omega) fun j h1 h2 => hb j (by omega) h2
theorem upOk_test {x c : UInt8} (h : upOk x c) : (if ((x.toNat : Int) != (c.toNat : Int)) = true then Option.bind ((if ((decide ((x.toNat : Int) < ((97 : UInt8).toNat : Int))) || (decide ((x.toNat : Int) > ((122 : UInt8).toNat : Int)))) = true then some true else some (((x - 32).toNat : Int) != (c.toNat : Int)))) fun y => some y else some false) = some false := by
  rcases h with rfl | rfl
  · rw [if_neg (by simp)]
  · by_cases hu : 97 ≤ x.toNat ∧ x.toNat ≤ 122
    · have e1 : ((97 : UInt8).toNat : Int) = 97 := rfl
      have e2 : ((122 : UInt8).toNat : Int) = 122 := rfl
      rw [e1, e2, if_neg (c := ((decide ((x.toNat : Int) < 97)) || (decide ((x.toNat : Int) > 122))) = true) (by simp; omega)]
      unfold upC
      rw [if_pos hu]
      simp
    · unfold upC
      rw [if_neg hu, if_neg (by simp)]
theorem again_iter {t : List UInt8} (ht : t.length < 10000) {s : List UInt8} {l : List Int} {e e' : Int} (hsl : s.length < 10000) (hl : l.length = s.length) : ∀ (o : List UInt8) (f : List Int) (i p : Nat), o = s.drop i → f = l.drop i → i ≤ s.length → Tra t p o f t.length →
    ∃ p', p' ≤ t.length ∧ Bl t p' t.length ∧ iter (g_law01_SourceAgain.b0 t (s, l, e) (s, rng 0 s.length, e')) ((p : Int) - 1, (i : Int)) = some (.inl ((p' : Int) - 1, (s.length : Int)))
  | [], [], i, p, h1, h2, hi, h => by
    have : s.length ≤ i := List.drop_eq_nil_iff.1 h1.symm
    refine ⟨p, h.1, h.2, ?_⟩
    rw [show i = s.length by omega]
    exact iter_stop (by
      unfold g_law01_SourceAgain.b0
      rw [if_neg (by simp)])
  | c :: o, x :: f, i, p, h1, h2, hi, h => by
    obtain ⟨q, rfl, k1, k2, k3, k4, k5⟩ := h
    obtain ⟨i1, i2, i3⟩ := drop_head h1.symm
    obtain ⟨j1, j2, j3⟩ := drop_head h2.symm
    obtain ⟨p', q1, q2, q3⟩ := again_iter ht hsl hl (e := e) (e' := e') o f (i + 1) (q + 1) i3.symm j3.symm (by omega) k5
    refine ⟨p', q1, q2, ?_⟩
    rw [iter_next (y := (((q + 1 : Nat) : Int) - 1, ((i + 1 : Nat) : Int))) ?_]
    · exact q3
    · have hb1 := again_b1 ht (y5 := (s, l, e)) (x39 := ((p : Int) - 1, (i : Int))) rfl j1 j2 k3 (q - p) p (by omega) k2
      have c1 : 0 ≤ (i : Int) ∧ (i : Int) < (l.length : Int) := ⟨by omega, by omega⟩
      have c2 : 0 ≤ (i : Int) ∧ (i : Int) < (s.length : Int) := ⟨by omega, by omega⟩
      have c3 : 0 ≤ (i : Int) ∧ (i : Int) < ((rng 0 s.length).length : Int) := by rw [rng_len]; exact c2
      have c4 : 0 ≤ (q : Int) ∧ (q : Int) < (t.length : Int) := ⟨by omega, by omega⟩
      have hr : (rng 0 s.length).getD i default = (i : Int) := by rw [rng_getD _ _ _ i1, Nat.zero_add]
      unfold g_law01_SourceAgain.b0
      simp only
      rw [if_pos (decide_eq_true (by omega))]
      simp only [if_pos c1, if_pos c2, if_pos c3, gt_nat, i2, j2, hr]
      rw [if_neg (by simp; omega), Option.bind_some, if_neg (by simp; omega), Option.bind_some, if_neg (by simp), if_pos c4, upOk_test k4, Option.bind_some, if_neg (by decide), show w64 ((p : Int) - 1 + 1) = (p : Int) by rw [w64_id] <;> omega, hb1, Option.bind_some]
      simp only [onSum2]
      rw [w64_id (by omega) (by omega)]
      congr 3
      omega
  | [], _ :: _, _, _, _, _, _, h => h.elim
  | _ :: _, [], _, _, _, _, _, h => h.elim
theorem law4 (t : List UInt8) : g_law01_SourceAgain.f t = some true := by
  unfold g_law01_SourceAgain.f g_awake.f
  rw [Option.bind_some, if_neg (by decide)]
  by_cases h : 1320 < t.length
  · rw [if_pos (decide_eq_true (by omega))]
  · rw [if_neg (by simp; omega), Squeezed_f, Option.bind_some, ConstantsIn_f]
    cases hs : SQ t with
    | error e =>
      have he := SQ_err hs
      simp [he]
    | ok r =>
      obtain ⟨h1, h2, h3, own3, cs3, h4, h5⟩ := SQ_again hs
      simp only
      rw [if_neg (by decide), Option.bind_some, Squeezed_f, Option.bind_some, ConstantsIn_f, Option.bind_some, h4]
      simp only
      have hlen := h2.len
      rw [if_neg (by simp [rng_len, hlen, h5])]
      obtain ⟨p', q1, q2, q3⟩ := again_iter (t := t) (by omega) (e := 0) (e' := 0) (s := r.1) (l := r.2.1) (by omega) hlen.symm r.1 r.2.1 0 0 rfl rfl (Nat.zero_le _) h2
      have q3' : iter (g_law01_SourceAgain.b0 t (r.1, r.2.1, 0) (r.1, rng 0 r.1.length, 0)) (-1, 0) = some (.inl ((p' : Int) - 1, (r.1.length : Int))) := q3
      rw [q3', Option.bind_some]
      simp only [onSum]
      rw [show w64 ((p' : Int) - 1 + 1) = (p' : Int) by rw [w64_id] <;> omega, again_b2 (by omega) (t.length - p') p' (by omega) q2]
      rfl
#print axioms law4
theorem str_back (s : ByteArray) : strV s.data.toList = .string s := by
  show Value.string ⟨s.data.toList.toArray⟩ = _
  rw [Array.toArray_toList]
theorem law4_calls (s : ByteArray) (_hs : s.size ≤ 140737488351232) (w : World) (hG : Gd w) : Calls Tryz.prog 4 #[.string s] w fun e w' => e = .returned (.bool true) ∧ Below w.heap.size w w' := by
  have h := calls_of (g := 4) (args := [strV s.data.toList]) Tryz.func4 rfl (fun _ _ => rfl) rfl (v := .bool true) rfl ((g_law01_SourceAgain.ok (F := F0) (law4 s.data.toList) gl0).mono fun v S' F' q => q.2.1) w hG
  rw [str_back] at h
  exact h
#print axioms law4_calls
end Go.Proofs.YtjcbhbncncbdjaaGreatDoorAi
