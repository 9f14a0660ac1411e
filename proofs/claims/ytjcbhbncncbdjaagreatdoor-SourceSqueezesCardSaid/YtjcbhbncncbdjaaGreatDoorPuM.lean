/-
PuP1, PuP2, PuP3, PuP4, PuP5, PuP6, PuP7, PuP8, PuP9
-/
import Derived.Test.YtjcbhbncncbdjaaGreatDoorApX1b
import Derived.Test.YtjcbhbncncbdjaaGreatDoorApL
namespace Go.Proofs.YtjcbhbncncbdjaaGreatDoorAi
open Go Go.RowKit
set_option linter.unusedVariables false
set_option linter.unusedSimpArgs false

theorem w64_id {x : Int} (h1 : -9223372036854775808 ≤ x) (h2 : x ≤ 9223372036854775807) : w64 x = x := by
  unfold w64
  simp [IntKind.wrap, IntKind.bits, IntKind.signed]; omega
theorem gt_nat {α : Type} [Inhabited α] (l : List α) (n : Nat) : gt l (n : Int) = l.getD n default := rfl
def isDg (c : UInt8) : Bool := decide (48 ≤ c.toNat) && decide (c.toNat ≤ 57)
theorem isDg_iff {c : UInt8} : isDg c = true ↔ 48 ≤ c.toNat ∧ c.toNat ≤ 57 := by simp [isDg]
theorem isDigit_eq (c : UInt8) : g_source_isDigit.f c = some (isDg c) := by
  unfold g_source_isDigit.f isDg
  congr 2
  · exact decide_eq_decide.2 (by show ((48 : Nat) : Int) ≤ _ ↔ _; omega)
  · exact decide_eq_decide.2 (by show _ ≤ ((57 : Nat) : Int) ↔ _; omega)
theorem refDigit_eq (c : UInt8) : g_ref01_isDigit.f c = some (isDg c) := by
  unfold g_ref01_isDigit.f isDg
  congr 2
  · exact decide_eq_decide.2 (by show _ ≥ ((48 : Nat) : Int) ↔ _; omega)
  · exact decide_eq_decide.2 (by show _ ≤ ((57 : Nat) : Int) ↔ _; omega)
/-- Where what is so, seen from a place to the left, begins. -/
def dg (p : Nat → Bool) : Nat → Nat
  | 0 => 0
  | n + 1 => if p n then dg p n else n + 1
theorem dg_le (p : Nat → Bool) : ∀ n, dg p n ≤ n
  | 0 => Nat.le_refl _
  | n + 1 => by
    unfold dg
    split
    · exact Nat.le_succ_of_le (dg_le p n)
    · exact Nat.le_refl _
theorem dg_all (p : Nat → Bool) : ∀ n k, dg p n ≤ k → k < n → p k = true
  | 0, k, _, h => by omega
  | n + 1, k, h1, h2 => by
    unfold dg at h1
    split at h1
    · by_cases hk : k = n
      · subst hk; assumption
      · exact dg_all p n k h1 (by omega)
    · omega
/-- A digit, not one of a constant. -/
def pD (out : List UInt8) (own : List Bool) (k : Nat) : Bool := !(own.getD k default) && isDg (out.getD k default)
theorem digits_eq {out : List UInt8} {own : List Bool} (hl : out.length = own.length) (hs : own.length < 1000000) : ∀ n : Nat, n ≤ own.length → iter (g_source_squeezer_digits.b0 out own) (n : Int) = some ((dg (pD out own) n : Nat) : Int)
  | 0, _ => iter_stop (by unfold g_source_squeezer_digits.b0; rfl)
  | n + 1, hn => by
    have hw : w64 (((n + 1 : Nat) : Int) - 1) = (n : Int) := by rw [w64_id] <;> omega
    have key : g_source_squeezer_digits.b0 out own ((n + 1 : Nat) : Int) = if pD out own n then some (.inl (n : Int)) else some (.inr ((n + 1 : Nat) : Int)) := by
      unfold g_source_squeezer_digits.b0 pD
      rw [hw, if_pos (decide_eq_true (by omega)), if_pos ⟨by omega, by omega⟩, if_pos ⟨by omega, by omega⟩, isDigit_eq, gt_nat, gt_nat]
      cases own.getD n default <;> simp
    unfold dg
    split
    · rename_i h
      rw [iter_next (key.trans (if_pos h))]
      exact digits_eq hl hs n (by omega)
    · rename_i h
      exact iter_stop (key.trans (if_neg h))
theorem digits_f {out : List UInt8} {own : List Bool} (hl : out.length = own.length) (hs : own.length < 1000000) (n : Nat) (hn : n ≤ own.length) : g_source_squeezer_digits.f out own (n : Int) = some ((dg (pD out own) n : Nat) : Int) := by
  unfold g_source_squeezer_digits.f
  rw [digits_eq hl hs n hn]; rfl
theorem indexByte_eq (l : List UInt8) (c : UInt8) : g_strings_IndexByte.f l c = some (idxB l c) := rfl
theorem idxB_ge (l : List UInt8) (c : UInt8) : decide (idxB l c ≥ 0) = l.contains c := by
  unfold idxB
  cases h : l.findIdx? (· == c) with
  | none =>
    rw [List.findIdx?_eq_none_iff] at h
    symm
    show l.contains c = false
    rw [Bool.eq_false_iff]
    intro hc
    have := h c (List.contains_iff_mem.1 hc)
    simp at this
  | some i =>
    rw [decide_eq_true (show (i : Int) ≥ 0 by omega)]
    symm
    obtain ⟨hi, h1, _⟩ := List.findIdx?_eq_some_iff_getElem.1 h
    rw [List.contains_iff_mem]
    have : l[i] = c := by simpa using h1
    rw [← this]; exact List.getElem_mem hi
/-- One of some signs stands before a place. -/
def isB (out : List UInt8) (own : List Bool) (n : Nat) (sg : List UInt8) : Bool := match n with | 0 => false | n + 1 => !(own.getD n default) && sg.contains (out.getD n default)
theorem isBefore_f {out : List UInt8} {own : List Bool} (hl : out.length = own.length) (hs : own.length < 1000000) (n : Nat) (hn : n ≤ own.length) (sg : List UInt8) : g_source_squeezer_isBefore.f out own (n : Int) sg = some (isB out own n sg) := by
  cases n with
  | zero => unfold g_source_squeezer_isBefore.f; rfl
  | succ n =>
    have hw : w64 (((n + 1 : Nat) : Int) - 1) = (n : Int) := by rw [w64_id] <;> omega
    unfold g_source_squeezer_isBefore.f isB
    rw [hw, if_pos (decide_eq_true (by omega)), if_pos ⟨by omega, by omega⟩, if_pos ⟨by omega, by omega⟩, indexByte_eq, gt_nat, gt_nat]
    simp only [Option.bind_some, idxB_ge]
    cases own.getD n default <;> simp
/-- Where the digits of a Hollerith constant begin. -/
def hol (out : List UInt8) (own : List Bool) : Option Nat :=
  let b := dg (pD out own) out.length
  if b = out.length then none else if isB out own b [40, 44, 47, 61] then some b else if isB out own b [42] then
    (let k := dg (pD out own) (b - 1)
     if k < b - 1 ∧ isB out own k [40, 44, 47, 61] = true then some b else none) else none
theorem hollerith_f {out : List UInt8} {own : List Bool} (hl : out.length = own.length) (hs : own.length < 1000000) :
    ∃ d : Int, g_source_squeezer_hollerith.f out own = some (match hol out own with | some b => ((b : Int), true) | none => (d, false)) := by
  have hle := dg_le (pD out own) out.length
  have hf := digits_f hl hs out.length (by omega)
  unfold g_source_squeezer_hollerith.f hol
  rw [hf]
  simp only [Option.bind_some]
  generalize dg (pD out own) out.length = b at *
  by_cases hb : b = out.length
  · rw [if_pos (by simp [hb]), if_pos hb]; exact ⟨_, rfl⟩
  · rw [if_neg (by simp; omega), if_neg hb, isBefore_f hl hs b (by omega)]
    simp only [Option.bind_some]
    cases h1 : isB out own b [40, 44, 47, 61]
    · simp only [Bool.false_eq_true, if_false]
      rw [isBefore_f hl hs b (by omega)]
      simp only [Option.bind_some]
      cases h2 : isB out own b [42]
      · simp only [Bool.not_false, Bool.false_eq_true, if_false, if_true]; exact ⟨_, rfl⟩
      · simp only [Bool.not_true, Bool.false_eq_true, if_false, if_true]
        have hb0 : 0 < b := by
          cases b with
          | zero => simp [isB] at h2
          | succ b => omega
        have hw : w64 ((b : Int) - 1) = ((b - 1 : Nat) : Int) := by rw [w64_id] <;> omega
        have hk := dg_le (pD out own) (b - 1)
        rw [hw, digits_f hl hs (b - 1) (by omega)]
        simp only [Option.bind_some]
        generalize dg (pD out own) (b - 1) = k at *
        rw [isBefore_f hl hs k (by omega)]
        simp only [Option.bind_some]
        by_cases h3 : k < b - 1
        · rw [if_pos (decide_eq_true (by omega))]
          cases h4 : isB out own k [40, 44, 47, 61]
          · rw [if_neg (by simp)]; exact ⟨_, rfl⟩
          · rw [if_pos ⟨h3, rfl⟩]; exact ⟨0, rfl⟩
        · rw [if_neg (by simp; omega), if_neg (by omega)]; exact ⟨_, rfl⟩
    · simp only [if_true]; exact ⟨0, trivial⟩
end Go.Proofs.YtjcbhbncncbdjaaGreatDoorAi

namespace Go.Proofs.YtjcbhbncncbdjaaGreatDoorAi
open Go Go.RowKit
set_option linter.unusedVariables false
set_option linter.unusedSimpArgs false

def piece (t : List UInt8) (a n : Nat) : List UInt8 := (t.drop a).take n
def rng (a : Nat) : Nat → List Int
  | 0 => []
  | n + 1 => (a : Int) :: rng (a + 1) n
theorem rng_len (a n : Nat) : (rng a n).length = n := by
  induction n generalizing a with
  | zero => rfl
  | succ n ih => show (rng (a + 1) n).length + 1 = _; rw [ih]
theorem piece_zero (t : List UInt8) (a : Nat) : piece t a 0 = [] := rfl
theorem piece_succ {t : List UInt8} {a : Nat} (n : Nat) (h : a < t.length) : piece t a (n + 1) = t.getD a default :: piece t (a + 1) n := by
  unfold piece
  rw [List.drop_eq_getElem_cons h, List.take_succ_cons, List.getD_eq_getElem?_getD, List.getElem?_eq_getElem h]
  rfl
theorem piece_len {t : List UInt8} {a n : Nat} (h : a + n ≤ t.length) : (piece t a n).length = n := by
  unfold piece
  rw [List.length_take, List.length_drop]; omega
theorem put_f {out : List UInt8} {frm : List Int} {own : List Bool} (h1 : out.length < 1000000) (h2 : frm.length < 1000000) (h3 : own.length < 1000000) (c : UInt8) (a : Int) (b : Bool) :
    g_source_squeezer_put.f out frm own c a b = some (out ++ [c], frm ++ [a], own ++ [b]) := by
  unfold g_source_squeezer_put.f
  rw [if_pos (by simp only [List.length_cons, List.length_nil]; omega), if_pos (by simp only [List.length_cons, List.length_nil]; omega), if_pos (by simp only [List.length_cons, List.length_nil]; omega)]
theorem constant_iter {t : List UInt8} (ht : t.length < 10000) : ∀ (n a : Nat) (out : List UInt8) (frm : List Int) (own : List Bool), a + n ≤ t.length → out.length + n < 900000 → frm.length + n < 900000 → own.length + n < 900000 →
    iter (g_source_squeezer_constant.b0 t ((a + n : Nat) : Int)) ((a : Int), out, frm, own) = some (((a + n : Nat) : Int), out ++ piece t a n, frm ++ rng a n, own ++ List.replicate n true)
  | 0, a, out, frm, own, h, _, _, _ => iter_stop (by
      unfold g_source_squeezer_constant.b0
      rw [if_neg (by simp)]
      simp [piece_zero, rng])
  | n + 1, a, out, frm, own, h, h1, h2, h3 => by
    have ih := constant_iter ht n (a + 1) (out ++ [t.getD a default]) (frm ++ [(a : Int)]) (own ++ [true]) (by omega) (by simp; omega) (by simp; omega) (by simp; omega)
    rw [show a + 1 + n = a + (n + 1) by omega] at ih
    rw [iter_next (y := (((a + 1 : Nat) : Int), out ++ [t.getD a default], frm ++ [(a : Int)], own ++ [true])) (by
      unfold g_source_squeezer_constant.b0
      rw [if_pos (decide_eq_true (by simp only; omega)), if_pos ⟨by simp only; omega, by simp only; omega⟩]
      simp only
      rw [put_f (by omega) (by omega) (by omega), Option.bind_some, w64_id (by omega) (by omega), gt_nat]
      rfl), ih, piece_succ n (by omega)]
    simp [rng, List.replicate_succ]
theorem constant_f {t : List UInt8} (ht : t.length < 10000) {n a : Nat} {out : List UInt8} {frm : List Int} {own : List Bool} (h : a + n ≤ t.length) (h1 : out.length < 800000) (h2 : frm.length < 800000) (h3 : own.length < 800000) :
    g_source_squeezer_constant.f t out frm own (a : Int) ((a + n : Nat) : Int) = some (out ++ piece t a n, frm ++ rng a n, own ++ List.replicate n true) := by
  unfold g_source_squeezer_constant.f
  rw [constant_iter ht n a out frm own h (by omega) (by omega) (by omega)]; rfl
def upC (c : UInt8) : UInt8 := if 97 ≤ c.toNat ∧ c.toNat ≤ 122 then c - 32 else c
def valL (acc : Nat) (l : List UInt8) : Nat := l.foldl (fun a c => a * 10 + (c.toNat - 48)) acc
theorem valL_nil (acc : Nat) : valL acc [] = acc := rfl
theorem valL_cons (acc : Nat) (c : UInt8) (r : List UInt8) : valL acc (c :: r) = valL (acc * 10 + (c.toNat - 48)) r := by unfold valL; rw [List.foldl_cons]
theorem valL_ge : ∀ (l : List UInt8) (acc : Nat), acc ≤ valL acc l
  | [], acc => Nat.le_refl _
  | c :: r, acc => by
    rw [valL_cons]
    exact Nat.le_trans (Nat.le_trans (Nat.le_mul_of_pos_right acc (by decide)) (Nat.le_add_right _ _)) (valL_ge r _)
theorem pu10 : ∀ (l : List UInt8) (acc : Nat), acc < 18446744073709551616 → l.all isDg = true → Lib.parseUint10 acc l = if valL acc l < 18446744073709551616 then .ok (valL acc l) else .range
  | [], acc, h, _ => by
    rw [valL_nil, if_pos h]; rfl
  | c :: r, acc, h, ha => by
    simp only [List.all_cons, Bool.and_eq_true] at ha
    have hc := isDg_iff.1 ha.1
    have ih := fun h => pu10 r (acc * 10 + (c.toNat - 48)) h ha.2
    have hg := valL_ge r (acc * 10 + (c.toNat - 48))
    rw [valL_cons, Lib.parseUint10, if_pos hc]
    generalize valL (acc * 10 + (c.toNat - 48)) r = z at *
    generalize c.toNat - 48 = d at *
    split
    · rw [if_neg (by omega)]
    · split
      · rw [if_neg (by omega)]
      · exact ih (by omega)
theorem atoi_digits {l : List UInt8} (h0 : l ≠ []) (ha : l.all isDg = true) : Lib.atoiAll l = if valL 0 l < 9223372036854775808 then .ok (valL 0 l : Int) else .range := by
  cases l with
  | nil => exact absurd rfl h0
  | cons c r =>
    have hc := isDg_iff.1 (show isDg c = true by simp at ha; exact ha.1)
    unfold Lib.atoiAll
    simp only
    rw [if_neg (by omega)]
    unfold Lib.parseMag
    rw [if_neg (List.cons_ne_nil c r), pu10 _ _ (by omega) ha]
    generalize valL 0 (c :: r) = v
    by_cases h1 : v < 18446744073709551616
    · rw [if_pos h1]
      simp only
      by_cases h2 : v < 9223372036854775808
      · rw [if_neg (by omega), if_neg (by omega), if_neg (by omega), if_pos h2]
      · rw [if_pos (by omega), if_neg h2]
    · rw [if_neg h1, if_neg (by omega)]
theorem atoi_f {l : List UInt8} (h0 : l ≠ []) (ha : l.all isDg = true) (hl : l.length < 1000000) : g_atoi.f l = if valL 0 l < 9223372036854775808 then some ((valL 0 l : Int), false) else some (9223372036854775807, true) := by
  unfold g_atoi.f
  rw [if_pos (by omega), atoi_digits h0 ha]
  by_cases h : valL 0 l < 9223372036854775808
  · rw [if_pos h, if_pos h]
  · rw [if_neg h, if_neg h]
    simp only
    have : Lib.atoiSat l = 9223372036854775807 := by
      cases l with
      | nil => exact absurd rfl h0
      | cons c r =>
        have hc := isDg_iff.1 (show isDg c = true by simp at ha; exact ha.1)
        unfold Lib.atoiSat
        rw [if_neg (by simp; omega)]
    rw [this]
/-- One step of squeezing: an error, or: the place behind it, the characters, which are of a constant, the constants. -/
def stp (t : List UInt8) (a : Nat) (out : List UInt8) (own : List Bool) (frm : List Int) : Except Int (Nat × List UInt8 × List Bool × List (Int × Int)) :=
  let c := t.getD a default
  if c = 39 ∨ c = 34 then
    match (t.drop (a + 1)).findIdx? (· == c) with
    | none => .error 21
    | some n => .ok (a + (n + 2), piece t a (n + 2), List.replicate (n + 2) true, [((a : Int), ((a + (n + 2) : Nat) : Int))])
  else match (if upC c = 72 then hol out own else none) with
    | some b =>
      let n := valL 0 (out.drop b)
      if t.length < a + 1 + n then .error 21 else if n = 0 then .error 11 else
        .ok (a + 1 + n, 72 :: piece t (a + 1) n, false :: List.replicate n true, [(frm.getD b default, ((a + 1 + n : Nat) : Int))])
    | none => if upC c = 32 then .ok (a + 1, [], [], []) else .ok (a + 1, [upC c], [false], [])
/-- The digits before a Hollerith constant's H. -/
theorem hol_some {out : List UInt8} {own : List Bool} {b : Nat} (h : hol out own = some b) : b < out.length ∧ (out.drop b).all isDg = true ∧ 0 < b := by
  unfold hol at h
  have hle := dg_le (pD out own) out.length
  have hall := dg_all (pD out own) out.length
  simp only at h
  generalize dg (pD out own) out.length = d at *
  have key : d < out.length → (out.drop d).all isDg = true := fun hd => by
    rw [List.all_eq_true]
    intro x hx
    obtain ⟨i, hi, rfl⟩ := List.mem_iff_getElem.1 hx
    rw [List.length_drop] at hi
    rw [List.getElem_drop]
    have := hall (d + i) (by omega) (by omega)
    unfold pD at this
    rw [Bool.and_eq_true, List.getD_eq_getElem?_getD (l := out), List.getElem?_eq_getElem (by omega)] at this
    exact this.2
  have pos : ∀ sg, isB out own d sg = true → 0 < d := fun sg hs => by
    cases d with
    | zero => simp [isB] at hs
    | succ d => omega
  split at h
  · cases h
  · split at h
    · rename_i h1 h2
      obtain rfl := Option.some.inj h
      exact ⟨by omega, key (by omega), pos _ h2⟩
    · split at h
      · split at h
        · rename_i h1 h2 h3 h4
          obtain rfl := Option.some.inj h
          exact ⟨by omega, key (by omega), pos _ h3⟩
        · cases h
      · cases h
end Go.Proofs.YtjcbhbncncbdjaaGreatDoorAi

namespace Go.Proofs.YtjcbhbncncbdjaaGreatDoorAi
open Go Go.RowKit
set_option linter.unusedVariables false
set_option linter.unusedSimpArgs false

theorem mid_all {α : Type} (l : List α) (n : Nat) : mid l (n : Int) (l.length : Int) = l.drop n := by
  unfold mid
  rw [Int.toNat_natCast, Int.toNat_natCast, List.take_length]
theorem u8eq (a b : UInt8) : ((a.toNat : Int) == (b.toNat : Int)) = decide (a = b) := by
  by_cases h : a = b
  · subst h; simp
  · rw [decide_eq_false h]
    exact beq_eq_false_iff_ne.2 fun e => h (UInt8.toNat_inj.1 (by omega))
theorem isQuote_f (c : UInt8) : g_source_isQuote.f c = some (decide (c = 39) || decide (c = 34)) := by
  unfold g_source_isQuote.f
  rw [u8eq, u8eq]
/-- What a step makes of what was there. -/
def enc (out : List UInt8) (frm : List Int) (own : List Bool) (cs : List (Int × Int)) (a : Nat) : Except Int (Nat × List UInt8 × List Bool × List (Int × Int)) → Int × Int × List UInt8 × List Int × List Bool × List (Int × Int)
  | .error e => (0, e, out, frm, own, cs)
  | .ok (a', o, w, c) => ((a' : Int), 0, out ++ o, frm ++ rng a o.length, own ++ w, cs ++ c)
theorem character_f {t : List UInt8} (ht : t.length < 10000) {a : Nat} (ha : a < t.length) {out : List UInt8} {frm : List Int} {own : List Bool} {cs : List (Int × Int)} (h1 : out.length < 800000) (h2 : frm.length < 800000) (h3 : own.length < 800000) (h4 : cs.length < 800000) :
    g_source_squeezer_character.f t out frm own cs (a : Int) = some (enc out frm own cs a (match (t.drop (a + 1)).findIdx? (· == t.getD a default) with
    | none => .error 21
    | some n => .ok (a + (n + 2), piece t a (n + 2), List.replicate (n + 2) true, [((a : Int), ((a + (n + 2) : Nat) : Int))]))) := by
  have hw : w64 ((a : Int) + 1) = ((a + 1 : Nat) : Int) := by rw [w64_id] <;> omega
  unfold g_source_squeezer_character.f
  rw [hw, if_pos ⟨by omega, by omega, Int.le_refl _⟩, if_pos ⟨by omega, by omega⟩, indexByte_eq, mid_all, gt_nat, Option.bind_some]
  unfold idxB
  cases h : (t.drop (a + 1)).findIdx? (· == t.getD a default) with
  | none => rfl
  | some n =>
    obtain ⟨hn, _, _⟩ := List.findIdx?_eq_some_iff_getElem.1 h
    rw [List.length_drop] at hn
    have hw2 : w64 (w64 ((a : Int) + (n : Int)) + 2) = ((a + (n + 2) : Nat) : Int) := by rw [w64_id (x := (a : Int) + (n : Int)) (by omega) (by omega), w64_id] <;> omega
    rw [if_neg (by simp), hw2, if_pos (by simp only [List.length_cons, List.length_nil]; omega), constant_f ht (by omega) h1 h2 h3, Option.bind_some]
    simp only [enc]
    rw [piece_len (by omega)]
theorem count_f {t : List UInt8} (ht : t.length < 10000) {a : Nat} (ha : a < t.length) {out : List UInt8} {frm : List Int} {own : List Bool} {cs : List (Int × Int)} (h1 : out.length < 700000) (h2 : frm.length = out.length) (h3 : own.length < 700000) (h4 : cs.length < 800000)
    {b : Nat} (hb : b < out.length) (hd : (out.drop b).all isDg = true) :
    g_source_squeezer_count.f t out frm own cs (b : Int) (a : Int) = some (enc out frm own cs a (
      if t.length < a + 1 + valL 0 (out.drop b) then .error 21 else if valL 0 (out.drop b) = 0 then .error 11 else
        .ok (a + 1 + valL 0 (out.drop b), 72 :: piece t (a + 1) (valL 0 (out.drop b)), false :: List.replicate (valL 0 (out.drop b)) true, [(frm.getD b default, ((a + 1 + valL 0 (out.drop b) : Nat) : Int))]))) := by
  have hne : out.drop b ≠ [] := fun e => by
    have := congrArg List.length e
    rw [List.length_drop] at this
    simp at this; omega
  have hw : w64 (w64 ((t.length : Int) - (a : Int)) - 1) = ((t.length - a - 1 : Nat) : Int) := by rw [w64_id (x := (t.length : Int) - (a : Int)) (by omega) (by omega), w64_id] <;> omega
  unfold g_source_squeezer_count.f
  rw [if_pos ⟨by omega, by omega, Int.le_refl _⟩, mid_all, atoi_f hne hd (by rw [List.length_drop]; omega)]
  generalize valL 0 (out.drop b) = v
  by_cases hv : v < 9223372036854775808
  · rw [if_pos hv, Option.bind_some]
    simp only [Bool.false_or, hw]
    by_cases hq : t.length < a + 1 + v
    · rw [if_pos (decide_eq_true (by omega)), if_pos hq]; rfl
    · rw [if_neg (by simp; omega), if_neg hq]
      by_cases h0 : v = 0
      · subst h0; rfl
      · have hw2 : w64 ((a : Int) + 1) = ((a + 1 : Nat) : Int) := by rw [w64_id] <;> omega
        have hw3 : w64 (((a + 1 : Nat) : Int) + (v : Int)) = ((a + 1 + v : Nat) : Int) := by rw [w64_id] <;> omega
        rw [if_neg (by simp; omega), if_neg h0, if_pos ⟨by omega, by omega⟩, if_pos (by simp only [List.length_cons, List.length_nil]; omega), put_f (by omega) (by omega) (by omega), Option.bind_some]
        simp only
        rw [hw2, hw3, constant_f ht (n := v) (a := a + 1) (by omega) (by simp; omega) (by simp; omega) (by simp; omega), Option.bind_some]
        simp only [enc, gt_nat, List.append_assoc, List.singleton_append]
        rw [List.length_cons, piece_len (by omega)]
        rfl
  · rw [if_neg hv, Option.bind_some, if_pos (show t.length < a + 1 + v by omega), if_pos (by simp)]; rfl
theorem upC_eq (c : UInt8) : (if ((decide (((97 : UInt8).toNat : Int) ≤ (c.toNat : Int))) && (decide ((c.toNat : Int) ≤ ((122 : UInt8).toNat : Int)))) = true then some (c - 32) else some c) = some (upC c) := by
  have e1 : ((97 : UInt8).toNat : Int) = 97 := rfl
  have e2 : ((122 : UInt8).toNat : Int) = 122 := rfl
  rw [e1, e2]
  unfold upC
  by_cases h : 97 ≤ c.toNat ∧ c.toNat ≤ 122
  · rw [if_pos h, if_pos (by simp; omega)]
  · rw [if_neg h, if_neg (by simp; omega)]
/-- The place, the lengths. -/
structure Fine (t : List UInt8) (a : Nat) (out : List UInt8) (frm : List Int) (own : List Bool) (cs : List (Int × Int)) : Prop where
  lt : t.length < 10000
  la : a ≤ t.length
  lo : out.length ≤ a
  lf : frm.length = out.length
  lw : own.length = out.length
  lc : cs.length ≤ a
theorem next_f {t : List UInt8} {a : Nat} {out : List UInt8} {frm : List Int} {own : List Bool} {cs : List (Int × Int)} (h : Fine t a out frm own cs) (ha : a < t.length) :
    g_source_squeezer_next.f t out frm own cs (a : Int) = some (enc out frm own cs a (stp t a out own frm)) := by
  obtain ⟨h1, h2, h3, h4, h5, h6⟩ := h
  unfold g_source_squeezer_next.f
  rw [if_pos ⟨by omega, by omega⟩, gt_nat, isQuote_f, Option.bind_some]
  unfold stp
  simp only
  by_cases hq : t.getD a default = 39 ∨ t.getD a default = 34
  · rw [if_pos (by simpa using hq), if_pos hq, character_f h1 ha (by omega) (by omega) (by omega) (by omega)]
    rfl
  · rw [if_neg (by simpa using hq), if_neg hq, upC_eq, Option.bind_some]
    have hend : Option.bind ((if ((((upC (t.getD a default)).toNat : Int) != ((32 : UInt8).toNat : Int))) = true then Option.bind (g_source_squeezer_put.f out frm own (upC (t.getD a default)) (a : Int) false) fun y => some (y.1, y.2.1, y.2.2) else some (out, frm, own))) (fun z => some ((w64 ((a : Int) + 1)), (0 : Int), z.1, z.2.1, z.2.2, cs)) =
        some (enc out frm own cs a (if upC (t.getD a default) = 32 then .ok (a + 1, [], [], []) else .ok (a + 1, [upC (t.getD a default)], [false], []))) := by
      rw [bne, u8eq, w64_id (by omega) (by omega)]
      by_cases h32 : upC (t.getD a default) = 32
      · rw [if_pos h32, if_neg (by rw [decide_eq_true h32]; decide)]
        simp [enc, rng]
      · rw [if_neg h32, if_pos (by rw [decide_eq_false h32]; rfl), put_f (by omega) (by omega) (by omega)]
        simp [enc, rng]
    rw [u8eq]
    by_cases h72 : upC (t.getD a default) = 72
    · rw [if_pos (decide_eq_true h72), if_pos h72]
      obtain ⟨d, hd⟩ := hollerith_f (out := out) (own := own) (by omega) (by omega)
      rw [hd, Option.bind_some]
      cases hh : hol out own with
      | none => simp only [Bool.false_eq_true, if_false]; exact hend
      | some b =>
        obtain ⟨k1, k2, _⟩ := hol_some hh
        simp only [if_true]
        rw [count_f h1 ha (by omega) (by omega) (by omega) (by omega) k1 k2]
        rfl
    · rw [if_neg (by rw [decide_eq_false h72]; decide), if_neg h72]
      exact hend
end Go.Proofs.YtjcbhbncncbdjaaGreatDoorAi

namespace Go.Proofs.YtjcbhbncncbdjaaGreatDoorAi
open Go Go.RowKit
set_option linter.unusedVariables false
set_option linter.unusedSimpArgs false

theorem get_bang (l : List UInt8) (i : Nat) : (⟨l.toArray⟩ : ByteArray).get! i = l.getD i default := by
  show l.toArray[i]! = _
  simp [List.getD_eq_getElem?_getD]
theorem dec_lo {l : List UInt8} {p : Nat} (h : (l.getD p default).toNat < 128) : dec l p = ((l.getD p default).toNat, 1) := by
  unfold dec Utf8.decode
  simp only [Nat.add_zero, get_bang]
  rw [if_pos h]
theorem dec_hi {l : List UInt8} {p : Nat} (h : ¬ (l.getD p default).toNat < 128) : 126 < (dec l p).1 := by
  unfold dec Utf8.decode
  simp only [Nat.add_zero, get_bang]
  rw [if_neg h]
  split
  · split
    · simp only; omega
    · decide
  · split
    · split
      · rename_i h2
        simp only [Bool.and_eq_true, decide_eq_true_eq] at h2
        simp only; omega
      · decide
    · split
      · split
        · rename_i h2
          simp only [Bool.and_eq_true, decide_eq_true_eq] at h2
          simp only; omega
        · decide
      · decide
def shown (c : UInt8) : Bool := decide (32 ≤ c.toNat) && decide (c.toNat ≤ 126)
theorem notShown_eq (r : Nat) : g_source_isShown_1.f (r : Int) 32 = some (!(decide (32 ≤ r) && decide (r ≤ 126))) := by
  unfold g_source_isShown_1.f
  have : IntKind.i32.wrap (((32 : UInt8).toNat : Nat) : Int) = 32 := by decide
  rw [this]
  congr 1
  by_cases h1 : 32 ≤ r <;> by_cases h2 : r ≤ 126 <;> simp [h1, h2] <;> omega
theorem drop_getD {t : List UInt8} {a : Nat} (h : a < t.length) : t.drop a = t.getD a default :: t.drop (a + 1) := by
  rw [List.drop_eq_getElem_cons h, List.getD_eq_getElem?_getD, List.getElem?_eq_getElem h]; rfl
theorem indexFunc_iter (t : List UInt8) : ∀ d x : Nat, x + d = t.length →
    if (t.drop x).all shown = true then iter (g_strings_indexFunc_1.b0 t 32 true) x = some (.inl t.length) else ∃ k : Nat, iter (g_strings_indexFunc_1.b0 t 32 true) x = some (.inr (k : Int))
  | 0, x, h => by
    rw [show x = t.length by omega, List.drop_length]
    exact iter_stop (by unfold g_strings_indexFunc_1.b0; rw [if_neg (by simp)])
  | d + 1, x, h => by
    have ih := indexFunc_iter t d (x + 1) (by omega)
    have key : g_strings_indexFunc_1.b0 t 32 true x = if (decide (32 ≤ (dec t x).1) && decide ((dec t x).1 ≤ 126)) = true then some (.inl (x + (dec t x).2)) else some (.inr (.inr (x : Int))) := by
      unfold g_strings_indexFunc_1.b0
      rw [if_pos (decide_eq_true (by omega)), notShown_eq, Option.bind_some]
      cases (decide (32 ≤ (dec t x).1) && decide ((dec t x).1 ≤ 126)) <;> rfl
    rw [drop_getD (by omega), List.all_cons]
    by_cases hb : (t.getD x default).toNat < 128
    · rw [dec_lo hb] at key
      cases hs : shown (t.getD x default)
      · rw [Bool.false_and, if_neg (by decide)]
        unfold shown at hs
        exact ⟨x, iter_stop (key.trans (if_neg (by rw [hs]; decide)))⟩
      · rw [Bool.true_and]
        unfold shown at hs
        rw [iter_next (key.trans (if_pos hs))]
        exact ih
    · have hh := dec_hi hb
      have hs : shown (t.getD x default) = false := by unfold shown; rw [decide_eq_false (show ¬ (t.getD x default).toNat ≤ 126 by omega), Bool.and_false]
      rw [hs, Bool.false_and, if_neg (by decide)]
      exact ⟨x, iter_stop (key.trans (if_neg (by rw [decide_eq_false (show ¬ (dec t x).1 ≤ 126 by omega), Bool.and_false]; decide)))⟩
theorem isShown_f (t : List UInt8) : g_source_isShown.f t 32 = some (t.all shown) := by
  have h := indexFunc_iter t t.length 0 (by omega)
  rw [List.drop_zero] at h
  unfold g_source_isShown.f g_strings_IndexFunc_1.f g_strings_indexFunc_1.f
  cases hs : t.all shown
  · rw [hs, if_neg (by decide)] at h
    obtain ⟨k, hk⟩ := h
    rw [hk]
    simp [onSum]
  · rw [hs, if_pos rfl] at h
    rw [h]
    simp [onSum]
theorem first2 (a b : Int) : g_source_first.f [a, b] = some (if a ≠ 0 then a else b) := by
  have s0 : g_source_first.b0 [a, b] 0 = if (a != 0) = true then some (.inr (.inr a)) else some (.inl 1) := rfl
  have s1 : g_source_first.b0 [a, b] 1 = if (b != 0) = true then some (.inr (.inr b)) else some (.inl 2) := rfl
  have s2 : g_source_first.b0 [a, b] 2 = some (.inr (.inl 2)) := rfl
  unfold g_source_first.f
  by_cases ha : a = 0
  · subst ha
    rw [iter_next (s0.trans (if_neg (by simp))), if_neg (by simp)]
    by_cases hb : b = 0
    · subst hb
      rw [iter_next (s1.trans (if_neg (by simp))), iter_stop s2]; rfl
    · rw [iter_stop (s1.trans (if_pos (by simp [hb])))]; rfl
  · rw [iter_stop (s0.trans (if_pos (by simp [ha]))), if_pos ha]; rfl
/-- The error of a text. -/
def tErr (t : List UInt8) : Int := if 1320 < t.length then 8 else if t.all shown = true then 0 else 3
theorem textErr_f (t : List UInt8) : g_source_textErr.f t = some (tErr t) := by
  unfold g_source_textErr.f g_source_unless.f tErr
  rw [isShown_f]
  by_cases h : 1320 < t.length
  · rw [if_neg (by simp; omega), if_pos h]
    cases t.all shown <;> simp [first2]
  · rw [if_pos (by simp; omega), if_neg h]
    cases t.all shown <;> simp [first2]
theorem within_eq (c : UInt8) : g_base_Within.f (IntKind.i64.wrap (c.toNat : Int)) 32 126 = some (shown c) := by
  have hc := c.toNat_lt
  have : IntKind.i64.wrap (c.toNat : Int) = (c.toNat : Int) := w64_id (by omega) (by omega)
  rw [this]
  unfold g_base_Within.f shown
  congr 1
  by_cases h1 : 32 ≤ c.toNat <;> by_cases h2 : c.toNat ≤ 126 <;> simp [h1, h2] <;> omega
theorem isText_iter (t : List UInt8) (ht : t.length < 10000) : ∀ d x : Nat, x + d = t.length →
    iter (g_base_IsText.b0 t) (x : Int) = if (t.drop x).all shown = true then some (.inl (t.length : Int)) else some (.inr false)
  | 0, x, h => by
    rw [show x = t.length by omega, List.drop_length]
    exact iter_stop (by unfold g_base_IsText.b0; rw [if_neg (by simp)])
  | d + 1, x, h => by
    have ih := isText_iter t ht d (x + 1) (by omega)
    have key : g_base_IsText.b0 t (x : Int) = if shown (t.getD x default) = true then some (.inl ((x + 1 : Nat) : Int)) else some (.inr (.inr false)) := by
      unfold g_base_IsText.b0
      rw [if_pos (decide_eq_true (by omega)), if_pos ⟨by omega, by omega⟩, gt_nat, within_eq, Option.bind_some, w64_id (by omega) (by omega)]
      cases shown (t.getD x default) <;> rfl
    rw [drop_getD (by omega), List.all_cons]
    cases hs : shown (t.getD x default)
    · rw [hs, if_neg (by decide)] at key
      rw [iter_stop key]; rfl
    · rw [hs, if_pos rfl] at key
      rw [iter_next key, ih]; rfl
theorem refTextErr_f (t : List UInt8) (ht : t.length < 10000) : g_ref01_TextErr.f t = some (tErr t) := by
  unfold g_ref01_TextErr.f tErr
  by_cases h : 1320 < t.length
  · rw [if_pos (by simp; omega), if_pos h]
  · have := isText_iter t ht t.length 0 (by omega)
    rw [List.drop_zero] at this
    unfold g_base_IsText.f
    rw [if_neg (by simp; omega), if_neg h, if_neg (by simp; omega)]
    show Option.bind (Option.bind (iter (g_base_IsText.b0 t) ((0 : Nat) : Int)) _) _ = _
    rw [this]
    cases t.all shown <;> simp [onSum]
/-! ### the loop -/
theorem stp_fine {t : List UInt8} {a : Nat} {out : List UInt8} {frm : List Int} {own : List Bool} {cs : List (Int × Int)} (h : Fine t a out frm own cs) (ha : a < t.length) {a' : Nat} {o : List UInt8} {w : List Bool} {c : List (Int × Int)} (hs : stp t a out own frm = .ok (a', o, w, c)) :
    a < a' ∧ Fine t a' (out ++ o) (frm ++ rng a o.length) (own ++ w) (cs ++ c) ∧ o.length = w.length := by
  obtain ⟨h1, h2, h3, h4, h5, h6⟩ := h
  have key : a < a' ∧ a' ≤ t.length ∧ o.length ≤ a' - a ∧ w.length = o.length ∧ c.length ≤ 1 := by
    unfold stp at hs
    simp only at hs
    split at hs
    · split at hs
      · cases hs
      · rename_i n hn
        obtain ⟨hn, _, _⟩ := List.findIdx?_eq_some_iff_getElem.1 hn
        rw [List.length_drop] at hn
        simp only [Except.ok.injEq, Prod.mk.injEq] at hs
        obtain ⟨rfl, rfl, rfl, rfl⟩ := hs
        rw [piece_len (by omega), List.length_replicate]
        exact ⟨by omega, by omega, by omega, rfl, Nat.le_refl _⟩
    · split at hs
      · split at hs
        · cases hs
        · split at hs
          · cases hs
          · simp only [Except.ok.injEq, Prod.mk.injEq] at hs
            obtain ⟨rfl, rfl, rfl, rfl⟩ := hs
            rw [List.length_cons, piece_len (by omega), List.length_cons, List.length_replicate]
            exact ⟨by omega, by omega, by omega, rfl, Nat.le_refl _⟩
      · split at hs
        · simp only [Except.ok.injEq, Prod.mk.injEq] at hs
          obtain ⟨rfl, rfl, rfl, rfl⟩ := hs
          exact ⟨by omega, by omega, by simp, rfl, by simp⟩
        · simp only [Except.ok.injEq, Prod.mk.injEq] at hs
          obtain ⟨rfl, rfl, rfl, rfl⟩ := hs
          exact ⟨by omega, by omega, by simp, rfl, by simp⟩
  obtain ⟨k1, k2, k3, k4, k5⟩ := key
  refine ⟨k1, ⟨h1, k2, ?_, ?_, ?_, ?_⟩, k4.symm⟩
  · rw [List.length_append]; omega
  · rw [List.length_append, List.length_append, rng_len]; omega
  · rw [List.length_append, List.length_append]; omega
  · rw [List.length_append]; omega
theorem stp_err {t : List UInt8} {a : Nat} {out : List UInt8} {frm : List Int} {own : List Bool} {e : Int} (hs : stp t a out own frm = .error e) : e = 21 ∨ e = 11 := by
  unfold stp at hs
  simp only at hs
  split at hs
  · split at hs
    · simp only [Except.error.injEq] at hs; exact .inl hs.symm
    · cases hs
  · split at hs
    · split at hs
      · simp only [Except.error.injEq] at hs; exact .inl hs.symm
      · split at hs
        · simp only [Except.error.injEq] at hs; exact .inr hs.symm
        · cases hs
    · split at hs <;> cases hs
/-- Squeezing from a place on, in so many rounds. -/
def sqz (t : List UInt8) : Nat → Nat → List UInt8 → List Int → List Bool → List (Int × Int) → Except Int (List UInt8 × List Int × List Bool × List (Int × Int))
  | 0, _, out, frm, own, cs => .ok (out, frm, own, cs)
  | n + 1, a, out, frm, own, cs => if a < t.length then
      match stp t a out own frm with
      | .error e => .error e
      | .ok (a', o, w, c) => sqz t n a' (out ++ o) (frm ++ rng a o.length) (own ++ w) (cs ++ c)
    else .ok (out, frm, own, cs)
theorem squeeze_iter {t : List UInt8} : ∀ (n a : Nat) (out : List UInt8) (frm : List Int) (own : List Bool) (cs : List (Int × Int)), Fine t a out frm own cs → t.length < a + n →
    iter (g_source_squeeze.b0 t) ((a : Int), out, frm, own, cs) = some (match sqz t n a out frm own cs with | .error e => .inr (none, e) | .ok r => .inl ((t.length : Int), r))
  | 0, a, out, frm, own, cs, h, hn => absurd h.la (by omega)
  | n + 1, a, out, frm, own, cs, h, hn => by
    unfold sqz
    by_cases ha : a < t.length
    · rw [if_pos ha]
      have key : g_source_squeeze.b0 t ((a : Int), out, frm, own, cs) = match stp t a out own frm with | .error e => some (.inr (.inr (none, e))) | .ok (a', o, w, c) => some (.inl ((a' : Int), out ++ o, frm ++ rng a o.length, own ++ w, cs ++ c)) := by
        unfold g_source_squeeze.b0
        rw [if_pos (decide_eq_true (by simp only; omega))]
        simp only
        rw [next_f h ha, Option.bind_some]
        cases hs : stp t a out own frm with
        | error e =>
          rcases stp_err hs with rfl | rfl <;> rfl
        | ok r => rfl
      cases hs : stp t a out own frm with
      | error e =>
        rw [hs] at key
        exact iter_stop key
      | ok r =>
        obtain ⟨a', o, w, c⟩ := r
        rw [hs] at key
        obtain ⟨k1, k2, _⟩ := stp_fine h ha hs
        rw [iter_next key]
        exact squeeze_iter n a' _ _ _ _ k2 (by omega)
    · rw [if_neg ha]
      have := h.la
      rw [show a = t.length by omega]
      exact iter_stop (by
        unfold g_source_squeeze.b0
        rw [if_neg (by simp)])
/-- What squeezing makes of a text. -/
def SQ (t : List UInt8) : Except Int (List UInt8 × List Int × List Bool × List (Int × Int)) := if tErr t ≠ 0 then .error (tErr t) else sqz t (t.length + 1) 0 [] [] [] []
theorem squeeze_f (t : List UInt8) : g_source_squeeze.f t = some (match SQ t with | .error e => (none, e) | .ok r => (some (t, r), 0)) := by
  unfold g_source_squeeze.f SQ
  rw [textErr_f, Option.bind_some]
  by_cases h : tErr t = 0
  · have hl : t.length ≤ 1320 := by
      unfold tErr at h
      split at h
      · cases h
      · omega
    rw [if_neg (by simp [h]), if_neg (by simp [h])]
    have := squeeze_iter (t := t) (t.length + 1) 0 [] [] [] [] ⟨by omega, by omega, Nat.le_refl _, rfl, rfl, Nat.le_refl _⟩ (by omega)
    show Option.bind (iter (g_source_squeeze.b0 t) (((0 : Nat) : Int), _)) _ = _
    rw [this, Option.bind_some]
    cases sqz t (t.length + 1) 0 [] [] [] [] <;> rfl
  · rw [if_pos (by simp [h]), if_pos (by simp [h])]
theorem sqz_err {t : List UInt8} : ∀ (n a : Nat) (out : List UInt8) (frm : List Int) (own : List Bool) (cs : List (Int × Int)) (e : Int), sqz t n a out frm own cs = .error e → e ≠ 0
  | 0, _, _, _, _, _, e, h => by cases h
  | n + 1, a, out, frm, own, cs, e, h => by
    unfold sqz at h
    split at h
    · split at h
      · rename_i e' he
        simp only [Except.error.injEq] at h
        subst h
        rcases stp_err he with rfl | rfl <;> decide
      · exact sqz_err n _ _ _ _ _ e h
    · cases h
theorem SQ_err {t : List UInt8} {e : Int} (h : SQ t = .error e) : e ≠ 0 := by
  unfold SQ at h
  split at h
  · rename_i h0
    simp only [Except.error.injEq] at h
    rw [← h]; exact h0
  · exact sqz_err _ _ _ _ _ _ _ h
theorem Squeezed_f (t : List UInt8) : g_source_Squeezed.f t = some (match SQ t with | .error e => ([], [], e) | .ok r => (r.1, r.2.1, 0)) := by
  unfold g_source_Squeezed.f
  rw [squeeze_f, Option.bind_some]
  cases h : SQ t with
  | error e =>
    have := SQ_err h
    simp [onOpt, this]
  | ok r => rfl
theorem ConstantsIn_f (t : List UInt8) : g_source_ConstantsIn.f t = some (match SQ t with | .error e => ([], e) | .ok r => (r.2.2.2, 0)) := by
  unfold g_source_ConstantsIn.f
  rw [squeeze_f, Option.bind_some]
  cases h : SQ t with
  | error e =>
    have := SQ_err h
    simp [onOpt, this]
  | ok r => rfl
end Go.Proofs.YtjcbhbncncbdjaaGreatDoorAi

namespace Go.Proofs.YtjcbhbncncbdjaaGreatDoorAi
open Go Go.RowKit
set_option linter.unusedVariables false
set_option linter.unusedSimpArgs false

/-- The reference's characters, in which those of constants are hidden, go with the program's. -/
structure Rel (out : List UInt8) (own : List Bool) (pl : List UInt8) : Prop where
  h1 : out.length = own.length
  h2 : pl.length = own.length
  q : ∀ (k : Nat) (q : UInt8 → Bool), q 72 = false → q 34 = false → (!(own.getD k default) && q (out.getD k default)) = q (pl.getD k default)
theorem getD_app {α : Type} (l m : List α) (d : α) (k : Nat) : (l ++ m).getD k d = if k < l.length then l.getD k d else m.getD (k - l.length) d := by
  simp only [List.getD_eq_getElem?_getD]
  split
  · rw [List.getElem?_append_left (by assumption)]
  · rw [List.getElem?_append_right (by omega)]
theorem Rel.nil : Rel [] [] [] := ⟨rfl, rfl, fun k q _ _ => by simp⟩
theorem Rel.app {out : List UInt8} {own : List Bool} {pl o : List UInt8} {w : List Bool} {p : List UInt8} (h : Rel out own pl) (k : Rel o w p) : Rel (out ++ o) (own ++ w) (pl ++ p) := by
  refine ⟨by rw [List.length_append, List.length_append, h.h1, k.h1], by rw [List.length_append, List.length_append, h.h2, k.h2], fun i q q1 q2 => ?_⟩
  rw [getD_app, getD_app, getD_app, h.h1, h.h2]
  split
  · exact h.q i q q1 q2
  · exact k.q _ q q1 q2
theorem Rel.one (c : UInt8) : Rel [c] [false] [c] := ⟨rfl, rfl, fun k q _ _ => by
  cases k with
  | zero => simp
  | succ k => simp⟩
theorem Rel.hide (c : UInt8) (b : Bool) (hb : b = true ∨ c = 72) : Rel [c] [b] [34] := ⟨rfl, rfl, fun k q q1 q2 => by
  cases k with
  | zero =>
    show (!b && q c) = q 34
    rcases hb with rfl | rfl
    · rw [q2]; rfl
    · rw [q1, q2, Bool.and_false]
  | succ k => simp⟩
theorem Rel.const : ∀ (o : List UInt8), Rel o (List.replicate o.length true) (List.replicate o.length 34)
  | [] => Rel.nil
  | c :: o => (Rel.hide c true (.inl rfl)).app (Rel.const o)
theorem u8cast (a : UInt8) : IntKind.i64.wrap (a.toNat : Int) = (a.toNat : Int) := by
  have := a.toNat_lt
  exact w64_id (by omega) (by omega)
theorem refdig_iter {pl : List UInt8} (hs : pl.length < 1000000) : ∀ n : Nat, n ≤ pl.length → iter (g_ref01_holleriths.b0 pl) (n : Int) = some ((dg (fun k => isDg (pl.getD k default)) n : Nat) : Int)
  | 0, _ => iter_stop (by unfold g_ref01_holleriths.b0; rfl)
  | n + 1, hn => by
    have hw : w64 (((n + 1 : Nat) : Int) - 1) = (n : Int) := by rw [w64_id] <;> omega
    have key : g_ref01_holleriths.b0 pl ((n + 1 : Nat) : Int) = if isDg (pl.getD n default) = true then some (.inl (n : Int)) else some (.inr ((n + 1 : Nat) : Int)) := by
      unfold g_ref01_holleriths.b0
      rw [hw, if_pos (decide_eq_true (by omega)), if_pos ⟨by omega, by omega⟩, refDigit_eq, gt_nat]
      rfl
    unfold dg
    split
    · rename_i h
      rw [iter_next (key.trans (if_pos h))]
      exact refdig_iter hs n (by omega)
    · rename_i h
      exact iter_stop (key.trans (if_neg h))
theorem refdig_iter1 : g_ref01_holleriths.b1 = g_ref01_holleriths.b0 := rfl
/-- One of the signs stands before a place. -/
def isP (pl : List UInt8) (n : Nat) (sg : List UInt8) : Bool := match n with | 0 => false | n + 1 => sg.contains (pl.getD n default)
theorem isP_succ (pl : List UInt8) (n : Nat) (sg : List UInt8) : isP pl (n + 1) sg = sg.contains (pl.getD n default) := rfl
theorem Rel.isB {out : List UInt8} {own : List Bool} {pl : List UInt8} (h : Rel out own pl) (n : Nat) (sg : List UInt8) (h1 : sg.contains 72 = false) (h2 : sg.contains 34 = false) : isB out own n sg = isP pl n sg := by
  cases n with
  | zero => rfl
  | succ n => exact h.q n (fun c => sg.contains c) h1 h2
theorem Rel.pD {out : List UInt8} {own : List Bool} {pl : List UInt8} (h : Rel out own pl) : pD out own = fun k => isDg (pl.getD k default) := by
  funext k
  exact h.q k isDg (by decide) (by decide)
theorem chain {pl : List UInt8} (hp : pl.length < 1000000) (o : Nat) (ho : o ≤ pl.length) :
    (if (((o : Int) == 0)) = true then some true else (if 0 ≤ (w64 ((o : Int) - 1)) ∧ (w64 ((o : Int) - 1)) < (pl.length : Int) then Option.bind ((if ((((gt pl (w64 ((o : Int) - 1))).toNat : Int) != ((40 : UInt8).toNat : Int))) = true then (if 0 ≤ (w64 ((o : Int) - 1)) ∧ (w64 ((o : Int) - 1)) < (pl.length : Int) then some (((gt pl (w64 ((o : Int) - 1))).toNat : Int) != ((44 : UInt8).toNat : Int)) else none) else some false)) fun z29 => Option.bind ((if z29 = true then (if 0 ≤ (w64 ((o : Int) - 1)) ∧ (w64 ((o : Int) - 1)) < (pl.length : Int) then some (((gt pl (w64 ((o : Int) - 1))).toNat : Int) != ((47 : UInt8).toNat : Int)) else none) else some false)) fun z32 => Option.bind ((if z32 = true then (if 0 ≤ (w64 ((o : Int) - 1)) ∧ (w64 ((o : Int) - 1)) < (pl.length : Int) then some (((gt pl (w64 ((o : Int) - 1))).toNat : Int) != ((61 : UInt8).toNat : Int)) else none) else some false)) fun z35 => some z35 else none)) = some (!isP pl o [40, 44, 47, 61]) := by
  cases o with
  | zero => rfl
  | succ n =>
    have hw : w64 (((n + 1 : Nat) : Int) - 1) = (n : Int) := by rw [w64_id] <;> omega
    have hc : 0 ≤ (n : Int) ∧ (n : Int) < (pl.length : Int) := ⟨by omega, by omega⟩
    rw [if_neg (by simp; omega)]
    simp only [hw, if_pos hc, gt_nat, bne, u8eq]
    rw [isP_succ]
    generalize pl.getD n default = c
    by_cases e1 : c = 40
    · subst e1; rfl
    · by_cases e2 : c = 44
      · subst e2; rfl
      · by_cases e3 : c = 47
        · subst e3; rfl
        · by_cases e4 : c = 61
          · subst e4; rfl
          · simp [e1, e2, e3, e4]
theorem holleriths_f {out : List UInt8} {own : List Bool} {pl : List UInt8} (h : Rel out own pl) (hp : pl.length < 1000000) :
    g_ref01_holleriths.f pl = some (match hol out own with | some b => ((out.length - b : Nat) : Int) | none => 0) := by
  have hlen : out.length = pl.length := by rw [h.h1, h.h2]
  unfold hol
  have e1 := fun n => h.isB n [40, 44, 47, 61] (by decide) (by decide)
  have e2 := fun n => h.isB n [42] (by decide) (by decide)
  simp only [e1, e2, h.pD, hlen]
  have hle := dg_le (fun k => isDg (pl.getD k default)) pl.length
  unfold g_ref01_holleriths.f
  rw [refdig_iter hp pl.length (Nat.le_refl _), Option.bind_some]
  generalize dg (fun k => isDg (pl.getD k default)) pl.length = b at *
  have hw : w64 ((pl.length : Int) - (b : Int)) = ((pl.length - b : Nat) : Int) := by rw [w64_id] <;> omega
  have hz11 : (if ((decide ((w64 ((pl.length : Int) - (b : Int))) > 0)) && (decide ((b : Int) > 0))) = true then (if 0 ≤ (w64 ((b : Int) - 1)) ∧ (w64 ((b : Int) - 1)) < (pl.length : Int) then some (((gt pl (w64 ((b : Int) - 1))).toNat : Int) == ((42 : UInt8).toNat : Int)) else none) else some false) = some (decide (b < pl.length) && isP pl b [42]) := by
    cases b with
    | zero => rw [if_neg (by simp)]; simp [isP]
    | succ n =>
      have hw2 : w64 (((n + 1 : Nat) : Int) - 1) = (n : Int) := by rw [w64_id] <;> omega
      rw [hw]
      by_cases hb : n + 1 < pl.length
      · rw [if_pos (by simp; omega), hw2, if_pos ⟨by omega, by omega⟩, gt_nat, u8eq, decide_eq_true hb, Bool.true_and, isP_succ]
        generalize pl.getD n default = c
        by_cases e : c = 42
        · subst e; rfl
        · rw [decide_eq_false e]; simp [e]
      · rw [if_neg (by simp; omega), decide_eq_false hb, Bool.false_and]
  rw [hz11, Option.bind_some]
  by_cases hb : b = pl.length
  · rw [if_pos hb, if_neg (by simp [hb]), chain hp b hle, Option.bind_some, hw]
    subst hb
    cases isP pl pl.length [40, 44, 47, 61] <;> simp
  · rw [if_neg hb, decide_eq_true (by omega), Bool.true_and]
    have hsg : isP pl b [42] = true → isP pl b [40, 44, 47, 61] = false := by
      cases b with
      | zero => intro; rfl
      | succ n =>
        rw [isP_succ, isP_succ]
        intro hc
        have : pl.getD n default = 42 := by
          generalize pl.getD n default = c at *
          simpa using hc
        rw [this]; decide
    cases h42 : isP pl b [42]
    · rw [if_neg (by decide), chain hp b hle, Option.bind_some, hw]
      cases isP pl b [40, 44, 47, 61] <;> simp
    · rw [if_pos rfl, hsg h42]
      have hb0 : 0 < b := by
        cases b with
        | zero => simp [isP] at h42
        | succ b => omega
      have hw2 : w64 ((b : Int) - 1) = ((b - 1 : Nat) : Int) := by rw [w64_id] <;> omega
      have hk := dg_le (fun k => isDg (pl.getD k default)) (b - 1)
      rw [hw2, refdig_iter1, refdig_iter hp (b - 1) (by omega), Option.bind_some]
      generalize dg (fun k => isDg (pl.getD k default)) (b - 1) = k at *
      simp only [Bool.false_eq_true, if_false, if_true]
      by_cases h3 : k = b - 1
      · rw [if_pos (by simp [h3]), if_neg (by omega)]
      · rw [if_neg (by simp; omega), chain hp k (by omega), Option.bind_some, hw]
        cases h4 : isP pl k [40, 44, 47, 61]
        · simp
        · have h5 : k < b - 1 := by omega
          simp [h5]
end Go.Proofs.YtjcbhbncncbdjaaGreatDoorAi

namespace Go.Proofs.YtjcbhbncncbdjaaGreatDoorAi
open Go Go.RowKit
set_option linter.unusedVariables false
set_option linter.unusedSimpArgs false

theorem with_f {tx pl : List UInt8} {ix : List Int} {cs : List (Int × Int)} {er : Int} (h1 : tx.length < 1000000) (h2 : pl.length < 1000000) (h3 : ix.length < 1000000) (c : UInt8) (i : Int) :
    g_ref01_with.f tx pl ix cs er c i = some (tx ++ [c], pl ++ [c], ix ++ [i], cs, er) := by
  unfold g_ref01_with.f
  rw [if_pos (by simp only [List.length_cons, List.length_nil]; omega), if_pos (by simp only [List.length_cons, List.length_nil]; omega), if_pos (by simp only [List.length_cons, List.length_nil]; omega)]
theorem hidden_f {tx pl : List UInt8} {ix : List Int} {cs : List (Int × Int)} {er : Int} (h2 : pl.length < 1000000) (c : UInt8) :
    g_ref01_hidden.f tx (pl ++ [c]) ix cs er = some (tx, pl ++ [34], ix, cs, er) := by
  have hl : (pl ++ [c]).length = pl.length + 1 := by simp
  have hw : w64 (((pl ++ [c]).length : Int) - 1) = (pl.length : Int) := by rw [hl, w64_id] <;> omega
  have hm : mid (pl ++ [c]) 0 (pl.length : Int) = pl := by
    unfold mid
    rw [Int.toNat_natCast]
    simp
  unfold g_ref01_hidden.f
  rw [hw, if_pos ⟨by omega, by omega, by rw [hl]; omega⟩, hm, if_pos (by simp only [List.length_cons, List.length_nil]; omega)]
theorem b1_iter {t : List UInt8} (ht : t.length < 10000) (x6 : Int × List UInt8 × List UInt8 × List Int × (List (Int × Int)) × Int) {a : Nat} (hx : x6.1 = (a : Int)) : ∀ d k : Nat, k + d = t.length →
    iter (g_ref01_Squeezed.b1 t x6) (k : Int) = some (match (t.drop k).findIdx? (· == t.getD a default) with | none => (t.length : Int) | some n => ((k + n : Nat) : Int))
  | 0, k, h => by
    rw [show k = t.length by omega, List.drop_length]
    exact iter_stop (by unfold g_ref01_Squeezed.b1; rw [if_neg (by simp)]; rfl)
  | d + 1, k, h => by
    have ih := b1_iter ht x6 hx d (k + 1) (by omega)
    have key : g_ref01_Squeezed.b1 t x6 (k : Int) = if (t.getD k default == t.getD a default) = true then some (.inr (k : Int)) else some (.inl ((k + 1 : Nat) : Int)) := by
      unfold g_ref01_Squeezed.b1
      rw [if_pos (decide_eq_true (by omega)), if_pos ⟨by omega, by omega⟩, hx, gt_nat, gt_nat, bne, u8eq, w64_id (by omega) (by omega), Option.bind_some]
      generalize t.getD k default = c
      generalize t.getD a default = e
      by_cases he : c = e
      · subst he; simp
      · rw [decide_eq_false he]; simp [he]
    rw [drop_getD (by omega), List.findIdx?_cons]
    cases hc : (t.getD k default == t.getD a default)
    · rw [hc, if_neg (by decide)] at key
      rw [iter_next key, ih]
      cases (t.drop (k + 1)).findIdx? (· == t.getD a default) with
      | none => rfl
      | some n =>
        show some (((k + 1 + n : Nat)) : Int) = some ((k + (n + 1) : Nat) : Int)
        rw [show k + 1 + n = k + (n + 1) by omega]
    · rw [hc, if_pos rfl] at key
      rw [iter_stop key]; rfl
theorem b2_iter {t : List UInt8} (ht : t.length < 10000) {cs : List (Int × Int)} {er : Int} (e : Nat) (he : e < t.length) : ∀ (n a : Nat) (tx pl : List UInt8) (ix : List Int), a + n = e + 1 → tx.length + n < 900000 → pl.length + n < 900000 → ix.length + n < 900000 →
    iter (g_ref01_Squeezed.b2 t (e : Int)) ((a : Int), tx, pl, ix, cs, er) = some (((e + 1 : Nat) : Int), tx ++ piece t a n, pl ++ List.replicate n 34, ix ++ rng a n, cs, er)
  | 0, a, tx, pl, ix, h, _, _, _ => by
    rw [show e + 1 = a by omega]
    exact iter_stop (by
      unfold g_ref01_Squeezed.b2
      rw [if_neg (by simp; omega)]
      simp [piece_zero, rng])
  | n + 1, a, tx, pl, ix, h, h1, h2, h3 => by
    have ih := b2_iter ht (cs := cs) (er := er) e he n (a + 1) (tx ++ [t.getD a default]) (pl ++ [34]) (ix ++ [(a : Int)]) (by omega) (by simp; omega) (by simp; omega) (by simp; omega)
    rw [iter_next (y := (((a + 1 : Nat) : Int), tx ++ [t.getD a default], pl ++ [34], ix ++ [(a : Int)], cs, er)) (by
      unfold g_ref01_Squeezed.b2
      rw [if_pos (decide_eq_true (by simp only; omega)), if_pos ⟨by simp only; omega, by simp only; omega⟩]
      simp only
      rw [with_f (by omega) (by omega) (by omega), Option.bind_some]
      simp only
      rw [hidden_f (by omega), Option.bind_some, w64_id (by omega) (by omega), gt_nat]
      rfl), ih, piece_succ n (by omega)]
    simp [rng, List.replicate_succ]
theorem b4_eq (t : List UInt8) (x6 : Int × List UInt8 × List UInt8 × List Int × (List (Int × Int)) × Int) (o : Int × Int) : g_ref01_Squeezed.b4 t x6 o = g_ref01_Squeezed.b2 t (w64 (x6.1 + o.1)) := rfl
theorem valL_min (l : List UInt8) : ∀ a P : Nat, min (valL a l) P = min (valL (min a P) l) P := by
  induction l with
  | nil => intro a P; rw [valL_nil, valL_nil]; omega
  | cons c r ih =>
    intro a P
    rw [valL_cons, valL_cons, ih (a * 10 + (c.toNat - 48)), ih (min a P * 10 + (c.toNat - 48))]
    have : min (a * 10 + (c.toNat - 48)) P = min (min a P * 10 + (c.toNat - 48)) P := by
      generalize c.toNat - 48 = d
      omega
    rw [this]
theorem b3_iter (x6 : Int × List UInt8 × List UInt8 × List Int × (List (Int × Int)) × Int) (hl : x6.2.1.length < 100000) : ∀ d k v : Nat, k + d = x6.2.1.length → v ≤ 10000 → (x6.2.1.drop k).all isDg = true →
    iter (g_ref01_Squeezed.b3 x6) ((v : Int), (k : Int)) = some (((min (valL v (x6.2.1.drop k)) 10000 : Nat) : Int), (x6.2.1.length : Int))
  | 0, k, v, h, hv, _ => by
    rw [show k = x6.2.1.length by omega, List.drop_length, valL_nil, Nat.min_eq_left hv]
    exact iter_stop (by unfold g_ref01_Squeezed.b3; rw [if_neg (by simp)])
  | d + 1, k, v, h, hv, ha => by
    rw [drop_getD (by omega), List.all_cons, Bool.and_eq_true] at ha
    have ih := b3_iter x6 hl d (k + 1) (min (v * 10 + ((x6.2.1.getD k default).toNat - 48)) 10000) (by omega) (by omega) ha.2
    have hd := isDg_iff.1 ha.1
    have key : g_ref01_Squeezed.b3 x6 ((v : Int), (k : Int)) = some (.inl (((min (v * 10 + ((x6.2.1.getD k default).toNat - 48)) 10000 : Nat) : Int), ((k + 1 : Nat) : Int))) := by
      unfold g_ref01_Squeezed.b3
      rw [if_pos (decide_eq_true (by simp only; omega)), if_pos ⟨by simp only; omega, by simp only; omega⟩]
      simp only
      have hsub : ((gt x6.2.1 (k : Int) - 48).toNat : Int) = (((x6.2.1.getD k default).toNat - 48 : Nat) : Int) := by
        rw [gt_nat]
        have : (x6.2.1.getD k default - 48).toNat = (x6.2.1.getD k default).toNat - 48 := by
          rw [UInt8.toNat_sub]
          show (256 - 48 + _) % 256 = _
          omega
        rw [this]
      rw [u8cast, hsub]
      have hz : (x6.2.1.getD k default).toNat - 48 < 1000 := by omega
      generalize (x6.2.1.getD k default).toNat - 48 = z at *
      rw [w64_id (x := 10 * (v : Int)) (by omega) (by omega), w64_id (x := 10 * (v : Int) + (z : Int)) (by omega) (by omega), w64_id (x := (k : Int) + 1) (by omega) (by omega)]
      by_cases hb : (10000 : Int) < 10 * (v : Int) + (z : Int)
      · rw [if_pos hb, show min (v * 10 + z) 10000 = 10000 by omega]; rfl
      · rw [if_neg hb, show ((min (v * 10 + z) 10000 : Nat) : Int) = 10 * (v : Int) + (z : Int) by omega]; rfl
    rw [iter_next key, ih, drop_getD (t := x6.2.1) (a := k) (by omega), valL_cons, valL_min (List.drop (k + 1) x6.2.1) (v * 10 + _)]
theorem upper_one (c : UInt8) : g_ref01_upper.f [c] = some [upC c] := by
  have s0 : g_ref01_upper.b0 [c] ([], 0) = some (.inl ([upC c], 1)) := by
    unfold g_ref01_upper.b0
    rw [if_pos (decide_eq_true (by simp)), if_pos ⟨Int.le_refl _, by simp⟩]
    have e1 : ((97 : UInt8).toNat : Int) = 97 := rfl
    have e2 : ((122 : UInt8).toNat : Int) = 122 := rfl
    have e3 : gt [c] (0 : Int) = c := rfl
    simp only [e1, e2, e3]
    unfold upC
    by_cases h : 97 ≤ c.toNat ∧ c.toNat ≤ 122
    · rw [if_pos h, if_pos (by simp; omega)]; rfl
    · rw [if_neg h, if_neg (by simp; omega)]; rfl
  have s1 : g_ref01_upper.b0 [c] ([upC c], 1) = some (.inr ([upC c], 1)) := rfl
  unfold g_ref01_upper.f
  rw [iter_next s0, iter_stop s1]; rfl
end Go.Proofs.YtjcbhbncncbdjaaGreatDoorAi

namespace Go.Proofs.YtjcbhbncncbdjaaGreatDoorAi
open Go Go.RowKit
set_option linter.unusedVariables false
set_option linter.unusedSimpArgs false

theorem up_fin : ∀ n : Fin 256, (decide (upC (UInt8.ofNat n.val) = 72) = (decide (UInt8.ofNat n.val = 72) || decide (UInt8.ofNat n.val = 104))) ∧ decide (upC (UInt8.ofNat n.val) = 32) = decide (UInt8.ofNat n.val = 32) := by decide +kernel
theorem up72 (c : UInt8) : decide (upC c = 72) = (decide (c = 72) || decide (c = 104)) := by
  have h := (up_fin ⟨c.toNat, c.toNat_lt⟩).1
  simpa using h
theorem up32 (c : UInt8) : decide (upC c = 32) = decide (c = 32) := by
  have h := (up_fin ⟨c.toNat, c.toNat_lt⟩).2
  simpa using h
theorem mid_one {t : List UInt8} {a : Nat} (ha : a < t.length) : mid t (a : Int) ((a + 1 : Nat) : Int) = [t.getD a default] := by
  unfold mid
  rw [Int.toNat_natCast, Int.toNat_natCast, List.drop_take, drop_getD ha]
  simp
theorem ref_step {t : List UInt8} {a : Nat} {out : List UInt8} {frm : List Int} {own : List Bool} {cs : List (Int × Int)} {pl : List UInt8} (h : Fine t a out frm own cs) (hr : Rel out own pl) (ha : a < t.length) :
    match stp t a out own frm with
    | .error e => g_ref01_Squeezed.b0 t ((a : Int), out, pl, frm, cs, 0) = some (.inr (.inr ([], [], [], [], e)))
    | .ok (a', o, w, c) => ∃ p, Rel o w p ∧ g_ref01_Squeezed.b0 t ((a : Int), out, pl, frm, cs, 0) = some (.inl ((a' : Int), out ++ o, pl ++ p, frm ++ rng a o.length, cs ++ c, 0)) := by
  obtain ⟨h1, h2, h3, h4, h5, h6⟩ := h
  have hpl : pl.length = out.length := by rw [hr.h2, h5]
  have hw1 : w64 ((a : Int) + 1) = ((a + 1 : Nat) : Int) := by rw [w64_id] <;> omega
  -- what the reference does with a character that is none of these
  have key : g_ref01_Squeezed.b0 t ((a : Int), out, pl, frm, cs, 0) = (if t.getD a default = 32 then some (.inl (((a + 1 : Nat) : Int), out, pl, frm, cs, 0)) else if t.getD a default = 39 ∨ t.getD a default = 34 then
      Option.bind (iter (g_ref01_Squeezed.b1 t ((a : Int), out, pl, frm, cs, 0)) ((a + 1 : Nat) : Int)) (fun o31 => (if (o31 == (t.length : Int)) = true then some (.inr (.inr ([], [], ([] : List Int), ([] : List (Int × Int)), 21))) else (if cs.length + ([((a : Int), (w64 (o31 + 1)))] : List (Int × Int)).length < 1000000000 then Option.bind (iter (g_ref01_Squeezed.b2 t o31) ((a : Int), out, pl, frm, (cs ++ ([((a : Int), (w64 (o31 + 1)))] : List (Int × Int))), 0)) fun o54 => some (.inl (o54.1, o54.2.1, o54.2.2.1, o54.2.2.2.1, o54.2.2.2.2.1, o54.2.2.2.2.2)) else none)))
      else match (if upC (t.getD a default) = 72 then hol out own else none) with
      | some b => Option.bind (iter (g_ref01_Squeezed.b3 ((a : Int), out, pl, frm, cs, 0)) (0, (b : Int))) (fun o103 => (if (o103.1 == 0) = true then some (.inr (.inr ([], [], ([] : List Int), ([] : List (Int × Int)), 11))) else (if (decide ((w64 ((a : Int) + o103.1)) ≥ (t.length : Int))) = true then some (.inr (.inr ([], [], ([] : List Int), ([] : List (Int × Int)), 21))) else
          (if cs.length + ([((gt frm (b : Int)), (w64 ((w64 ((a : Int) + o103.1)) + 1)))] : List (Int × Int)).length < 1000000000 then Option.bind (g_ref01_with.f out pl frm (cs ++ ([((gt frm (b : Int)), (w64 ((w64 ((a : Int) + o103.1)) + 1)))] : List (Int × Int))) 0 72 (a : Int)) fun y126 => Option.bind (g_ref01_hidden.f y126.1 y126.2.1 y126.2.2.1 y126.2.2.2.1 y126.2.2.2.2) fun y136 => Option.bind (iter (g_ref01_Squeezed.b4 t ((a : Int), out, pl, frm, cs, 0) o103) (((a + 1 : Nat) : Int), y136.1, y136.2.1, y136.2.2.1, y136.2.2.2.1, y136.2.2.2.2)) fun o155 => some (.inl ((w64 ((w64 ((a : Int) + o103.1)) + 1)), o155.2.1, o155.2.2.1, o155.2.2.2.1, o155.2.2.2.2.1, o155.2.2.2.2.2)) else none))))
      | none => some (.inl (((a + 1 : Nat) : Int), out ++ [upC (t.getD a default)], pl ++ [upC (t.getD a default)], frm ++ [(a : Int)], cs, 0))) := by
    have hend : (if 0 ≤ (a : Int) ∧ (a : Int) ≤ ((a + 1 : Nat) : Int) ∧ ((a + 1 : Nat) : Int) ≤ (t.length : Int) then Option.bind (g_ref01_upper.f (mid t (a : Int) ((a + 1 : Nat) : Int))) fun y197 => (if 0 ≤ (0 : Int) ∧ (0 : Int) < (y197.length : Int) then Option.bind (g_ref01_with.f out pl frm cs 0 (gt y197 (0 : Int)) (a : Int)) fun y200 => some ((Sum.inl (((a + 1 : Nat) : Int), y200.1, y200.2.1, y200.2.2.1, y200.2.2.2.1, y200.2.2.2.2)) : (Int × List UInt8 × List UInt8 × List Int × (List (Int × Int)) × Int) ⊕ ((Int × List UInt8 × List UInt8 × List Int × (List (Int × Int)) × Int) ⊕ (List UInt8 × List UInt8 × List Int × (List (Int × Int)) × Int))) else none) else none) =
        some (.inl (((a + 1 : Nat) : Int), out ++ [upC (t.getD a default)], pl ++ [upC (t.getD a default)], frm ++ [(a : Int)], cs, 0)) := by
      rw [if_pos ⟨by omega, by omega, by omega⟩, mid_one ha, upper_one, Option.bind_some, if_pos ⟨by omega, by simp⟩, with_f (by omega) (by omega) (by omega)]
      rfl
    unfold g_ref01_Squeezed.b0
    rw [if_pos (decide_eq_true (by simp only; omega)), if_pos ⟨by simp only; omega, by simp only; omega⟩]
    simp only [gt_nat, u8eq, hw1]
    by_cases c32 : t.getD a default = 32
    · rw [if_pos c32, if_pos (decide_eq_true c32)]
    · rw [if_neg c32, if_neg (by rw [decide_eq_false c32]; decide)]
      by_cases cq : t.getD a default = 39 ∨ t.getD a default = 34
      · rw [if_pos cq, if_pos (by rcases cq with q | q <;> rw [decide_eq_true q] <;> simp)]
      · have cq' : ¬ (decide (t.getD a default = 39) || decide (t.getD a default = 34)) = true := by
          simp only [Bool.or_eq_true, decide_eq_true_eq]; exact cq
        rw [if_neg cq, if_neg cq']
        by_cases c72 : upC (t.getD a default) = 72
        · have c72' := up72 (t.getD a default)
          rw [decide_eq_true c72] at c72'
          rw [if_pos c72, if_pos c72'.symm, holleriths_f hr (by omega), Option.bind_some, Option.bind_some]
          cases hh : hol out own with
          | none => rw [if_neg (by simp)]; exact hend
          | some b =>
            obtain ⟨k1, k2, k3⟩ := hol_some hh
            have e1 : w64 ((out.length : Int) - ((out.length - b : Nat) : Int)) = (b : Int) := by rw [w64_id] <;> omega
            have e2 : w64 ((frm.length : Int) - ((out.length - b : Nat) : Int)) = (b : Int) := by rw [w64_id] <;> omega
            rw [if_pos (decide_eq_true (show ((out.length - b : Nat) : Int) > 0 by omega))]
            simp only [Option.bind_some, e1, e2]
            congr 1
            funext o103
            rw [if_pos (show 0 ≤ (b : Int) ∧ (b : Int) < (frm.length : Int) from ⟨by omega, by omega⟩)]
            rfl
        · have c72' := up72 (t.getD a default)
          rw [decide_eq_false c72] at c72'
          rw [if_neg c72, if_neg (by rw [← c72']; decide), Option.bind_some, if_neg (by decide)]
          exact hend
  rw [key]
  unfold stp
  simp only
  by_cases c32 : t.getD a default = 32
  · rw [c32, if_pos rfl, if_neg (by decide), if_neg (by decide)]
    simp only
    rw [if_pos (by decide)]
    simp only
    exact ⟨[], Rel.nil, by simp [rng]⟩
  · rw [if_neg c32]
    by_cases cq : t.getD a default = 39 ∨ t.getD a default = 34
    · rw [if_pos cq, if_pos cq, b1_iter h1 _ rfl (t.length - (a + 1)) (a + 1) (by omega), Option.bind_some]
      cases hf : (t.drop (a + 1)).findIdx? (· == t.getD a default) with
      | none => simp only; rw [if_pos (by simp)]
      | some n =>
        obtain ⟨hn, _, _⟩ := List.findIdx?_eq_some_iff_getElem.1 hf
        rw [List.length_drop] at hn
        have e1 : w64 (((a + 1 + n : Nat) : Int) + 1) = ((a + (n + 2) : Nat) : Int) := by rw [w64_id] <;> omega
        simp only [e1]
        rw [if_neg (by simp; omega), if_pos (by simp only [List.length_cons, List.length_nil]; omega), b2_iter h1 (a + 1 + n) (by omega) (n + 2) a out pl frm (by omega) (by omega) (by omega) (by omega), Option.bind_some]
        refine ⟨List.replicate (n + 2) 34, ?_, ?_⟩
        · have := Rel.const (piece t a (n + 2))
          rwa [piece_len (by omega)] at this
        · simp only
          rw [piece_len (by omega), show a + 1 + n + 1 = a + (n + 2) by omega]
    · rw [if_neg cq, if_neg cq]
      cases hh : (if upC (t.getD a default) = 72 then hol out own else none) with
      | none =>
        simp only
        have c32' := up32 (t.getD a default)
        rw [decide_eq_false c32, decide_eq_false_iff_not] at c32'
        rw [if_neg c32']
        exact ⟨[upC (t.getD a default)], Rel.one _, by simp [rng]⟩
      | some b =>
        have hh' : hol out own = some b := by
          split at hh
          · exact hh
          · cases hh
        obtain ⟨k1, k2, k3⟩ := hol_some hh'
        simp only
        have hb3 := b3_iter ((a : Int), out, pl, frm, cs, 0) (show out.length < 100000 by omega) (out.length - b) b 0 (show b + (out.length - b) = out.length by omega) (by omega) k2
        rw [show ((0 : Nat) : Int) = 0 from rfl] at hb3
        simp only at hb3
        rw [hb3, Option.bind_some]
        generalize valL 0 (out.drop b) = v
        simp only
        by_cases hv0 : v = 0
        · subst hv0
          rw [if_neg (show ¬ t.length < a + 1 + 0 by omega), if_pos rfl, if_pos (by decide)]
        · have hw2 : w64 ((a : Int) + ((min v 10000 : Nat) : Int)) = ((a + min v 10000 : Nat) : Int) := by rw [w64_id] <;> omega
          rw [if_neg (show ¬ ((((min v 10000 : Nat) : Int) == 0) = true) by simp; omega)]
          simp only [hw2]
          by_cases hvl : t.length < a + 1 + v
          · rw [if_pos hvl, if_pos (decide_eq_true (by omega))]
          · have hm : min v 10000 = v := by omega
            rw [if_neg hvl, if_neg hv0, hm, if_neg (by simp; omega), if_pos (by simp only [List.length_cons, List.length_nil]; omega), with_f (by omega) (by omega) (by omega), Option.bind_some]
            simp only
            rw [hidden_f (by omega), Option.bind_some, b4_eq]
            simp only
            have hw3 : w64 ((a : Int) + (v : Int)) = ((a + v : Nat) : Int) := by rw [w64_id] <;> omega
            have hw4 : w64 (((a + v : Nat) : Int) + 1) = ((a + 1 + v : Nat) : Int) := by rw [w64_id] <;> omega
            rw [hw3, hw4, b2_iter h1 (a + v) (by omega) v (a + 1) _ _ _ (by omega) (by simp; omega) (by simp; omega) (by simp; omega), Option.bind_some]
            refine ⟨34 :: List.replicate v 34, ?_, ?_⟩
            · have := (Rel.hide 72 false (.inr rfl)).app (Rel.const (piece t (a + 1) v))
              rw [piece_len (by omega)] at this
              exact this
            · simp only [gt_nat]
              rw [List.length_cons, piece_len (by omega)]
              simp [rng]
theorem ref_iter {t : List UInt8} : ∀ (n a : Nat) (out : List UInt8) (frm : List Int) (own : List Bool) (cs : List (Int × Int)) (pl : List UInt8), Fine t a out frm own cs → Rel out own pl → t.length < a + n →
    ∃ p, iter (g_ref01_Squeezed.b0 t) ((a : Int), out, pl, frm, cs, 0) = some (match sqz t n a out frm own cs with | .error e => .inr ([], [], [], [], e) | .ok r => .inl ((t.length : Int), r.1, p, r.2.1, r.2.2.2, 0))
  | 0, a, out, frm, own, cs, pl, h, hr, hn => absurd h.la (by omega)
  | n + 1, a, out, frm, own, cs, pl, h, hr, hn => by
    unfold sqz
    by_cases ha : a < t.length
    · rw [if_pos ha]
      have key := ref_step h hr ha
      cases hs : stp t a out own frm with
      | error e =>
        rw [hs] at key
        exact ⟨[], iter_stop key⟩
      | ok r =>
        obtain ⟨a', o, w, c⟩ := r
        rw [hs] at key
        obtain ⟨p, hp, key⟩ := key
        obtain ⟨k1, k2, _⟩ := stp_fine h ha hs
        simp only
        rw [iter_next key]
        exact ref_iter n a' _ _ _ _ _ k2 (hr.app hp) (by omega)
    · rw [if_neg ha]
      have := h.la
      rw [show a = t.length by omega]
      exact ⟨pl, iter_stop (by
        unfold g_ref01_Squeezed.b0
        rw [if_neg (by simp)])⟩
theorem refSqueezed_f {t : List UInt8} (ht : t.length < 10000) : ∃ p, g_ref01_Squeezed.f t = some (match SQ t with | .error e => ([], [], [], [], e) | .ok r => (r.1, p, r.2.1, r.2.2.2, 0)) := by
  unfold g_ref01_Squeezed.f SQ
  rw [refTextErr_f t ht, Option.bind_some]
  by_cases h : tErr t = 0
  · have hl : t.length ≤ 1320 := by
      unfold tErr at h
      split at h
      · cases h
      · omega
    rw [if_neg (by simp [h]), if_neg (by simp [h])]
    obtain ⟨p, this⟩ := ref_iter (t := t) (t.length + 1) 0 [] [] [] [] [] ⟨by omega, by omega, Nat.le_refl _, rfl, rfl, Nat.le_refl _⟩ Rel.nil (by omega)
    refine ⟨p, ?_⟩
    show Option.bind (iter (g_ref01_Squeezed.b0 t) (((0 : Nat) : Int), _)) _ = _
    rw [this, Option.bind_some]
    cases sqz t (t.length + 1) 0 [] [] [] [] <;> rfl
  · rw [if_pos (by simp [h]), if_pos (by simp [h])]
    exact ⟨[], rfl⟩
end Go.Proofs.YtjcbhbncncbdjaaGreatDoorAi

namespace Go.Proofs.YtjcbhbncncbdjaaGreatDoorAi
open Go Go.RowKit
set_option linter.unusedVariables false
set_option linter.unusedSimpArgs false

theorem before_fix : ∀ (l : List Int) (n : Nat), l.length < 1000000 → fixN (fun self (x : List Int × List Int) => g_base_Before.F self x.1 x.2) n (l, l) = if n ≤ l.length then none else some false
  | l, 0, h => by rw [if_pos (Nat.zero_le _)]; rfl
  | [], n + 1, h => by rw [if_neg (by simp)]; rfl
  | x :: l, n + 1, h => by
    have ih := before_fix l n (by simp at h; omega)
    show g_base_Before.F (fixN (fun self (x : List Int × List Int) => g_base_Before.F self x.1 x.2) n) (x :: l) (x :: l) = _
    generalize fixN (fun self (x : List Int × List Int) => g_base_Before.F self x.1 x.2) n = f at ih ⊢
    unfold g_base_Before.F
    have hg : gt (x :: l) (0 : Int) = x := rfl
    have hm : mid (x :: l) (1 : Int) (((x :: l).length : Nat) : Int) = l := by
      rw [show (1 : Int) = ((1 : Nat) : Int) from rfl, mid_all]; rfl
    have hlen : ((x :: l).length : Int) = (l.length : Int) + 1 := by simp
    have c1 : 0 ≤ (0 : Int) ∧ (0 : Int) < ((x :: l).length : Int) := ⟨Int.le_refl _, by omega⟩
    have c2 : 0 ≤ (1 : Int) ∧ (1 : Int) ≤ ((x :: l).length : Int) ∧ ((x :: l).length : Int) ≤ ((x :: l).length : Int) := ⟨by omega, by omega, Int.le_refl _⟩
    rw [if_neg (by simp; omega)]
    simp only [if_pos c1, if_pos c2, hg, hm, ih]
    rw [if_neg (by simp), if_pos (by simp)]
    by_cases hn : n ≤ l.length
    · rw [if_pos hn, if_pos (by simp; omega)]; rfl
    · rw [if_neg hn, if_neg (by simp; omega)]; rfl
theorem before_same (l : List Int) (h : l.length < 1000000) : g_base_Before.f l l = some false := by
  unfold g_base_Before.f
  refine fixO_of (l.length + 1) (fun n hn => ?_) fun n r hr k => ?_
  · rw [before_fix l n h, if_neg (by omega)]
  · rw [before_fix l n h] at hr
    rw [before_fix l (n + k) h]
    split at hr
    · cases hr
    · rw [if_neg (by omega)]; exact hr
theorem ints_same (l : List Int) (h : l.length < 1000000) : g_base_Ints.f l l = some true := by
  unfold g_base_Ints.f
  rw [if_pos (by simp), before_same l h]
  simp
theorem sqz_len {t : List UInt8} : ∀ (n a : Nat) (out : List UInt8) (frm : List Int) (own : List Bool) (cs : List (Int × Int)) (r : List UInt8 × List Int × List Bool × List (Int × Int)), Fine t a out frm own cs → sqz t n a out frm own cs = .ok r → r.1.length ≤ t.length ∧ r.2.1.length = r.1.length ∧ r.2.2.1.length = r.1.length ∧ r.2.2.2.length ≤ t.length
  | 0, a, out, frm, own, cs, r, hf, h => by
    simp only [sqz, Except.ok.injEq] at h
    subst h
    exact ⟨Nat.le_trans hf.lo hf.la, hf.lf, hf.lw, Nat.le_trans hf.lc hf.la⟩
  | n + 1, a, out, frm, own, cs, r, hf, h => by
    unfold sqz at h
    split at h
    · rename_i ha
      split at h
      · cases h
      · rename_i a' o w c hs
        exact sqz_len n a' _ _ _ _ r (stp_fine hf ha hs).2.1 h
    · simp only [Except.ok.injEq] at h
      subst h
      exact ⟨Nat.le_trans hf.lo hf.la, hf.lf, hf.lw, Nat.le_trans hf.lc hf.la⟩
theorem SQ_len {t : List UInt8} {r : List UInt8 × List Int × List Bool × List (Int × Int)} (h : SQ t = .ok r) : t.length ≤ 1320 ∧ r.1.length ≤ t.length ∧ r.2.1.length = r.1.length ∧ r.2.2.1.length = r.1.length ∧ r.2.2.2.length ≤ t.length := by
  unfold SQ at h
  split at h
  · cases h
  · rename_i h0
    have hl : t.length ≤ 1320 := by
      unfold tErr at h0
      split at h0
      · exact absurd (by decide) h0
      · omega
    exact ⟨hl, sqz_len _ _ _ _ _ _ r ⟨by omega, Nat.zero_le _, Nat.le_refl _, rfl, rfl, Nat.le_refl _⟩ h⟩
theorem same_iter (cs : List (Int × Int)) (e : Int) (y : List UInt8 × List UInt8 × List Int × (List (Int × Int)) × Int) (hy : y.2.2.2.1 = cs) (hc : cs.length < 1000000) : ∀ d k : Nat, k + d = cs.length →
    iter (g_law01_SourceSqueezes.b0 (cs, e) y) (k : Int) = some (.inl (cs.length : Int))
  | 0, k, h => by
    rw [show k = cs.length by omega]
    exact iter_stop (by unfold g_law01_SourceSqueezes.b0; rw [if_neg (by simp)])
  | d + 1, k, h => by
    have ih := same_iter cs e y hy hc d (k + 1) (by omega)
    rw [iter_next (y := ((k + 1 : Nat) : Int)) (by
      unfold g_law01_SourceSqueezes.b0
      rw [if_pos (decide_eq_true (by simp only; omega)), if_pos ⟨by omega, by simp only; omega⟩, hy, if_pos ⟨by omega, by omega⟩, if_neg (by simp), w64_id (by omega) (by omega)]
      rfl), ih]
theorem law3 (t : List UInt8) : g_law01_SourceSqueezes.f t = some true := by
  unfold g_law01_SourceSqueezes.f g_awake.f
  rw [Option.bind_some, if_neg (by decide)]
  by_cases h : 1400 < t.length
  · rw [if_pos (decide_eq_true (by omega))]
  · obtain ⟨p, hp⟩ := refSqueezed_f (t := t) (by omega)
    rw [if_neg (by simp; omega), Squeezed_f, Option.bind_some, ConstantsIn_f, Option.bind_some, hp, Option.bind_some]
    cases hs : SQ t with
    | error e =>
      have he := SQ_err hs
      simp [he]
    | ok r =>
      obtain ⟨l1, l2, l3, l4, l5⟩ := SQ_len hs
      simp only
      rw [if_neg (by simp), if_neg (by decide), if_neg (by simp), ints_same r.2.1 (by omega), Option.bind_some, if_neg (by simp)]
      have := same_iter r.2.2.2 0 (r.1, p, r.2.1, r.2.2.2, 0) rfl (by omega) r.2.2.2.length 0 (by omega)
      show Option.bind (iter (g_law01_SourceSqueezes.b0 (r.2.2.2, 0) (r.1, p, r.2.1, r.2.2.2, 0)) ((0 : Nat) : Int)) _ = _
      rw [this]; rfl
#print axioms law3
end Go.Proofs.YtjcbhbncncbdjaaGreatDoorAi

namespace Go.Proofs.YtjcbhbncncbdjaaGreatDoorAi
open Go Go.RowKit
theorem str_back (s : ByteArray) : strV s.data.toList = .string s := by
  show Value.string ⟨s.data.toList.toArray⟩ = _
  rw [Array.toArray_toList]
theorem law3_calls (s : ByteArray) (hs : s.size ≤ 140737488351232) (w : World) (hG : Gd w) : Calls Tryz.prog 3 #[.string s] w fun e w' => e = .returned (.bool true) ∧ Below w.heap.size w w' := by
  have h := calls_of (g := 3) (args := [strV s.data.toList]) Tryz.func3 rfl (fun _ _ => rfl) rfl (v := .bool true) rfl ((g_law01_SourceSqueezes.ok (F := F0) (law3 s.data.toList) gl0).mono fun v S' F' q => q.2.1) w hG
  rw [str_back] at h
  exact h
#print axioms law3_calls
end Go.Proofs.YtjcbhbncncbdjaaGreatDoorAi
