/-
PuP1, PuP2, PuP3, PuP4, PuP5, PuP6, PuP7, PuP8c, PuR0, PuR1, PuR2, PuR3, PuR9
-/
import Derived.Test.YtcafgoomipkljaaGreatDoorApX1c
import Derived.Test.YtcafgoomipkljaaGreatDoorApL
namespace Go.Proofs.YtcafgoomipkljaaGreatDoorAi
open Go Go.RowKit
set_option linter.unusedVariables false
set_option linter.unusedSimpArgs false
theorem w64_id {x : Int} (h1 : -9223372036854775808 ≤ x) (h2 : x ≤ 9223372036854775807) : w64 x = x := by
 unfold w64
 simp [IntKind.wrap, IntKind.bits, IntKind.signed]; omega
theorem gt_nat {α : Type} [Inhabited α] (l : List α) (n : Nat) : gt l (n : Int) = l.getD n default := rfl
def isDg (c : UInt8) : Bool := decide (48 ≤ c.toNat) && decide (c.toNat ≤ 57)
theorem isDg_iff {c : UInt8} : isDg c = true ↔ 48 ≤ c.toNat ∧ c.toNat ≤ 57 := by simp [isDg]
theorem isDigit_eq (c : UInt8) : g_2w.f c = some (isDg c) := by
 unfold g_2w.f isDg
 congr 2
 ·exact decide_eq_decide.2 (by show ((48 : Nat) : Int) ≤ _ ↔ _; omega)
 ·exact decide_eq_decide.2 (by show _ ≤ ((57 : Nat) : Int) ↔ _; omega)
theorem refDigit_eq (c : UInt8) : g_2g.f c = some (isDg c) := by
 unfold g_2g.f isDg
 congr 2
 ·exact decide_eq_decide.2 (by show _ ≥ ((48 : Nat) : Int) ↔ _; omega)
 ·exact decide_eq_decide.2 (by show _ ≤ ((57 : Nat) : Int) ↔ _; omega)
def dg (p : Nat → Bool) : Nat → Nat
 | 0 => 0
 | n + 1 => if p n then dg p n else n + 1
theorem dg_le (p : Nat → Bool) : ∀ n, dg p n ≤ n
 | 0 => Nat.le_refl _
 | n + 1 => by
  unfold dg
  split
  ·exact Nat.le_succ_of_le (dg_le p n)
  ·exact Nat.le_refl _
theorem dg_all (p : Nat → Bool) : ∀ n k, dg p n ≤ k → k < n → p k = true
 | 0, k, _, h => by omega
 | n + 1, k, h1, h2 => by
  unfold dg at h1
  split at h1
  ·by_cases hk : k = n
   ·subst hk; assumption
   ·exact dg_all p n k h1 (by omega)
  ·omega
def pD (out : List UInt8) (own : List Bool) (k : Nat) : Bool := !(own.getD k default) && isDg (out.getD k default)
theorem digits_eq {out : List UInt8} {own : List Bool} (hl : out.length = own.length) (hs : own.length < 1000000) : ∀ n : Nat, n ≤ own.length → iter (g_34.b0 out own) (n : Int) = some ((dg (pD out own) n : Nat) : Int)
 | 0, _ => iter_stop (by unfold g_34.b0; rfl)
 | n + 1, hn => by
  have hw : w64 (((n + 1 : Nat) : Int) - 1) = (n : Int) := by rw [w64_id] <;> omega
  have key : g_34.b0 out own ((n + 1 : Nat) : Int) = if pD out own n then some (.inl (n : Int)) else some (.inr ((n + 1 : Nat) : Int)) := by
   unfold g_34.b0 pD
   rw [hw, if_pos (decide_eq_true (by omega)), if_pos ⟨by omega, by omega⟩, if_pos ⟨by omega, by omega⟩, isDigit_eq, gt_nat, gt_nat]
   cases own.getD n default <;> simp
  unfold dg
  split
  ·rename_i h
   rw [iter_next (key.trans (if_pos h))]
   exact digits_eq hl hs n (by omega)
  ·rename_i h
   exact iter_stop (key.trans (if_neg h))
theorem digits_f {out : List UInt8} {own : List Bool} (hl : out.length = own.length) (hs : own.length < 1000000) (n : Nat) (hn : n ≤ own.length) : g_34.f out own (n : Int) = some ((dg (pD out own) n : Nat) : Int) := by
 unfold g_34.f
 rw [digits_eq hl hs n hn]; rfl
theorem indexByte_eq (l : List UInt8) (c : UInt8) : g_3d.f l c = some (idxB l c) := rfl
theorem idxB_ge (l : List UInt8) (c : UInt8) : decide (idxB l c ≥ 0) = l.contains c := by
 unfold idxB
 cases h : l.findIdx? (· == c) with
 | none =>
  rw [List.findIdx?_eq_none_iff] at h
  symm
  show l.contains c = false
  rw [Bool.eq_false_iff]
  intro hc
  have := h c (List.contains_iff_mem.1 hc)
  simp at this
 | some i =>
  rw [decide_eq_true (show (i : Int) ≥ 0 by omega)]
  symm
  obtain ⟨hi, h1, _⟩ := List.findIdx?_eq_some_iff_getElem.1 h
  rw [List.contains_iff_mem]
  have : l[i] = c := by simpa using h1
  rw [← this]; exact List.getElem_mem hi
def isB (out : List UInt8) (own : List Bool) (n : Nat) (sg : List UInt8) : Bool := match n with | 0 => false | n + 1 => !(own.getD n default) && sg.contains (out.getD n default)
theorem isBefore_f {out : List UInt8} {own : List Bool} (hl : out.length = own.length) (hs : own.length < 1000000) (n : Nat) (hn : n ≤ own.length) (sg : List UInt8) : g_36.f out own (n : Int) sg = some (isB out own n sg) := by
 cases n with
 | zero => unfold g_36.f; rfl
 | succ n =>
  have hw : w64 (((n + 1 : Nat) : Int) - 1) = (n : Int) := by rw [w64_id] <;> omega
  unfold g_36.f isB
  rw [hw, if_pos (decide_eq_true (by omega)), if_pos ⟨by omega, by omega⟩, if_pos ⟨by omega, by omega⟩, indexByte_eq, gt_nat, gt_nat]
  simp only [Option.bind_some, idxB_ge]
  cases own.getD n default <;> simp
def hol (out : List UInt8) (own : List Bool) : Option Nat :=
 let b := dg (pD out own) out.length
 if b = out.length then none else if isB out own b [40, 44, 47, 61] then some b else if isB out own b [42] then
  (let k := dg (pD out own) (b - 1)
   if k < b - 1 ∧ isB out own k [40, 44, 47, 61] = true then some b else none) else none
theorem hollerith_f {out : List UInt8} {own : List Bool} (hl : out.length = own.length) (hs : own.length < 1000000) :
  ∃ d : Int, g_35.f out own = some (match hol out own with | some b => ((b : Int), true) | none => (d, false)) := by
 have hle := dg_le (pD out own) out.length
 have hf := digits_f hl hs out.length (by omega)
 unfold g_35.f hol
 rw [hf]
 simp only [Option.bind_some]
 generalize dg (pD out own) out.length = b at *
 by_cases hb : b = out.length
 ·rw [if_pos (by simp [hb]), if_pos hb]; exact ⟨_, rfl⟩
 ·rw [if_neg (by simp; omega), if_neg hb, isBefore_f hl hs b (by omega)]
  simp only [Option.bind_some]
  cases h1 : isB out own b [40, 44, 47, 61]
  ·simp only [Bool.false_eq_true, if_false]
   rw [isBefore_f hl hs b (by omega)]
   simp only [Option.bind_some]
   cases h2 : isB out own b [42]
   ·simp only [Bool.not_false, Bool.false_eq_true, if_false, if_true]; exact ⟨_, rfl⟩
   ·simp only [Bool.not_true, Bool.false_eq_true, if_false, if_true]
    have hb0 : 0 < b := by
     cases b with
     | zero => simp [isB] at h2
     | succ b => omega
    have hw : w64 ((b : Int) - 1) = ((b - 1 : Nat) : Int) := by rw [w64_id] <;> omega
    have hk := dg_le (pD out own) (b - 1)
    rw [hw, digits_f hl hs (b - 1) (by omega)]
    simp only [Option.bind_some]
    generalize dg (pD out own) (b - 1) = k at *
    rw [isBefore_f hl hs k (by omega)]
    simp only [Option.bind_some]
    by_cases h3 : k < b - 1
    ·rw [if_pos (decide_eq_true (by omega))]
     cases h4 : isB out own k [40, 44, 47, 61]
     ·rw [if_neg (by simp)]; exact ⟨_, rfl⟩
     ·rw [if_pos ⟨h3, rfl⟩]; exact ⟨0, rfl⟩
    ·rw [if_neg (by simp; omega), if_neg (by omega)]; exact ⟨_, rfl⟩
  ·simp only [if_true]; exact ⟨0, trivial⟩
end Go.Proofs.YtcafgoomipkljaaGreatDoorAi
namespace Go.Proofs.YtcafgoomipkljaaGreatDoorAi
open Go Go.RowKit
set_option linter.unusedVariables false
set_option linter.unusedSimpArgs false
def piece (t : List UInt8) (a n : Nat) : List UInt8 := (t.drop a).take n
def rng (a : Nat) : Nat → List Int
 | 0 => []
 | n + 1 => (a : Int) :: rng (a + 1) n
theorem rng_len (a n : Nat) : (rng a n).length = n := by
 induction n generalizing a with
 | zero => rfl
 | succ n ih => show (rng (a + 1) n).length + 1 = _; rw [ih]
theorem piece_zero (t : List UInt8) (a : Nat) : piece t a 0 = [] := rfl
theorem piece_succ {t : List UInt8} {a : Nat} (n : Nat) (h : a < t.length) : piece t a (n + 1) = t.getD a default :: piece t (a + 1) n := by
 unfold piece
 rw [List.drop_eq_getElem_cons h, List.take_succ_cons, List.getD_eq_getElem?_getD, List.getElem?_eq_getElem h]
 rfl
theorem piece_len {t : List UInt8} {a n : Nat} (h : a + n ≤ t.length) : (piece t a n).length = n := by
 unfold piece
 rw [List.length_take, List.length_drop]; omega
theorem put_f {out : List UInt8} {frm : List Int} {own : List Bool} (h1 : out.length < 1000000) (h2 : frm.length < 1000000) (h3 : own.length < 1000000) (c : UInt8) (a : Int) (b : Bool) :
  g_38.f out frm own c a b = some (out ++ [c], frm ++ [a], own ++ [b]) := by
 unfold g_38.f
 rw [if_pos (by simp only [List.length_cons, List.length_nil]; omega), if_pos (by simp only [List.length_cons, List.length_nil]; omega), if_pos (by simp only [List.length_cons, List.length_nil]; omega)]
theorem constant_iter {t : List UInt8} (ht : t.length < 10000) : ∀ (n a : Nat) (out : List UInt8) (frm : List Int) (own : List Bool), a + n ≤ t.length → out.length + n < 900000 → frm.length + n < 900000 → own.length + n < 900000 →
  iter (g_32.b0 t ((a + n : Nat) : Int)) ((a : Int), out, frm, own) = some (((a + n : Nat) : Int), out ++ piece t a n, frm ++ rng a n, own ++ List.replicate n true)
 | 0, a, out, frm, own, h, _, _, _ => iter_stop (by
   unfold g_32.b0
   rw [if_neg (by simp)]
   simp [piece_zero, rng])
 | n + 1, a, out, frm, own, h, h1, h2, h3 => by
  have ih := constant_iter ht n (a + 1) (out ++ [t.getD a default]) (frm ++ [(a : Int)]) (own ++ [true]) (by omega) (by simp; omega) (by simp; omega) (by simp; omega)
  rw [show a + 1 + n = a + (n + 1) by omega] at ih
  rw [iter_next (y := (((a + 1 : Nat) : Int), out ++ [t.getD a default], frm ++ [(a : Int)], own ++ [true])) (by
   unfold g_32.b0
   rw [if_pos (decide_eq_true (by simp only; omega)), if_pos ⟨by simp only; omega, by simp only; omega⟩]
   simp only
   rw [put_f (by omega) (by omega) (by omega), Option.bind_some, w64_id (by omega) (by omega), gt_nat]
   rfl), ih, piece_succ n (by omega)]
  simp [rng, List.replicate_succ]
theorem constant_f {t : List UInt8} (ht : t.length < 10000) {n a : Nat} {out : List UInt8} {frm : List Int} {own : List Bool} (h : a + n ≤ t.length) (h1 : out.length < 800000) (h2 : frm.length < 800000) (h3 : own.length < 800000) :
  g_32.f t out frm own (a : Int) ((a + n : Nat) : Int) = some (out ++ piece t a n, frm ++ rng a n, own ++ List.replicate n true) := by
 unfold g_32.f
 rw [constant_iter ht n a out frm own h (by omega) (by omega) (by omega)]; rfl
def upC (c : UInt8) : UInt8 := if 97 ≤ c.toNat ∧ c.toNat ≤ 122 then c - 32 else c
def valL (acc : Nat) (l : List UInt8) : Nat := l.foldl (fun a c => a * 10 + (c.toNat - 48)) acc
theorem valL_nil (acc : Nat) : valL acc [] = acc := rfl
theorem valL_cons (acc : Nat) (c : UInt8) (r : List UInt8) : valL acc (c :: r) = valL (acc * 10 + (c.toNat - 48)) r := by unfold valL; rw [List.foldl_cons]
theorem valL_ge : ∀ (l : List UInt8) (acc : Nat), acc ≤ valL acc l
 | [], acc => Nat.le_refl _
 | c :: r, acc => by
  rw [valL_cons]
  exact Nat.le_trans (Nat.le_trans (Nat.le_mul_of_pos_right acc (by decide)) (Nat.le_add_right _ _)) (valL_ge r _)
theorem pu10 : ∀ (l : List UInt8) (acc : Nat), acc < 18446744073709551616 → l.all isDg = true → Lib.parseUint10 acc l = if valL acc l < 18446744073709551616 then .ok (valL acc l) else .range
 | [], acc, h, _ => by
  rw [valL_nil, if_pos h]; rfl
 | c :: r, acc, h, ha => by
  simp only [List.all_cons, Bool.and_eq_true] at ha
  have hc := isDg_iff.1 ha.1
  have ih := fun h => pu10 r (acc * 10 + (c.toNat - 48)) h ha.2
  have hg := valL_ge r (acc * 10 + (c.toNat - 48))
  rw [valL_cons, Lib.parseUint10, if_pos hc]
  generalize valL (acc * 10 + (c.toNat - 48)) r = z at *
  generalize c.toNat - 48 = d at *
  split
  ·rw [if_neg (by omega)]
  ·split
   ·rw [if_neg (by omega)]
   ·exact ih (by omega)
theorem atoi_digits {l : List UInt8} (h0 : l ≠ []) (ha : l.all isDg = true) : Lib.atoiAll l = if valL 0 l < 9223372036854775808 then .ok (valL 0 l : Int) else .range := by
 cases l with
 | nil => exact absurd rfl h0
 | cons c r =>
  have hc := isDg_iff.1 (show isDg c = true by simp at ha; exact ha.1)
  unfold Lib.atoiAll
  simp only
  rw [if_neg (by omega)]
  unfold Lib.parseMag
  rw [if_neg (List.cons_ne_nil c r), pu10 _ _ (by omega) ha]
  generalize valL 0 (c :: r) = v
  by_cases h1 : v < 18446744073709551616
  ·rw [if_pos h1]
   simp only
   by_cases h2 : v < 9223372036854775808
   ·rw [if_neg (by omega), if_neg (by omega), if_neg (by omega), if_pos h2]
   ·rw [if_pos (by omega), if_neg h2]
  ·rw [if_neg h1, if_neg (by omega)]
theorem atoi_f {l : List UInt8} (h0 : l ≠ []) (ha : l.all isDg = true) (hl : l.length < 1000000) : g_atoi.f l = if valL 0 l < 9223372036854775808 then some ((valL 0 l : Int), false) else some (9223372036854775807, true) := by
 unfold g_atoi.f
 rw [if_pos (by omega), atoi_digits h0 ha]
 by_cases h : valL 0 l < 9223372036854775808
 ·rw [if_pos h, if_pos h]
 ·rw [if_neg h, if_neg h]
  simp only
  have : Lib.atoiSat l = 9223372036854775807 := by
   cases l with
   | nil => exact absurd rfl h0
   | cons c r =>
    have hc := isDg_iff.1 (show isDg c = true by simp at ha; exact ha.1)
    unfold Lib.atoiSat
    rw [if_neg (by simp; omega)]
  rw [this]
def stp (t : List UInt8) (a : Nat) (out : List UInt8) (own : List Bool) (frm : List Int) : Except Int (Nat × List UInt8 × List Bool × List (Int × Int)) :=
 let c := t.getD a default
 if c = 39 ∨ c = 34 then
  match (t.drop (a + 1)).findIdx? (· == c) with
  | none => .error 21
  | some n => .ok (a + (n + 2), piece t a (n + 2), List.replicate (n + 2) true, [((a : Int), ((a + (n + 2) : Nat) : Int))])
 else match (if upC c = 72 then hol out own else none) with
  | some b =>
   let n := valL 0 (out.drop b)
   if t.length < a + 1 + n then .error 21 else if n = 0 then .error 11 else
    .ok (a + 1 + n, 72 :: piece t (a + 1) n, false :: List.replicate n true, [(frm.getD b default, ((a + 1 + n : Nat) : Int))])
  | none => if upC c = 32 then .ok (a + 1, [], [], []) else .ok (a + 1, [upC c], [false], [])
theorem hol_some {out : List UInt8} {own : List Bool} {b : Nat} (h : hol out own = some b) : b < out.length ∧ (out.drop b).all isDg = true ∧ 0 < b := by
 unfold hol at h
 have hle := dg_le (pD out own) out.length
 have hall := dg_all (pD out own) out.length
 simp only at h
 generalize dg (pD out own) out.length = d at *
 have key : d < out.length → (out.drop d).all isDg = true := fun hd => by
  rw [List.all_eq_true]
  intro x hx
  obtain ⟨i, hi, rfl⟩ := List.mem_iff_getElem.1 hx
  rw [List.length_drop] at hi
  rw [List.getElem_drop]
  have := hall (d + i) (by omega) (by omega)
  unfold pD at this
  rw [Bool.and_eq_true, List.getD_eq_getElem?_getD (l := out), List.getElem?_eq_getElem (by omega)] at this
  exact this.2
 have pos : ∀ sg, isB out own d sg = true → 0 < d := fun sg hs => by
  cases d with
  | zero => simp [isB] at hs
  | succ d => omega
 split at h
 ·cases h
 ·split at h
  ·rename_i h1 h2
   obtain rfl := Option.some.inj h
   exact ⟨by omega, key (by omega), pos _ h2⟩
  ·split at h
   ·split at h
    ·rename_i h1 h2 h3 h4
     obtain rfl := Option.some.inj h
     exact ⟨by omega, key (by omega), pos _ h3⟩
    ·cases h
   ·cases h
end Go.Proofs.YtcafgoomipkljaaGreatDoorAi
namespace Go.Proofs.YtcafgoomipkljaaGreatDoorAi
open Go Go.RowKit
set_option linter.unusedVariables false
set_option linter.unusedSimpArgs false
theorem mid_all {α : Type} (l : List α) (n : Nat) : mid l (n : Int) (l.length : Int) = l.drop n := by
 unfold mid
 rw [Int.toNat_natCast, Int.toNat_natCast, List.take_length]
theorem u8eq (a b : UInt8) : ((a.toNat : Int) == (b.toNat : Int)) = decide (a = b) := by
 by_cases h : a = b
 ·subst h; simp
 ·rw [decide_eq_false h]
  exact beq_eq_false_iff_ne.2 fun e => h (UInt8.toNat_inj.1 (by omega))
theorem isQuote_f (c : UInt8) : g_2x.f c = some (decide (c = 39) || decide (c = 34)) := by
 unfold g_2x.f
 rw [u8eq, u8eq]
def enc (out : List UInt8) (frm : List Int) (own : List Bool) (cs : List (Int × Int)) (a : Nat) : Except Int (Nat × List UInt8 × List Bool × List (Int × Int)) → Int × Int × List UInt8 × List Int × List Bool × List (Int × Int)
 | .error e => (0, e, out, frm, own, cs)
 | .ok (a', o, w, c) => ((a' : Int), 0, out ++ o, frm ++ rng a o.length, own ++ w, cs ++ c)
theorem character_f {t : List UInt8} (ht : t.length < 10000) {a : Nat} (ha : a < t.length) {out : List UInt8} {frm : List Int} {own : List Bool} {cs : List (Int × Int)} (h1 : out.length < 800000) (h2 : frm.length < 800000) (h3 : own.length < 800000) (h4 : cs.length < 800000) :
  g_31.f t out frm own cs (a : Int) = some (enc out frm own cs a (match (t.drop (a + 1)).findIdx? (· == t.getD a default) with
  | none => .error 21
  | some n => .ok (a + (n + 2), piece t a (n + 2), List.replicate (n + 2) true, [((a : Int), ((a + (n + 2) : Nat) : Int))]))) := by
 have hw : w64 ((a : Int) + 1) = ((a + 1 : Nat) : Int) := by rw [w64_id] <;> omega
 unfold g_31.f
 rw [hw, if_pos ⟨by omega, by omega, Int.le_refl _⟩, if_pos ⟨by omega, by omega⟩, indexByte_eq, mid_all, gt_nat, Option.bind_some]
 unfold idxB
 cases h : (t.drop (a + 1)).findIdx? (· == t.getD a default) with
 | none => rfl
 | some n =>
  obtain ⟨hn, _, _⟩ := List.findIdx?_eq_some_iff_getElem.1 h
  rw [List.length_drop] at hn
  have hw2 : w64 (w64 ((a : Int) + (n : Int)) + 2) = ((a + (n + 2) : Nat) : Int) := by rw [w64_id (x := (a : Int) + (n : Int)) (by omega) (by omega), w64_id] <;> omega
  rw [if_neg (by simp), hw2, if_pos (by simp only [List.length_cons, List.length_nil]; omega), constant_f ht (by omega) h1 h2 h3, Option.bind_some]
  simp only [enc]
  rw [piece_len (by omega)]
theorem count_f {t : List UInt8} (ht : t.length < 10000) {a : Nat} (ha : a < t.length) {out : List UInt8} {frm : List Int} {own : List Bool} {cs : List (Int × Int)} (h1 : out.length < 700000) (h2 : frm.length = out.length) (h3 : own.length < 700000) (h4 : cs.length < 800000)
  {b : Nat} (hb : b < out.length) (hd : (out.drop b).all isDg = true) :
  g_33.f t out frm own cs (b : Int) (a : Int) = some (enc out frm own cs a (
   if t.length < a + 1 + valL 0 (out.drop b) then .error 21 else if valL 0 (out.drop b) = 0 then .error 11 else
    .ok (a + 1 + valL 0 (out.drop b), 72 :: piece t (a + 1) (valL 0 (out.drop b)), false :: List.replicate (valL 0 (out.drop b)) true, [(frm.getD b default, ((a + 1 + valL 0 (out.drop b) : Nat) : Int))]))) := by
 have hne : out.drop b ≠ [] := fun e => by
  have := congrArg List.length e
  rw [List.length_drop] at this
  simp at this; omega
 have hw : w64 (w64 ((t.length : Int) - (a : Int)) - 1) = ((t.length - a - 1 : Nat) : Int) := by rw [w64_id (x := (t.length : Int) - (a : Int)) (by omega) (by omega), w64_id] <;> omega
 unfold g_33.f
 rw [if_pos ⟨by omega, by omega, Int.le_refl _⟩, mid_all, atoi_f hne hd (by rw [List.length_drop]; omega)]
 generalize valL 0 (out.drop b) = v
 by_cases hv : v < 9223372036854775808
 ·rw [if_pos hv, Option.bind_some]
  simp only [Bool.false_or, hw]
  by_cases hq : t.length < a + 1 + v
  ·rw [if_pos (decide_eq_true (by omega)), if_pos hq]; rfl
  ·rw [if_neg (by simp; omega), if_neg hq]
   by_cases h0 : v = 0
   ·subst h0; rfl
   ·have hw2 : w64 ((a : Int) + 1) = ((a + 1 : Nat) : Int) := by rw [w64_id] <;> omega
    have hw3 : w64 (((a + 1 : Nat) : Int) + (v : Int)) = ((a + 1 + v : Nat) : Int) := by rw [w64_id] <;> omega
    rw [if_neg (by simp; omega), if_neg h0, if_pos ⟨by omega, by omega⟩, if_pos (by simp only [List.length_cons, List.length_nil]; omega), put_f (by omega) (by omega) (by omega), Option.bind_some]
    simp only
    rw [hw2, hw3, constant_f ht (n := v) (a := a + 1) (by omega) (by simp; omega) (by simp; omega) (by simp; omega), Option.bind_some]
    simp only [enc, gt_nat, List.append_assoc, List.singleton_append]
    rw [List.length_cons, piece_len (by omega)]
    rfl
 ·rw [if_neg hv, Option.bind_some, if_pos (show t.length < a + 1 + v by omega), if_pos (by simp)]; rfl
theorem upC_eq (c : UInt8) : (if ((decide (((97 : UInt8).toNat : Int) ≤ (c.toNat : Int))) && (decide ((c.toNat : Int) ≤ ((122 : UInt8).toNat : Int)))) = true then some (c - 32) else some c) = some (upC c) := by
 have e1 : ((97 : UInt8).toNat : Int) = 97 := rfl
 have e2 : ((122 : UInt8).toNat : Int) = 122 := rfl
 rw [e1, e2]
 unfold upC
 by_cases h : 97 ≤ c.toNat ∧ c.toNat ≤ 122
 ·rw [if_pos h, if_pos (by simp; omega)]
 ·rw [if_neg h, if_neg (by simp; omega)]
structure Fine (t : List UInt8) (a : Nat) (out : List UInt8) (frm : List Int) (own : List Bool) (cs : List (Int × Int)) : Prop where
 lt : t.length < 10000
 la : a ≤ t.length
 lo : out.length ≤ a
 lf : frm.length = out.length
 lw : own.length = out.length
 lc : cs.length ≤ a
theorem next_f {t : List UInt8} {a : Nat} {out : List UInt8} {frm : List Int} {own : List Bool} {cs : List (Int × Int)} (h : Fine t a out frm own cs) (ha : a < t.length) :
  g_37.f t out frm own cs (a : Int) = some (enc out frm own cs a (stp t a out own frm)) := by
 obtain ⟨h1, h2, h3, h4, h5, h6⟩ := h
 unfold g_37.f
 rw [if_pos ⟨by omega, by omega⟩, gt_nat, isQuote_f, Option.bind_some]
 unfold stp
 simp only
 by_cases hq : t.getD a default = 39 ∨ t.getD a default = 34
 ·rw [if_pos (by simpa using hq), if_pos hq, character_f h1 ha (by omega) (by omega) (by omega) (by omega)]
  rfl
 ·rw [if_neg (by simpa using hq), if_neg hq, upC_eq, Option.bind_some]
  have hend : Option.bind ((if ((((upC (t.getD a default)).toNat : Int) != ((32 : UInt8).toNat : Int))) = true then Option.bind (g_38.f out frm own (upC (t.getD a default)) (a : Int) false) fun y => some (y.1, y.2.1, y.2.2) else some (out, frm, own))) (fun z => some ((w64 ((a : Int) + 1)), (0 : Int), z.1, z.2.1, z.2.2, cs)) =
    some (enc out frm own cs a (if upC (t.getD a default) = 32 then .ok (a + 1, [], [], []) else .ok (a + 1, [upC (t.getD a default)], [false], []))) := by
   rw [bne, u8eq, w64_id (by omega) (by omega)]
   by_cases h32 : upC (t.getD a default) = 32
   ·rw [if_pos h32, if_neg (by rw [decide_eq_true h32]; decide)]
    simp [enc, rng]
   ·rw [if_neg h32, if_pos (by rw [decide_eq_false h32]; rfl), put_f (by omega) (by omega) (by omega)]
    simp [enc, rng]
  rw [u8eq]
  by_cases h72 : upC (t.getD a default) = 72
  ·rw [if_pos (decide_eq_true h72), if_pos h72]
   obtain ⟨d, hd⟩ := hollerith_f (out := out) (own := own) (by omega) (by omega)
   rw [hd, Option.bind_some]
   cases hh : hol out own with
   | none => simp only [Bool.false_eq_true, if_false]; exact hend
   | some b =>
    obtain ⟨k1, k2, _⟩ := hol_some hh
    simp only [if_true]
    rw [count_f h1 ha (by omega) (by omega) (by omega) (by omega) k1 k2]
    rfl
  ·rw [if_neg (by rw [decide_eq_false h72]; decide), if_neg h72]
   exact hend
end Go.Proofs.YtcafgoomipkljaaGreatDoorAi
namespace Go.Proofs.YtcafgoomipkljaaGreatDoorAi
open Go Go.RowKit
set_option linter.unusedVariables false
set_option linter.unusedSimpArgs false
theorem get_bang (l : List UInt8) (i : Nat) : (⟨l.toArray⟩ : ByteArray).get! i = l.getD i default := by
 show l.toArray[i]! = _
 simp [List.getD_eq_getElem?_getD]
theorem dec_lo {l : List UInt8} {p : Nat} (h : (l.getD p default).toNat < 128) : dec l p = ((l.getD p default).toNat, 1) := by
 unfold dec Utf8.decode
 simp only [Nat.add_zero, get_bang]
 rw [if_pos h]
theorem dec_hi {l : List UInt8} {p : Nat} (h : ¬ (l.getD p default).toNat < 128) : 126 < (dec l p).1 := by
 unfold dec Utf8.decode
 simp only [Nat.add_zero, get_bang]
 rw [if_neg h]
 split
 ·split
  ·simp only; omega
  ·decide
 ·split
  ·split
   ·rename_i h2
    simp only [Bool.and_eq_true, decide_eq_true_eq] at h2
    simp only; omega
   ·decide
  ·split
   ·split
    ·rename_i h2
     simp only [Bool.and_eq_true, decide_eq_true_eq] at h2
     simp only; omega
    ·decide
   ·decide
def shown (c : UInt8) : Bool := decide (32 ≤ c.toNat) && decide (c.toNat ≤ 126)
theorem notShown_eq (r : Nat) : g_2z.f (r : Int) 32 = some (!(decide (32 ≤ r) && decide (r ≤ 126))) := by
 unfold g_2z.f
 have : IntKind.i32.wrap (((32 : UInt8).toNat : Nat) : Int) = 32 := by decide
 rw [this]
 congr 1
 by_cases h1 : 32 ≤ r <;> by_cases h2 : r ≤ 126 <;> simp [h1, h2] <;> omega
theorem drop_getD {t : List UInt8} {a : Nat} (h : a < t.length) : t.drop a = t.getD a default :: t.drop (a + 1) := by
 rw [List.drop_eq_getElem_cons h, List.getD_eq_getElem?_getD, List.getElem?_eq_getElem h]; rfl
theorem indexFunc_iter (t : List UInt8) : ∀ d x : Nat, x + d = t.length →
  if (t.drop x).all shown = true then iter (g_3f.b0 t 32 true) x = some (.inl t.length) else ∃ k : Nat, iter (g_3f.b0 t 32 true) x = some (.inr (k : Int))
 | 0, x, h => by
  rw [show x = t.length by omega, List.drop_length]
  exact iter_stop (by unfold g_3f.b0; rw [if_neg (by simp)])
 | d + 1, x, h => by
  have ih := indexFunc_iter t d (x + 1) (by omega)
  have key : g_3f.b0 t 32 true x = if (decide (32 ≤ (dec t x).1) && decide ((dec t x).1 ≤ 126)) = true then some (.inl (x + (dec t x).2)) else some (.inr (.inr (x : Int))) := by
   unfold g_3f.b0
   rw [if_pos (decide_eq_true (by omega)), notShown_eq, Option.bind_some]
   cases (decide (32 ≤ (dec t x).1) && decide ((dec t x).1 ≤ 126)) <;> rfl
  rw [drop_getD (by omega), List.all_cons]
  by_cases hb : (t.getD x default).toNat < 128
  ·rw [dec_lo hb] at key
   cases hs : shown (t.getD x default)
   ·rw [Bool.false_and, if_neg (by decide)]
    unfold shown at hs
    exact ⟨x, iter_stop (key.trans (if_neg (by rw [hs]; decide)))⟩
   ·rw [Bool.true_and]
    unfold shown at hs
    rw [iter_next (key.trans (if_pos hs))]
    exact ih
  ·have hh := dec_hi hb
   have hs : shown (t.getD x default) = false := by unfold shown; rw [decide_eq_false (show ¬ (t.getD x default).toNat ≤ 126 by omega), Bool.and_false]
   rw [hs, Bool.false_and, if_neg (by decide)]
   exact ⟨x, iter_stop (key.trans (if_neg (by rw [decide_eq_false (show ¬ (dec t x).1 ≤ 126 by omega), Bool.and_false]; decide)))⟩
theorem isShown_f (t : List UInt8) : g_2y.f t 32 = some (t.all shown) := by
 have h := indexFunc_iter t t.length 0 (by omega)
 rw [List.drop_zero] at h
 unfold g_2y.f g_3e.f g_3f.f
 cases hs : t.all shown
 ·rw [hs, if_neg (by decide)] at h
  obtain ⟨k, hk⟩ := h
  rw [hk]
  simp [onSum]
 ·rw [hs, if_pos rfl] at h
  rw [h]
  simp [onSum]
theorem first2 (a b : Int) : g_2v.f [a, b] = some (if a ≠ 0 then a else b) := by
 have s0 : g_2v.b0 [a, b] 0 = if (a != 0) = true then some (.inr (.inr a)) else some (.inl 1) := rfl
 have s1 : g_2v.b0 [a, b] 1 = if (b != 0) = true then some (.inr (.inr b)) else some (.inl 2) := rfl
 have s2 : g_2v.b0 [a, b] 2 = some (.inr (.inl 2)) := rfl
 unfold g_2v.f
 by_cases ha : a = 0
 ·subst ha
  rw [iter_next (s0.trans (if_neg (by simp))), if_neg (by simp)]
  by_cases hb : b = 0
  ·subst hb
   rw [iter_next (s1.trans (if_neg (by simp))), iter_stop s2]; rfl
  ·rw [iter_stop (s1.trans (if_pos (by simp [hb])))]; rfl
 ·rw [iter_stop (s0.trans (if_pos (by simp [ha]))), if_pos ha]; rfl
def tErr (t : List UInt8) : Int := if 1320 < t.length then 8 else if t.all shown = true then 0 else 3
theorem textErr_f (t : List UInt8) : g_39.f t = some (tErr t) := by
 unfold g_39.f g_3a.f tErr
 rw [isShown_f]
 by_cases h : 1320 < t.length
 ·rw [if_neg (by simp; omega), if_pos h]
  cases t.all shown <;> simp [first2]
 ·rw [if_pos (by simp; omega), if_neg h]
  cases t.all shown <;> simp [first2]
theorem within_eq (c : UInt8) : g_4.f (IntKind.i64.wrap (c.toNat : Int)) 32 126 = some (shown c) := by
 have hc := c.toNat_lt
 have : IntKind.i64.wrap (c.toNat : Int) = (c.toNat : Int) := w64_id (by omega) (by omega)
 rw [this]
 unfold g_4.f shown
 congr 1
 by_cases h1 : 32 ≤ c.toNat <;> by_cases h2 : c.toNat ≤ 126 <;> simp [h1, h2] <;> omega
theorem isText_iter (t : List UInt8) (ht : t.length < 10000) : ∀ d x : Nat, x + d = t.length →
  iter (g_3.b0 t) (x : Int) = if (t.drop x).all shown = true then some (.inl (t.length : Int)) else some (.inr false)
 | 0, x, h => by
  rw [show x = t.length by omega, List.drop_length]
  exact iter_stop (by unfold g_3.b0; rw [if_neg (by simp)])
 | d + 1, x, h => by
  have ih := isText_iter t ht d (x + 1) (by omega)
  have key : g_3.b0 t (x : Int) = if shown (t.getD x default) = true then some (.inl ((x + 1 : Nat) : Int)) else some (.inr (.inr false)) := by
   unfold g_3.b0
   rw [if_pos (decide_eq_true (by omega)), if_pos ⟨by omega, by omega⟩, gt_nat, within_eq, Option.bind_some, w64_id (by omega) (by omega)]
   cases shown (t.getD x default) <;> rfl
  rw [drop_getD (by omega), List.all_cons]
  cases hs : shown (t.getD x default)
  ·rw [hs, if_neg (by decide)] at key
   rw [iter_stop key]; rfl
  ·rw [hs, if_pos rfl] at key
   rw [iter_next key, ih]; rfl
theorem refTextErr_f (t : List UInt8) (ht : t.length < 10000) : g_2d.f t = some (tErr t) := by
 unfold g_2d.f tErr
 by_cases h : 1320 < t.length
 ·rw [if_pos (by simp; omega), if_pos h]
 ·have := isText_iter t ht t.length 0 (by omega)
  rw [List.drop_zero] at this
  unfold g_3.f
  rw [if_neg (by simp; omega), if_neg h, if_neg (by simp; omega)]
  show Option.bind (Option.bind (iter (g_3.b0 t) ((0 : Nat) : Int)) _) _ = _
  rw [this]
  cases t.all shown <;> simp [onSum]
theorem stp_fine {t : List UInt8} {a : Nat} {out : List UInt8} {frm : List Int} {own : List Bool} {cs : List (Int × Int)} (h : Fine t a out frm own cs) (ha : a < t.length) {a' : Nat} {o : List UInt8} {w : List Bool} {c : List (Int × Int)} (hs : stp t a out own frm = .ok (a', o, w, c)) :
  a < a' ∧ Fine t a' (out ++ o) (frm ++ rng a o.length) (own ++ w) (cs ++ c) ∧ o.length = w.length := by
 obtain ⟨h1, h2, h3, h4, h5, h6⟩ := h
 have key : a < a' ∧ a' ≤ t.length ∧ o.length ≤ a' - a ∧ w.length = o.length ∧ c.length ≤ 1 := by
  unfold stp at hs
  simp only at hs
  split at hs
  ·split at hs
   ·cases hs
   ·rename_i n hn
    obtain ⟨hn, _, _⟩ := List.findIdx?_eq_some_iff_getElem.1 hn
    rw [List.length_drop] at hn
    simp only [Except.ok.injEq, Prod.mk.injEq] at hs
    obtain ⟨rfl, rfl, rfl, rfl⟩ := hs
    rw [piece_len (by omega), List.length_replicate]
    exact ⟨by omega, by omega, by omega, rfl, Nat.le_refl _⟩
  ·split at hs
   ·split at hs
    ·cases hs
    ·split at hs
     ·cases hs
     ·simp only [Except.ok.injEq, Prod.mk.injEq] at hs
      obtain ⟨rfl, rfl, rfl, rfl⟩ := hs
      rw [List.length_cons, piece_len (by omega), List.length_cons, List.length_replicate]
      exact ⟨by omega, by omega, by omega, rfl, Nat.le_refl _⟩
   ·split at hs
    ·simp only [Except.ok.injEq, Prod.mk.injEq] at hs
     obtain ⟨rfl, rfl, rfl, rfl⟩ := hs
     exact ⟨by omega, by omega, by simp, rfl, by simp⟩
    ·simp only [Except.ok.injEq, Prod.mk.injEq] at hs
     obtain ⟨rfl, rfl, rfl, rfl⟩ := hs
     exact ⟨by omega, by omega, by simp, rfl, by simp⟩
 obtain ⟨k1, k2, k3, k4, k5⟩ := key
 refine ⟨k1, ⟨h1, k2, ?_, ?_, ?_, ?_⟩, k4.symm⟩
 ·rw [List.length_append]; omega
 ·rw [List.length_append, List.length_append, rng_len]; omega
 ·rw [List.length_append, List.length_append]; omega
 ·rw [List.length_append]; omega
theorem stp_err {t : List UInt8} {a : Nat} {out : List UInt8} {frm : List Int} {own : List Bool} {e : Int} (hs : stp t a out own frm = .error e) : e = 21 ∨ e = 11 := by
 unfold stp at hs
 simp only at hs
 split at hs
 ·split at hs
  ·simp only [Except.error.injEq] at hs; exact .inl hs.symm
  ·cases hs
 ·split at hs
  ·split at hs
   ·simp only [Except.error.injEq] at hs; exact .inl hs.symm
   ·split at hs
    ·simp only [Except.error.injEq] at hs; exact .inr hs.symm
    ·cases hs
  ·split at hs <;> cases hs
def sqz (t : List UInt8) : Nat → Nat → List UInt8 → List Int → List Bool → List (Int × Int) → Except Int (List UInt8 × List Int × List Bool × List (Int × Int))
 | 0, _, out, frm, own, cs => .ok (out, frm, own, cs)
 | n + 1, a, out, frm, own, cs => if a < t.length then
   match stp t a out own frm with
   | .error e => .error e
   | .ok (a', o, w, c) => sqz t n a' (out ++ o) (frm ++ rng a o.length) (own ++ w) (cs ++ c)
  else .ok (out, frm, own, cs)
theorem squeeze_iter {t : List UInt8} : ∀ (n a : Nat) (out : List UInt8) (frm : List Int) (own : List Bool) (cs : List (Int × Int)), Fine t a out frm own cs → t.length < a + n →
  iter (g_30.b0 t) ((a : Int), out, frm, own, cs) = some (match sqz t n a out frm own cs with | .error e => .inr (none, e) | .ok r => .inl ((t.length : Int), r))
 | 0, a, out, frm, own, cs, h, hn => absurd h.la (by omega)
 | n + 1, a, out, frm, own, cs, h, hn => by
  unfold sqz
  by_cases ha : a < t.length
  ·rw [if_pos ha]
   have key : g_30.b0 t ((a : Int), out, frm, own, cs) = match stp t a out own frm with | .error e => some (.inr (.inr (none, e))) | .ok (a', o, w, c) => some (.inl ((a' : Int), out ++ o, frm ++ rng a o.length, own ++ w, cs ++ c)) := by
    unfold g_30.b0
    rw [if_pos (decide_eq_true (by simp only; omega))]
    simp only
    rw [next_f h ha, Option.bind_some]
    cases hs : stp t a out own frm with
    | error e =>
     rcases stp_err hs with rfl | rfl <;> rfl
    | ok r => rfl
   cases hs : stp t a out own frm with
   | error e =>
    rw [hs] at key
    exact iter_stop key
   | ok r =>
    obtain ⟨a', o, w, c⟩ := r
    rw [hs] at key
    obtain ⟨k1, k2, _⟩ := stp_fine h ha hs
    rw [iter_next key]
    exact squeeze_iter n a' _ _ _ _ k2 (by omega)
  ·rw [if_neg ha]
   have := h.la
   rw [show a = t.length by omega]
   exact iter_stop (by
    unfold g_30.b0
    rw [if_neg (by simp)])
def SQ (t : List UInt8) : Except Int (List UInt8 × List Int × List Bool × List (Int × Int)) := if tErr t ≠ 0 then .error (tErr t) else sqz t (t.length + 1) 0 [] [] [] []
theorem squeeze_f (t : List UInt8) : g_30.f t = some (match SQ t with | .error e => (none, e) | .ok r => (some (t, r), 0)) := by
 unfold g_30.f SQ
 rw [textErr_f, Option.bind_some]
 by_cases h : tErr t = 0
 ·have hl : t.length ≤ 1320 := by
   unfold tErr at h
   split at h
   ·cases h
   ·omega
  rw [if_neg (by simp [h]), if_neg (by simp [h])]
  have := squeeze_iter (t := t) (t.length + 1) 0 [] [] [] [] ⟨by omega, by omega, Nat.le_refl _, rfl, rfl, Nat.le_refl _⟩ (by omega)
  show Option.bind (iter (g_30.b0 t) (((0 : Nat) : Int), _)) _ = _
  rw [this, Option.bind_some]
  cases sqz t (t.length + 1) 0 [] [] [] [] <;> rfl
 ·rw [if_pos (by simp [h]), if_pos (by simp [h])]
theorem sqz_err {t : List UInt8} : ∀ (n a : Nat) (out : List UInt8) (frm : List Int) (own : List Bool) (cs : List (Int × Int)) (e : Int), sqz t n a out frm own cs = .error e → e ≠ 0
 | 0, _, _, _, _, _, e, h => by cases h
 | n + 1, a, out, frm, own, cs, e, h => by
  unfold sqz at h
  split at h
  ·split at h
   ·rename_i e' he
    simp only [Except.error.injEq] at h
    subst h
    rcases stp_err he with rfl | rfl <;> decide
   ·exact sqz_err n _ _ _ _ _ e h
  ·cases h
theorem SQ_err {t : List UInt8} {e : Int} (h : SQ t = .error e) : e ≠ 0 := by
 unfold SQ at h
 split at h
 ·rename_i h0
  simp only [Except.error.injEq] at h
  rw [← h]; exact h0
 ·exact sqz_err _ _ _ _ _ _ _ h
theorem Squeezed_f (t : List UInt8) : g_2u.f t = some (match SQ t with | .error e => ([], [], e) | .ok r => (r.1, r.2.1, 0)) := by
 unfold g_2u.f
 rw [squeeze_f, Option.bind_some]
 cases h : SQ t with
 | error e =>
  have := SQ_err h
  simp [onOpt, this]
 | ok r => rfl
theorem ConstantsIn_f (t : List UInt8) : g_2t.f t = some (match SQ t with | .error e => ([], e) | .ok r => (r.2.2.2, 0)) := by
 unfold g_2t.f
 rw [squeeze_f, Option.bind_some]
 cases h : SQ t with
 | error e =>
  have := SQ_err h
  simp [onOpt, this]
 | ok r => rfl
end Go.Proofs.YtcafgoomipkljaaGreatDoorAi
namespace Go.Proofs.YtcafgoomipkljaaGreatDoorAi
open Go Go.RowKit
set_option linter.unusedVariables false
set_option linter.unusedSimpArgs false
structure Rel (out : List UInt8) (own : List Bool) (pl : List UInt8) : Prop where
 h1 : out.length = own.length
 h2 : pl.length = own.length
 q : ∀ (k : Nat) (q : UInt8 → Bool), q 72 = false → q 34 = false → (!(own.getD k default) && q (out.getD k default)) = q (pl.getD k default)
theorem getD_app {α : Type} (l m : List α) (d : α) (k : Nat) : (l ++ m).getD k d = if k < l.length then l.getD k d else m.getD (k - l.length) d := by
 simp only [List.getD_eq_getElem?_getD]
 split
 ·rw [List.getElem?_append_left (by assumption)]
 ·rw [List.getElem?_append_right (by omega)]
theorem Rel.nil : Rel [] [] [] := ⟨rfl, rfl, fun k q _ _ => by simp⟩
theorem Rel.app {out : List UInt8} {own : List Bool} {pl o : List UInt8} {w : List Bool} {p : List UInt8} (h : Rel out own pl) (k : Rel o w p) : Rel (out ++ o) (own ++ w) (pl ++ p) := by
 refine ⟨by rw [List.length_append, List.length_append, h.h1, k.h1], by rw [List.length_append, List.length_append, h.h2, k.h2], fun i q q1 q2 => ?_⟩
 rw [getD_app, getD_app, getD_app, h.h1, h.h2]
 split
 ·exact h.q i q q1 q2
 ·exact k.q _ q q1 q2
theorem Rel.one (c : UInt8) : Rel [c] [false] [c] := ⟨rfl, rfl, fun k q _ _ => by
 cases k with
 | zero => simp
 | succ k => simp⟩
theorem Rel.hide (c : UInt8) (b : Bool) (hb : b = true ∨ c = 72) : Rel [c] [b] [34] := ⟨rfl, rfl, fun k q q1 q2 => by
 cases k with
 | zero =>
  show (!b && q c) = q 34
  rcases hb with rfl | rfl
  ·rw [q2]; rfl
  ·rw [q1, q2, Bool.and_false]
 | succ k => simp⟩
theorem Rel.const : ∀ (o : List UInt8), Rel o (List.replicate o.length true) (List.replicate o.length 34)
 | [] => Rel.nil
 | c :: o => (Rel.hide c true (.inl rfl)).app (Rel.const o)
theorem u8cast (a : UInt8) : IntKind.i64.wrap (a.toNat : Int) = (a.toNat : Int) := by
 have := a.toNat_lt
 exact w64_id (by omega) (by omega)
theorem refdig_iter {pl : List UInt8} (hs : pl.length < 1000000) : ∀ n : Nat, n ≤ pl.length → iter (g_2f.b0 pl) (n : Int) = some ((dg (fun k => isDg (pl.getD k default)) n : Nat) : Int)
 | 0, _ => iter_stop (by unfold g_2f.b0; rfl)
 | n + 1, hn => by
  have hw : w64 (((n + 1 : Nat) : Int) - 1) = (n : Int) := by rw [w64_id] <;> omega
  have key : g_2f.b0 pl ((n + 1 : Nat) : Int) = if isDg (pl.getD n default) = true then some (.inl (n : Int)) else some (.inr ((n + 1 : Nat) : Int)) := by
   unfold g_2f.b0
   rw [hw, if_pos (decide_eq_true (by omega)), if_pos ⟨by omega, by omega⟩, refDigit_eq, gt_nat]
   rfl
  unfold dg
  split
  ·rename_i h
   rw [iter_next (key.trans (if_pos h))]
   exact refdig_iter hs n (by omega)
  ·rename_i h
   exact iter_stop (key.trans (if_neg h))
theorem refdig_iter1 : g_2f.b1 = g_2f.b0 := rfl
def isP (pl : List UInt8) (n : Nat) (sg : List UInt8) : Bool := match n with | 0 => false | n + 1 => sg.contains (pl.getD n default)
theorem isP_succ (pl : List UInt8) (n : Nat) (sg : List UInt8) : isP pl (n + 1) sg = sg.contains (pl.getD n default) := rfl
theorem Rel.isB {out : List UInt8} {own : List Bool} {pl : List UInt8} (h : Rel out own pl) (n : Nat) (sg : List UInt8) (h1 : sg.contains 72 = false) (h2 : sg.contains 34 = false) : isB out own n sg = isP pl n sg := by
 cases n with
 | zero => rfl
 | succ n => exact h.q n (fun c => sg.contains c) h1 h2
theorem Rel.pD {out : List UInt8} {own : List Bool} {pl : List UInt8} (h : Rel out own pl) : pD out own = fun k => isDg (pl.getD k default) := by
 funext k
 exact h.q k isDg (by decide) (by decide)
theorem chain {pl : List UInt8} (hp : pl.length < 1000000) (o : Nat) (ho : o ≤ pl.length) :
  (if (((o : Int) == 0)) = true then some true else (if 0 ≤ (w64 ((o : Int) - 1)) ∧ (w64 ((o : Int) - 1)) < (pl.length : Int) then Option.bind ((if ((((gt pl (w64 ((o : Int) - 1))).toNat : Int) != ((40 : UInt8).toNat : Int))) = true then (if 0 ≤ (w64 ((o : Int) - 1)) ∧ (w64 ((o : Int) - 1)) < (pl.length : Int) then some (((gt pl (w64 ((o : Int) - 1))).toNat : Int) != ((44 : UInt8).toNat : Int)) else none) else some false)) fun z29 => Option.bind ((if z29 = true then (if 0 ≤ (w64 ((o : Int) - 1)) ∧ (w64 ((o : Int) - 1)) < (pl.length : Int) then some (((gt pl (w64 ((o : Int) - 1))).toNat : Int) != ((47 : UInt8).toNat : Int)) else none) else some false)) fun z32 => Option.bind ((if z32 = true then (if 0 ≤ (w64 ((o : Int) - 1)) ∧ (w64 ((o : Int) - 1)) < (pl.length : Int) then some (((gt pl (w64 ((o : Int) - 1))).toNat : Int) != ((61 : UInt8).toNat : Int)) else none) else some false)) fun z35 => some z35 else none)) = some (!isP pl o [40, 44, 47, 61]) := by
 cases o with
 | zero => rfl
 | succ n =>
  have hw : w64 (((n + 1 : Nat) : Int) - 1) = (n : Int) := by rw [w64_id] <;> omega
  have hc : 0 ≤ (n : Int) ∧ (n : Int) < (pl.length : Int) := ⟨by omega, by omega⟩
  rw [if_neg (by simp; omega)]
  simp only [hw, if_pos hc, gt_nat, bne, u8eq]
  rw [isP_succ]
  generalize pl.getD n default = c
  by_cases e1 : c = 40
  ·subst e1; rfl
  ·by_cases e2 : c = 44
   ·subst e2; rfl
   ·by_cases e3 : c = 47
    ·subst e3; rfl
    ·by_cases e4 : c = 61
     ·subst e4; rfl
     ·simp [e1, e2, e3, e4]
theorem holleriths_f {out : List UInt8} {own : List Bool} {pl : List UInt8} (h : Rel out own pl) (hp : pl.length < 1000000) :
  g_2f.f pl = some (match hol out own with | some b => ((out.length - b : Nat) : Int) | none => 0) := by
 have hlen : out.length = pl.length := by rw [h.h1, h.h2]
 unfold hol
 have e1 := fun n => h.isB n [40, 44, 47, 61] (by decide) (by decide)
 have e2 := fun n => h.isB n [42] (by decide) (by decide)
 simp only [e1, e2, h.pD, hlen]
 have hle := dg_le (fun k => isDg (pl.getD k default)) pl.length
 unfold g_2f.f
 rw [refdig_iter hp pl.length (Nat.le_refl _), Option.bind_some]
 generalize dg (fun k => isDg (pl.getD k default)) pl.length = b at *
 have hw : w64 ((pl.length : Int) - (b : Int)) = ((pl.length - b : Nat) : Int) := by rw [w64_id] <;> omega
 have hz11 : (if ((decide ((w64 ((pl.length : Int) - (b : Int))) > 0)) && (decide ((b : Int) > 0))) = true then (if 0 ≤ (w64 ((b : Int) - 1)) ∧ (w64 ((b : Int) - 1)) < (pl.length : Int) then some (((gt pl (w64 ((b : Int) - 1))).toNat : Int) == ((42 : UInt8).toNat : Int)) else none) else some false) = some (decide (b < pl.length) && isP pl b [42]) := by
  cases b with
  | zero => rw [if_neg (by simp)]; simp [isP]
  | succ n =>
   have hw2 : w64 (((n + 1 : Nat) : Int) - 1) = (n : Int) := by rw [w64_id] <;> omega
   rw [hw]
   by_cases hb : n + 1 < pl.length
   ·rw [if_pos (by simp; omega), hw2, if_pos ⟨by omega, by omega⟩, gt_nat, u8eq, decide_eq_true hb, Bool.true_and, isP_succ]
    generalize pl.getD n default = c
    by_cases e : c = 42
    ·subst e; rfl
    ·rw [decide_eq_false e]; simp [e]
   ·rw [if_neg (by simp; omega), decide_eq_false hb, Bool.false_and]
 rw [hz11, Option.bind_some]
 by_cases hb : b = pl.length
 ·rw [if_pos hb, if_neg (by simp [hb]), chain hp b hle, Option.bind_some, hw]
  subst hb
  cases isP pl pl.length [40, 44, 47, 61] <;> simp
 ·rw [if_neg hb, decide_eq_true (by omega), Bool.true_and]
  have hsg : isP pl b [42] = true → isP pl b [40, 44, 47, 61] = false := by
   cases b with
   | zero => intro; rfl
   | succ n =>
    rw [isP_succ, isP_succ]
    intro hc
    have : pl.getD n default = 42 := by
     generalize pl.getD n default = c at *
     simpa using hc
    rw [this]; decide
  cases h42 : isP pl b [42]
  ·rw [if_neg (by decide), chain hp b hle, Option.bind_some, hw]
   cases isP pl b [40, 44, 47, 61] <;> simp
  ·rw [if_pos rfl, hsg h42]
   have hb0 : 0 < b := by
    cases b with
    | zero => simp [isP] at h42
    | succ b => omega
   have hw2 : w64 ((b : Int) - 1) = ((b - 1 : Nat) : Int) := by rw [w64_id] <;> omega
   have hk := dg_le (fun k => isDg (pl.getD k default)) (b - 1)
   rw [hw2, refdig_iter1, refdig_iter hp (b - 1) (by omega), Option.bind_some]
   generalize dg (fun k => isDg (pl.getD k default)) (b - 1) = k at *
   simp only [Bool.false_eq_true, if_false, if_true]
   by_cases h3 : k = b - 1
   ·rw [if_pos (by simp [h3]), if_neg (by omega)]
   ·rw [if_neg (by simp; omega), chain hp k (by omega), Option.bind_some, hw]
    cases h4 : isP pl k [40, 44, 47, 61]
    ·simp
    ·have h5 : k < b - 1 := by omega
     simp [h5]
end Go.Proofs.YtcafgoomipkljaaGreatDoorAi
namespace Go.Proofs.YtcafgoomipkljaaGreatDoorAi
open Go Go.RowKit
set_option linter.unusedVariables false
set_option linter.unusedSimpArgs false
theorem with_f {tx pl : List UInt8} {ix : List Int} {cs : List (Int × Int)} {er : Int} (h1 : tx.length < 1000000) (h2 : pl.length < 1000000) (h3 : ix.length < 1000000) (c : UInt8) (i : Int) :
  g_2i.f tx pl ix cs er c i = some (tx ++ [c], pl ++ [c], ix ++ [i], cs, er) := by
 unfold g_2i.f
 rw [if_pos (by simp only [List.length_cons, List.length_nil]; omega), if_pos (by simp only [List.length_cons, List.length_nil]; omega), if_pos (by simp only [List.length_cons, List.length_nil]; omega)]
theorem hidden_f {tx pl : List UInt8} {ix : List Int} {cs : List (Int × Int)} {er : Int} (h2 : pl.length < 1000000) (c : UInt8) :
  g_2e.f tx (pl ++ [c]) ix cs er = some (tx, pl ++ [34], ix, cs, er) := by
 have hl : (pl ++ [c]).length = pl.length + 1 := by simp
 have hw : w64 (((pl ++ [c]).length : Int) - 1) = (pl.length : Int) := by rw [hl, w64_id] <;> omega
 have hm : mid (pl ++ [c]) 0 (pl.length : Int) = pl := by
  unfold mid
  rw [Int.toNat_natCast]
  simp
 unfold g_2e.f
 rw [hw, if_pos ⟨by omega, by omega, by rw [hl]; omega⟩, hm, if_pos (by simp only [List.length_cons, List.length_nil]; omega)]
theorem b1_iter {t : List UInt8} (ht : t.length < 10000) (x6 : Int × List UInt8 × List UInt8 × List Int × (List (Int × Int)) × Int) {a : Nat} (hx : x6.1 = (a : Int)) : ∀ d k : Nat, k + d = t.length →
  iter (g_2c.b1 t x6) (k : Int) = some (match (t.drop k).findIdx? (· == t.getD a default) with | none => (t.length : Int) | some n => ((k + n : Nat) : Int))
 | 0, k, h => by
  rw [show k = t.length by omega, List.drop_length]
  exact iter_stop (by unfold g_2c.b1; rw [if_neg (by simp)]; rfl)
 | d + 1, k, h => by
  have ih := b1_iter ht x6 hx d (k + 1) (by omega)
  have key : g_2c.b1 t x6 (k : Int) = if (t.getD k default == t.getD a default) = true then some (.inr (k : Int)) else some (.inl ((k + 1 : Nat) : Int)) := by
   unfold g_2c.b1
   rw [if_pos (decide_eq_true (by omega)), if_pos ⟨by omega, by omega⟩, hx, gt_nat, gt_nat, bne, u8eq, w64_id (by omega) (by omega), Option.bind_some]
   generalize t.getD k default = c
   generalize t.getD a default = e
   by_cases he : c = e
   ·subst he; simp
   ·rw [decide_eq_false he]; simp [he]
  rw [drop_getD (by omega), List.findIdx?_cons]
  cases hc : (t.getD k default == t.getD a default)
  ·rw [hc, if_neg (by decide)] at key
   rw [iter_next key, ih]
   cases (t.drop (k + 1)).findIdx? (· == t.getD a default) with
   | none => rfl
   | some n =>
    show some (((k + 1 + n : Nat)) : Int) = some ((k + (n + 1) : Nat) : Int)
    rw [show k + 1 + n = k + (n + 1) by omega]
  ·rw [hc, if_pos rfl] at key
   rw [iter_stop key]; rfl
theorem b2_iter {t : List UInt8} (ht : t.length < 10000) {cs : List (Int × Int)} {er : Int} (e : Nat) (he : e < t.length) : ∀ (n a : Nat) (tx pl : List UInt8) (ix : List Int), a + n = e + 1 → tx.length + n < 900000 → pl.length + n < 900000 → ix.length + n < 900000 →
  iter (g_2c.b2 t (e : Int)) ((a : Int), tx, pl, ix, cs, er) = some (((e + 1 : Nat) : Int), tx ++ piece t a n, pl ++ List.replicate n 34, ix ++ rng a n, cs, er)
 | 0, a, tx, pl, ix, h, _, _, _ => by
  rw [show e + 1 = a by omega]
  exact iter_stop (by
   unfold g_2c.b2
   rw [if_neg (by simp; omega)]
   simp [piece_zero, rng])
 | n + 1, a, tx, pl, ix, h, h1, h2, h3 => by
  have ih := b2_iter ht (cs := cs) (er := er) e he n (a + 1) (tx ++ [t.getD a default]) (pl ++ [34]) (ix ++ [(a : Int)]) (by omega) (by simp; omega) (by simp; omega) (by simp; omega)
  rw [iter_next (y := (((a + 1 : Nat) : Int), tx ++ [t.getD a default], pl ++ [34], ix ++ [(a : Int)], cs, er)) (by
   unfold g_2c.b2
   rw [if_pos (decide_eq_true (by simp only; omega)), if_pos ⟨by simp only; omega, by simp only; omega⟩]
   simp only
   rw [with_f (by omega) (by omega) (by omega), Option.bind_some]
   simp only
   rw [hidden_f (by omega), Option.bind_some, w64_id (by omega) (by omega), gt_nat]
   rfl), ih, piece_succ n (by omega)]
  simp [rng, List.replicate_succ]
theorem b4_eq (t : List UInt8) (x6 : Int × List UInt8 × List UInt8 × List Int × (List (Int × Int)) × Int) (o : Int × Int) : g_2c.b4 t x6 o = g_2c.b2 t (w64 (x6.1 + o.1)) := rfl
theorem valL_min (l : List UInt8) : ∀ a P : Nat, min (valL a l) P = min (valL (min a P) l) P := by
 induction l with
 | nil => intro a P; rw [valL_nil, valL_nil]; omega
 | cons c r ih =>
  intro a P
  rw [valL_cons, valL_cons, ih (a * 10 + (c.toNat - 48)), ih (min a P * 10 + (c.toNat - 48))]
  have : min (a * 10 + (c.toNat - 48)) P = min (min a P * 10 + (c.toNat - 48)) P := by
   generalize c.toNat - 48 = d
   omega
  rw [this]
theorem b3_iter (x6 : Int × List UInt8 × List UInt8 × List Int × (List (Int × Int)) × Int) (hl : x6.2.1.length < 100000) : ∀ d k v : Nat, k + d = x6.2.1.length → v ≤ 10000 → (x6.2.1.drop k).all isDg = true →
  iter (g_2c.b3 x6) ((v : Int), (k : Int)) = some (((min (valL v (x6.2.1.drop k)) 10000 : Nat) : Int), (x6.2.1.length : Int))
 | 0, k, v, h, hv, _ => by
  rw [show k = x6.2.1.length by omega, List.drop_length, valL_nil, Nat.min_eq_left hv]
  exact iter_stop (by unfold g_2c.b3; rw [if_neg (by simp)])
 | d + 1, k, v, h, hv, ha => by
  rw [drop_getD (by omega), List.all_cons, Bool.and_eq_true] at ha
  have ih := b3_iter x6 hl d (k + 1) (min (v * 10 + ((x6.2.1.getD k default).toNat - 48)) 10000) (by omega) (by omega) ha.2
  have hd := isDg_iff.1 ha.1
  have key : g_2c.b3 x6 ((v : Int), (k : Int)) = some (.inl (((min (v * 10 + ((x6.2.1.getD k default).toNat - 48)) 10000 : Nat) : Int), ((k + 1 : Nat) : Int))) := by
   unfold g_2c.b3
   rw [if_pos (decide_eq_true (by simp only; omega)), if_pos ⟨by simp only; omega, by simp only; omega⟩]
   simp only
   have hsub : ((gt x6.2.1 (k : Int) - 48).toNat : Int) = (((x6.2.1.getD k default).toNat - 48 : Nat) : Int) := by
    rw [gt_nat]
    have : (x6.2.1.getD k default - 48).toNat = (x6.2.1.getD k default).toNat - 48 := by
     rw [UInt8.toNat_sub]
     show (256 - 48 + _) % 256 = _
     omega
    rw [this]
   rw [u8cast, hsub]
   have hz : (x6.2.1.getD k default).toNat - 48 < 1000 := by omega
   generalize (x6.2.1.getD k default).toNat - 48 = z at *
   rw [w64_id (x := 10 * (v : Int)) (by omega) (by omega), w64_id (x := 10 * (v : Int) + (z : Int)) (by omega) (by omega), w64_id (x := (k : Int) + 1) (by omega) (by omega)]
   by_cases hb : (10000 : Int) < 10 * (v : Int) + (z : Int)
   ·rw [if_pos hb, show min (v * 10 + z) 10000 = 10000 by omega]; rfl
   ·rw [if_neg hb, show ((min (v * 10 + z) 10000 : Nat) : Int) = 10 * (v : Int) + (z : Int) by omega]; rfl
  rw [iter_next key, ih, drop_getD (t := x6.2.1) (a := k) (by omega), valL_cons, valL_min (List.drop (k + 1) x6.2.1) (v * 10 + _)]
theorem upper_one (c : UInt8) : g_2h.f [c] = some [upC c] := by
 have s0 : g_2h.b0 [c] ([], 0) = some (.inl ([upC c], 1)) := by
  unfold g_2h.b0
  rw [if_pos (decide_eq_true (by simp)), if_pos ⟨Int.le_refl _, by simp⟩]
  have e1 : ((97 : UInt8).toNat : Int) = 97 := rfl
  have e2 : ((122 : UInt8).toNat : Int) = 122 := rfl
  have e3 : gt [c] (0 : Int) = c := rfl
  simp only [e1, e2, e3]
  unfold upC
  by_cases h : 97 ≤ c.toNat ∧ c.toNat ≤ 122
  ·rw [if_pos h, if_pos (by simp; omega)]; rfl
  ·rw [if_neg h, if_neg (by simp; omega)]; rfl
 have s1 : g_2h.b0 [c] ([upC c], 1) = some (.inr ([upC c], 1)) := rfl
 unfold g_2h.f
 rw [iter_next s0, iter_stop s1]; rfl
end Go.Proofs.YtcafgoomipkljaaGreatDoorAi
namespace Go.Proofs.YtcafgoomipkljaaGreatDoorAi
open Go Go.RowKit
set_option linter.unusedVariables false
set_option linter.unusedSimpArgs false
theorem up_fin : ∀ n : Fin 256, (decide (upC (UInt8.ofNat n.val) = 72) = (decide (UInt8.ofNat n.val = 72) || decide (UInt8.ofNat n.val = 104))) ∧ decide (upC (UInt8.ofNat n.val) = 32) = decide (UInt8.ofNat n.val = 32) := by decide +kernel
theorem up72 (c : UInt8) : decide (upC c = 72) = (decide (c = 72) || decide (c = 104)) := by
 have h := (up_fin ⟨c.toNat, c.toNat_lt⟩).1
 simpa using h
theorem up32 (c : UInt8) : decide (upC c = 32) = decide (c = 32) := by
 have h := (up_fin ⟨c.toNat, c.toNat_lt⟩).2
 simpa using h
theorem mid_one {t : List UInt8} {a : Nat} (ha : a < t.length) : mid t (a : Int) ((a + 1 : Nat) : Int) = [t.getD a default] := by
 unfold mid
 rw [Int.toNat_natCast, Int.toNat_natCast, List.drop_take, drop_getD ha]
 simp
theorem ref_step {t : List UInt8} {a : Nat} {out : List UInt8} {frm : List Int} {own : List Bool} {cs : List (Int × Int)} {pl : List UInt8} (h : Fine t a out frm own cs) (hr : Rel out own pl) (ha : a < t.length) :
  match stp t a out own frm with
  | .error e => g_2c.b0 t ((a : Int), out, pl, frm, cs, 0) = some (.inr (.inr ([], [], [], [], e)))
  | .ok (a', o, w, c) => ∃ p, Rel o w p ∧ g_2c.b0 t ((a : Int), out, pl, frm, cs, 0) = some (.inl ((a' : Int), out ++ o, pl ++ p, frm ++ rng a o.length, cs ++ c, 0)) := by
 obtain ⟨h1, h2, h3, h4, h5, h6⟩ := h
 have hpl : pl.length = out.length := by rw [hr.h2, h5]
 have hw1 : w64 ((a : Int) + 1) = ((a + 1 : Nat) : Int) := by rw [w64_id] <;> omega
 -- what the reference does with a character that is none of these
 have key : g_2c.b0 t ((a : Int), out, pl, frm, cs, 0) = (if t.getD a default = 32 then some (.inl (((a + 1 : Nat) : Int), out, pl, frm, cs, 0)) else if t.getD a default = 39 ∨ t.getD a default = 34 then
   Option.bind (iter (g_2c.b1 t ((a : Int), out, pl, frm, cs, 0)) ((a + 1 : Nat) : Int)) (fun o31 => (if (o31 == (t.length : Int)) = true then some (.inr (.inr ([], [], ([] : List Int), ([] : List (Int × Int)), 21))) else (if cs.length + ([((a : Int), (w64 (o31 + 1)))] : List (Int × Int)).length < 1000000000 then Option.bind (iter (g_2c.b2 t o31) ((a : Int), out, pl, frm, (cs ++ ([((a : Int), (w64 (o31 + 1)))] : List (Int × Int))), 0)) fun o54 => some (.inl (o54.1, o54.2.1, o54.2.2.1, o54.2.2.2.1, o54.2.2.2.2.1, o54.2.2.2.2.2)) else none)))
   else match (if upC (t.getD a default) = 72 then hol out own else none) with
   | some b => Option.bind (iter (g_2c.b3 ((a : Int), out, pl, frm, cs, 0)) (0, (b : Int))) (fun o103 => (if (o103.1 == 0) = true then some (.inr (.inr ([], [], ([] : List Int), ([] : List (Int × Int)), 11))) else (if (decide ((w64 ((a : Int) + o103.1)) ≥ (t.length : Int))) = true then some (.inr (.inr ([], [], ([] : List Int), ([] : List (Int × Int)), 21))) else
     (if cs.length + ([((gt frm (b : Int)), (w64 ((w64 ((a : Int) + o103.1)) + 1)))] : List (Int × Int)).length < 1000000000 then Option.bind (g_2i.f out pl frm (cs ++ ([((gt frm (b : Int)), (w64 ((w64 ((a : Int) + o103.1)) + 1)))] : List (Int × Int))) 0 72 (a : Int)) fun y126 => Option.bind (g_2e.f y126.1 y126.2.1 y126.2.2.1 y126.2.2.2.1 y126.2.2.2.2) fun y136 => Option.bind (iter (g_2c.b4 t ((a : Int), out, pl, frm, cs, 0) o103) (((a + 1 : Nat) : Int), y136.1, y136.2.1, y136.2.2.1, y136.2.2.2.1, y136.2.2.2.2)) fun o155 => some (.inl ((w64 ((w64 ((a : Int) + o103.1)) + 1)), o155.2.1, o155.2.2.1, o155.2.2.2.1, o155.2.2.2.2.1, o155.2.2.2.2.2)) else none))))
   | none => some (.inl (((a + 1 : Nat) : Int), out ++ [upC (t.getD a default)], pl ++ [upC (t.getD a default)], frm ++ [(a : Int)], cs, 0))) := by
  have hend : (if 0 ≤ (a : Int) ∧ (a : Int) ≤ ((a + 1 : Nat) : Int) ∧ ((a + 1 : Nat) : Int) ≤ (t.length : Int) then Option.bind (g_2h.f (mid t (a : Int) ((a + 1 : Nat) : Int))) fun y197 => (if 0 ≤ (0 : Int) ∧ (0 : Int) < (y197.length : Int) then Option.bind (g_2i.f out pl frm cs 0 (gt y197 (0 : Int)) (a : Int)) fun y200 => some ((Sum.inl (((a + 1 : Nat) : Int), y200.1, y200.2.1, y200.2.2.1, y200.2.2.2.1, y200.2.2.2.2)) : (Int × List UInt8 × List UInt8 × List Int × (List (Int × Int)) × Int) ⊕ ((Int × List UInt8 × List UInt8 × List Int × (List (Int × Int)) × Int) ⊕ (List UInt8 × List UInt8 × List Int × (List (Int × Int)) × Int))) else none) else none) =
    some (.inl (((a + 1 : Nat) : Int), out ++ [upC (t.getD a default)], pl ++ [upC (t.getD a default)], frm ++ [(a : Int)], cs, 0)) := by
   rw [if_pos ⟨by omega, by omega, by omega⟩, mid_one ha, upper_one, Option.bind_some, if_pos ⟨by omega, by simp⟩, with_f (by omega) (by omega) (by omega)]
   rfl
  unfold g_2c.b0
  rw [if_pos (decide_eq_true (by simp only; omega)), if_pos ⟨by simp only; omega, by simp only; omega⟩]
  simp only [gt_nat, u8eq, hw1]
  by_cases c32 : t.getD a default = 32
  ·rw [if_pos c32, if_pos (decide_eq_true c32)]
  ·rw [if_neg c32, if_neg (by rw [decide_eq_false c32]; decide)]
   by_cases cq : t.getD a default = 39 ∨ t.getD a default = 34
   ·rw [if_pos cq, if_pos (by rcases cq with q | q <;> rw [decide_eq_true q] <;> simp)]
   ·have cq' : ¬ (decide (t.getD a default = 39) || decide (t.getD a default = 34)) = true := by
     simp only [Bool.or_eq_true, decide_eq_true_eq]; exact cq
    rw [if_neg cq, if_neg cq']
    by_cases c72 : upC (t.getD a default) = 72
    ·have c72' := up72 (t.getD a default)
     rw [decide_eq_true c72] at c72'
     rw [if_pos c72, if_pos c72'.symm, holleriths_f hr (by omega), Option.bind_some, Option.bind_some]
     cases hh : hol out own with
     | none => rw [if_neg (by simp)]; exact hend
     | some b =>
      obtain ⟨k1, k2, k3⟩ := hol_some hh
      have e1 : w64 ((out.length : Int) - ((out.length - b : Nat) : Int)) = (b : Int) := by rw [w64_id] <;> omega
      have e2 : w64 ((frm.length : Int) - ((out.length - b : Nat) : Int)) = (b : Int) := by rw [w64_id] <;> omega
      rw [if_pos (decide_eq_true (show ((out.length - b : Nat) : Int) > 0 by omega))]
      simp only [Option.bind_some, e1, e2]
      congr 1
      funext o103
      rw [if_pos (show 0 ≤ (b : Int) ∧ (b : Int) < (frm.length : Int) from ⟨by omega, by omega⟩)]
      rfl
    ·have c72' := up72 (t.getD a default)
     rw [decide_eq_false c72] at c72'
     rw [if_neg c72, if_neg (by rw [← c72']; decide), Option.bind_some, if_neg (by decide)]
     exact hend
 rw [key]
 unfold stp
 simp only
 by_cases c32 : t.getD a default = 32
 ·rw [c32, if_pos rfl, if_neg (by decide), if_neg (by decide)]
  simp only
  rw [if_pos (by decide)]
  simp only
  exact ⟨[], Rel.nil, by simp [rng]⟩
 ·rw [if_neg c32]
  by_cases cq : t.getD a default = 39 ∨ t.getD a default = 34
  ·rw [if_pos cq, if_pos cq, b1_iter h1 _ rfl (t.length - (a + 1)) (a + 1) (by omega), Option.bind_some]
   cases hf : (t.drop (a + 1)).findIdx? (· == t.getD a default) with
   | none => simp only; rw [if_pos (by simp)]
   | some n =>
    obtain ⟨hn, _, _⟩ := List.findIdx?_eq_some_iff_getElem.1 hf
    rw [List.length_drop] at hn
    have e1 : w64 (((a + 1 + n : Nat) : Int) + 1) = ((a + (n + 2) : Nat) : Int) := by rw [w64_id] <;> omega
    simp only [e1]
    rw [if_neg (by simp; omega), if_pos (by simp only [List.length_cons, List.length_nil]; omega), b2_iter h1 (a + 1 + n) (by omega) (n + 2) a out pl frm (by omega) (by omega) (by omega) (by omega), Option.bind_some]
    refine ⟨List.replicate (n + 2) 34, ?_, ?_⟩
    ·have := Rel.const (piece t a (n + 2))
     rwa [piece_len (by omega)] at this
    ·simp only
     rw [piece_len (by omega), show a + 1 + n + 1 = a + (n + 2) by omega]
  ·rw [if_neg cq, if_neg cq]
   cases hh : (if upC (t.getD a default) = 72 then hol out own else none) with
   | none =>
    simp only
    have c32' := up32 (t.getD a default)
    rw [decide_eq_false c32, decide_eq_false_iff_not] at c32'
    rw [if_neg c32']
    exact ⟨[upC (t.getD a default)], Rel.one _, by simp [rng]⟩
   | some b =>
    have hh' : hol out own = some b := by
     split at hh
     ·exact hh
     ·cases hh
    obtain ⟨k1, k2, k3⟩ := hol_some hh'
    simp only
    have hb3 := b3_iter ((a : Int), out, pl, frm, cs, 0) (show out.length < 100000 by omega) (out.length - b) b 0 (show b + (out.length - b) = out.length by omega) (by omega) k2
    rw [show ((0 : Nat) : Int) = 0 from rfl] at hb3
    simp only at hb3
    rw [hb3, Option.bind_some]
    generalize valL 0 (out.drop b) = v
    simp only
    by_cases hv0 : v = 0
    ·subst hv0
     rw [if_neg (show ¬ t.length < a + 1 + 0 by omega), if_pos rfl, if_pos (by decide)]
    ·have hw2 : w64 ((a : Int) + ((min v 10000 : Nat) : Int)) = ((a + min v 10000 : Nat) : Int) := by rw [w64_id] <;> omega
     rw [if_neg (show ¬ ((((min v 10000 : Nat) : Int) == 0) = true) by simp; omega)]
     simp only [hw2]
     by_cases hvl : t.length < a + 1 + v
     ·rw [if_pos hvl, if_pos (decide_eq_true (by omega))]
     ·have hm : min v 10000 = v := by omega
      rw [if_neg hvl, if_neg hv0, hm, if_neg (by simp; omega), if_pos (by simp only [List.length_cons, List.length_nil]; omega), with_f (by omega) (by omega) (by omega), Option.bind_some]
      simp only
      rw [hidden_f (by omega), Option.bind_some, b4_eq]
      simp only
      have hw3 : w64 ((a : Int) + (v : Int)) = ((a + v : Nat) : Int) := by rw [w64_id] <;> omega
      have hw4 : w64 (((a + v : Nat) : Int) + 1) = ((a + 1 + v : Nat) : Int) := by rw [w64_id] <;> omega
      rw [hw3, hw4, b2_iter h1 (a + v) (by omega) v (a + 1) _ _ _ (by omega) (by simp; omega) (by simp; omega) (by simp; omega), Option.bind_some]
      refine ⟨34 :: List.replicate v 34, ?_, ?_⟩
      ·have := (Rel.hide 72 false (.inr rfl)).app (Rel.const (piece t (a + 1) v))
       rw [piece_len (by omega)] at this
       exact this
      ·simp only [gt_nat]
       rw [List.length_cons, piece_len (by omega)]
       simp [rng]
theorem ref_iter {t : List UInt8} : ∀ (n a : Nat) (out : List UInt8) (frm : List Int) (own : List Bool) (cs : List (Int × Int)) (pl : List UInt8), Fine t a out frm own cs → Rel out own pl → t.length < a + n →
  ∃ p, iter (g_2c.b0 t) ((a : Int), out, pl, frm, cs, 0) = some (match sqz t n a out frm own cs with | .error e => .inr ([], [], [], [], e) | .ok r => .inl ((t.length : Int), r.1, p, r.2.1, r.2.2.2, 0))
 | 0, a, out, frm, own, cs, pl, h, hr, hn => absurd h.la (by omega)
 | n + 1, a, out, frm, own, cs, pl, h, hr, hn => by
  unfold sqz
  by_cases ha : a < t.length
  ·rw [if_pos ha]
   have key := ref_step h hr ha
   cases hs : stp t a out own frm with
   | error e =>
    rw [hs] at key
    exact ⟨[], iter_stop key⟩
   | ok r =>
    obtain ⟨a', o, w, c⟩ := r
    rw [hs] at key
    obtain ⟨p, hp, key⟩ := key
    obtain ⟨k1, k2, _⟩ := stp_fine h ha hs
    simp only
    rw [iter_next key]
    exact ref_iter n a' _ _ _ _ _ k2 (hr.app hp) (by omega)
  ·rw [if_neg ha]
   have := h.la
   rw [show a = t.length by omega]
   exact ⟨pl, iter_stop (by
    unfold g_2c.b0
    rw [if_neg (by simp)])⟩
theorem refSqueezed_f {t : List UInt8} (ht : t.length < 10000) : ∃ p, g_2c.f t = some (match SQ t with | .error e => ([], [], [], [], e) | .ok r => (r.1, p, r.2.1, r.2.2.2, 0)) := by
 unfold g_2c.f SQ
 rw [refTextErr_f t ht, Option.bind_some]
 by_cases h : tErr t = 0
 ·have hl : t.length ≤ 1320 := by
   unfold tErr at h
   split at h
   ·cases h
   ·omega
  rw [if_neg (by simp [h]), if_neg (by simp [h])]
  obtain ⟨p, this⟩ := ref_iter (t := t) (t.length + 1) 0 [] [] [] [] [] ⟨by omega, by omega, Nat.le_refl _, rfl, rfl, Nat.le_refl _⟩ Rel.nil (by omega)
  refine ⟨p, ?_⟩
  show Option.bind (iter (g_2c.b0 t) (((0 : Nat) : Int), _)) _ = _
  rw [this, Option.bind_some]
  cases sqz t (t.length + 1) 0 [] [] [] [] <;> rfl
 ·rw [if_pos (by simp [h]), if_pos (by simp [h])]
  exact ⟨[], rfl⟩
end Go.Proofs.YtcafgoomipkljaaGreatDoorAi
namespace Go.Proofs.YtcafgoomipkljaaGreatDoorAi
open Go Go.RowKit
set_option linter.unusedVariables false
set_option linter.unusedSimpArgs false
theorem before_fix : ∀ (l : List Int) (n : Nat), l.length < 1000000 → fixN (fun self (x : List Int × List Int) => g_0.F self x.1 x.2) n (l, l) = if n ≤ l.length then none else some false
 | l, 0, h => by rw [if_pos (Nat.zero_le _)]; rfl
 | [], n + 1, h => by rw [if_neg (by simp)]; rfl
 | x :: l, n + 1, h => by
  have ih := before_fix l n (by simp at h; omega)
  show g_0.F (fixN (fun self (x : List Int × List Int) => g_0.F self x.1 x.2) n) (x :: l) (x :: l) = _
  generalize fixN (fun self (x : List Int × List Int) => g_0.F self x.1 x.2) n = f at ih ⊢
  unfold g_0.F
  have hg : gt (x :: l) (0 : Int) = x := rfl
  have hm : mid (x :: l) (1 : Int) (((x :: l).length : Nat) : Int) = l := by
   rw [show (1 : Int) = ((1 : Nat) : Int) from rfl, mid_all]; rfl
  have hlen : ((x :: l).length : Int) = (l.length : Int) + 1 := by simp
  have c1 : 0 ≤ (0 : Int) ∧ (0 : Int) < ((x :: l).length : Int) := ⟨Int.le_refl _, by omega⟩
  have c2 : 0 ≤ (1 : Int) ∧ (1 : Int) ≤ ((x :: l).length : Int) ∧ ((x :: l).length : Int) ≤ ((x :: l).length : Int) := ⟨by omega, by omega, Int.le_refl _⟩
  rw [if_neg (by simp; omega)]
  simp only [if_pos c1, if_pos c2, hg, hm, ih]
  rw [if_neg (by simp), if_pos (by simp)]
  by_cases hn : n ≤ l.length
  ·rw [if_pos hn, if_pos (by simp; omega)]; rfl
  ·rw [if_neg hn, if_neg (by simp; omega)]; rfl
theorem before_same (l : List Int) (h : l.length < 1000000) : g_0.f l l = some false := by
 unfold g_0.f
 refine fixO_of (l.length + 1) (fun n hn => ?_) fun n r hr k => ?_
 ·rw [before_fix l n h, if_neg (by omega)]
 ·rw [before_fix l n h] at hr
  rw [before_fix l (n + k) h]
  split at hr
  ·cases hr
  ·rw [if_neg (by omega)]; exact hr
theorem ints_same (l : List Int) (h : l.length < 1000000) : g_2.f l l = some true := by
 unfold g_2.f
 rw [if_pos (by simp), before_same l h]
 simp
theorem sqz_len {t : List UInt8} : ∀ (n a : Nat) (out : List UInt8) (frm : List Int) (own : List Bool) (cs : List (Int × Int)) (r : List UInt8 × List Int × List Bool × List (Int × Int)), Fine t a out frm own cs → sqz t n a out frm own cs = .ok r → r.1.length ≤ t.length ∧ r.2.1.length = r.1.length ∧ r.2.2.1.length = r.1.length ∧ r.2.2.2.length ≤ t.length
 | 0, a, out, frm, own, cs, r, hf, h => by
  simp only [sqz, Except.ok.injEq] at h
  subst h
  exact ⟨Nat.le_trans hf.lo hf.la, hf.lf, hf.lw, Nat.le_trans hf.lc hf.la⟩
 | n + 1, a, out, frm, own, cs, r, hf, h => by
  unfold sqz at h
  split at h
  ·rename_i ha
   split at h
   ·cases h
   ·rename_i a' o w c hs
    exact sqz_len n a' _ _ _ _ r (stp_fine hf ha hs).2.1 h
  ·simp only [Except.ok.injEq] at h
   subst h
   exact ⟨Nat.le_trans hf.lo hf.la, hf.lf, hf.lw, Nat.le_trans hf.lc hf.la⟩
theorem SQ_len {t : List UInt8} {r : List UInt8 × List Int × List Bool × List (Int × Int)} (h : SQ t = .ok r) : t.length ≤ 1320 ∧ r.1.length ≤ t.length ∧ r.2.1.length = r.1.length ∧ r.2.2.1.length = r.1.length ∧ r.2.2.2.length ≤ t.length := by
 unfold SQ at h
 split at h
 ·cases h
 ·rename_i h0
  have hl : t.length ≤ 1320 := by
   unfold tErr at h0
   split at h0
   ·exact absurd (by decide) h0
   ·omega
  exact ⟨hl, sqz_len _ _ _ _ _ _ r ⟨by omega, Nat.zero_le _, Nat.le_refl _, rfl, rfl, Nat.le_refl _⟩ h⟩
end Go.Proofs.YtcafgoomipkljaaGreatDoorAi
namespace Go.Proofs.YtcafgoomipkljaaGreatDoorAi
open Go Go.RowKit
set_option maxRecDepth 100000
theorem awake_t : g_2a.f = some true := by kernel_rfl
end Go.Proofs.YtcafgoomipkljaaGreatDoorAi
namespace Go.Proofs.YtcafgoomipkljaaGreatDoorAi
open Go Go.RowKit
set_option linter.unusedVariables false
set_option linter.unusedSimpArgs false
def InT (len : Nat) (cs : List (Int × Int)) : Prop := ∀ c ∈ cs, ∃ i n : Nat, c = ((i : Int), ((i + n : Nat) : Int)) ∧ i + n ≤ len
def LtA (a : Nat) (frm : List Int) : Prop := ∀ x ∈ frm, ∃ i : Nat, x = (i : Int) ∧ i < a
theorem LtA_rng {a b : Nat} : ∀ n, a + n ≤ b → LtA b (rng a n)
 | 0, _ => fun x hx => by simp [rng] at hx
 | n + 1, h => fun x hx => by
  simp only [rng, List.mem_cons] at hx
  rcases hx with rfl | hx
  ·exact ⟨a, rfl, by omega⟩
  ·exact LtA_rng (a := a + 1) n (by omega) x hx
theorem LtA.mono {a b : Nat} {l : List Int} (h : LtA a l) (hab : a ≤ b) : LtA b l := fun x hx => by
 obtain ⟨i, h1, h2⟩ := h x hx
 exact ⟨i, h1, by omega⟩
theorem LtA.app {a : Nat} {l m : List Int} (h : LtA a l) (k : LtA a m) : LtA a (l ++ m) := fun x hx => by
 rcases List.mem_append.1 hx with q | q
 ·exact h x q
 ·exact k x q
theorem InT.app {a : Nat} {l m : List (Int × Int)} (h : InT a l) (k : InT a m) : InT a (l ++ m) := fun x hx => by
 rcases List.mem_append.1 hx with q | q
 ·exact h x q
 ·exact k x q
theorem stp_in {t : List UInt8} {a : Nat} {out : List UInt8} {frm : List Int} {own : List Bool} {cs : List (Int × Int)} (h : Fine t a out frm own cs) (hl : LtA a frm) (ha : a < t.length) {a' : Nat} {o : List UInt8} {w : List Bool} {c : List (Int × Int)} (hs : stp t a out own frm = .ok (a', o, w, c)) :
  InT t.length c ∧ a + o.length ≤ a' := by
 obtain ⟨h1, h2, h3, h4, h5, h6⟩ := h
 have none_ : InT t.length [] := fun x hx => by cases hx
 unfold stp at hs
 simp only at hs
 split at hs
 ·split at hs
  ·cases hs
  ·rename_i n hn
   obtain ⟨hn, _, _⟩ := List.findIdx?_eq_some_iff_getElem.1 hn
   rw [List.length_drop] at hn
   simp only [Except.ok.injEq, Prod.mk.injEq] at hs
   obtain ⟨rfl, rfl, rfl, rfl⟩ := hs
   rw [piece_len (by omega)]
   refine ⟨fun x hx => ?_, by omega⟩
   rw [List.mem_singleton] at hx
   exact ⟨a, n + 2, hx, by omega⟩
 ·split at hs
  ·rename_i b hb
   have hb' : hol out own = some b := by
    split at hb
    ·exact hb
    ·cases hb
   obtain ⟨k1, _, _⟩ := hol_some hb'
   split at hs
   ·cases hs
   ·split at hs
    ·cases hs
    ·simp only [Except.ok.injEq, Prod.mk.injEq] at hs
     obtain ⟨rfl, rfl, rfl, rfl⟩ := hs
     rw [List.length_cons, piece_len (by omega)]
     refine ⟨fun x hx => ?_, by omega⟩
     rw [List.mem_singleton] at hx
     have hm : frm.getD b default ∈ frm := by
      rw [List.getD_eq_getElem?_getD, List.getElem?_eq_getElem (by omega)]
      exact List.getElem_mem _
     obtain ⟨i, e1, e2⟩ := hl _ hm
     generalize valL 0 (out.drop b) = v at *
     exact ⟨i, a + 1 + v - i, by rw [hx, e1, show i + (a + 1 + v - i) = a + 1 + v by omega], by omega⟩
  ·split at hs
   ·simp only [Except.ok.injEq, Prod.mk.injEq] at hs
    obtain ⟨rfl, rfl, rfl, rfl⟩ := hs
    exact ⟨none_, by simp⟩
   ·simp only [Except.ok.injEq, Prod.mk.injEq] at hs
    obtain ⟨rfl, rfl, rfl, rfl⟩ := hs
    exact ⟨none_, by simp⟩
theorem sqz_in {t : List UInt8} : ∀ (n a : Nat) (out : List UInt8) (frm : List Int) (own : List Bool) (cs : List (Int × Int)) (r : List UInt8 × List Int × List Bool × List (Int × Int)), Fine t a out frm own cs → LtA a frm → InT t.length cs → sqz t n a out frm own cs = .ok r → InT t.length r.2.2.2
 | 0, a, out, frm, own, cs, r, hf, hl, hi, h => by
  simp only [sqz, Except.ok.injEq] at h
  subst h
  exact hi
 | n + 1, a, out, frm, own, cs, r, hf, hl, hi, h => by
  unfold sqz at h
  split at h
  ·rename_i ha
   split at h
   ·cases h
   ·rename_i a' o w c hs
    obtain ⟨k1, k2⟩ := stp_in hf hl ha hs
    obtain ⟨k3, k4, _⟩ := stp_fine hf ha hs
    exact sqz_in n a' _ _ _ _ r k4 ((hl.mono (by omega)).app (LtA_rng o.length k2)) (hi.app k1) h
  ·simp only [Except.ok.injEq] at h
   subst h
   exact hi
theorem SQ_in {t : List UInt8} {r : List UInt8 × List Int × List Bool × List (Int × Int)} (h : SQ t = .ok r) : InT t.length r.2.2.2 := by
 unfold SQ at h
 split at h
 ·cases h
 ·rename_i h0
  have hl : t.length ≤ 1320 := by
   unfold tErr at h0
   split at h0
   ·exact absurd (by decide) h0
   ·omega
  exact sqz_in _ _ _ _ _ _ r ⟨by omega, Nat.zero_le _, Nat.le_refl _, rfl, rfl, Nat.le_refl _⟩ (fun x hx => by cases hx) (fun x hx => by cases hx) h
def mark1 (l : List Bool) (i : Nat) : Nat → List Bool
 | 0 => l
 | n + 1 => mark1 (l.set i true) (i + 1) n
theorem mark1_len : ∀ (n i : Nat) (l : List Bool), (mark1 l i n).length = l.length
 | 0, _, _ => rfl
 | n + 1, i, l => by unfold mark1; rw [mark1_len n, List.length_set]
def mks : List (Int × Int) → List Bool → List Bool
 | [], l => l
 | c :: cs, l => mks cs (mark1 l c.1.toNat (c.2 - c.1).toNat)
theorem mks_len : ∀ (cs : List (Int × Int)) (l : List Bool), (mks cs l).length = l.length
 | [], _ => rfl
 | c :: cs, l => by unfold mks; rw [mks_len cs, mark1_len]
def CS (t : List UInt8) : List (Int × Int) := match SQ t with | .error _ => [] | .ok r => r.2.2.2
theorem CS_in (t : List UInt8) : (CS t).length < 100000 ∧ InT t.length (CS t) := by
 unfold CS
 cases h : SQ t with
 | error e => exact ⟨by simp, fun x hx => by cases hx⟩
 | ok r => exact ⟨by have := SQ_len h; simp only; omega, SQ_in h⟩
theorem CS_f (t : List UInt8) : ∃ y, g_2t.f t = some y ∧ y.1 = CS t := by
 rw [ConstantsIn_f]
 unfold CS
 cases SQ t <;> exact ⟨_, rfl, rfl⟩
theorem CS_ref {t : List UInt8} (ht : t.length < 10000) : ∃ y, g_2c.f t = some y ∧ y.2.2.2.1 = CS t := by
 obtain ⟨p, hp⟩ := refSqueezed_f (t := t) ht
 rw [hp]
 unfold CS
 cases SQ t <;> exact ⟨_, rfl, rfl⟩
def MK (t : List UInt8) : List Bool := mks (CS t) (List.replicate t.length false)
theorem MK_len (t : List UInt8) : (MK t).length = t.length := by unfold MK; rw [mks_len, List.length_replicate]
theorem mark_iter {body : List Bool × Int → Option ((List Bool × Int) ⊕ (List Bool × Int))} {j len : Nat} (hj : j ≤ len) (hn : ∀ (l : List Bool) (k : Nat), k < j → l.length = len → body (l, (k : Int)) = some (.inl (l.set k true, ((k + 1 : Nat) : Int)))) (hs : ∀ l, body (l, (j : Int)) = some (.inr (l, (j : Int)))) :
  ∀ (n i : Nat) (l : List Bool), i + n = j → l.length = len → iter body (l, (i : Int)) = some (mark1 l i n, (j : Int))
 | 0, i, l, h, hl => by
  rw [show i = j by omega]
  exact iter_stop (hs l)
 | n + 1, i, l, h, hl => by
  rw [iter_next (hn l i (by omega) hl)]
  exact mark_iter hj hn hs n (i + 1) _ (by omega) (by rw [List.length_set]; exact hl)
theorem marks_iter {body : List Bool × Int → Option ((List Bool × Int) ⊕ (List Bool × Int))} {cs : List (Int × Int)} {len : Nat}
  (hn : ∀ (l : List Bool) (k i n : Nat), k < cs.length → gt cs (k : Int) = ((i : Int), ((i + n : Nat) : Int)) → i + n ≤ len → l.length = len → body (l, (k : Int)) = some (.inl (mark1 l i n, ((k + 1 : Nat) : Int))))
  (hs : ∀ l, body (l, (cs.length : Int)) = some (.inr (l, (cs.length : Int)))) (hi : InT len cs) :
  ∀ (d k : Nat) (l : List Bool), k + d = cs.length → l.length = len → iter body (l, (k : Int)) = some (mks (cs.drop k) l, (cs.length : Int))
 | 0, k, l, h, hl => by
  rw [show k = cs.length by omega, List.drop_length]
  exact iter_stop (hs l)
 | d + 1, k, l, h, hl => by
  have hk : k < cs.length := by omega
  obtain ⟨i, n, e1, e2⟩ := hi cs[k] (List.getElem_mem hk)
  have hg : gt cs (k : Int) = ((i : Int), ((i + n : Nat) : Int)) := by
   rw [gt_nat, List.getD_eq_getElem?_getD, List.getElem?_eq_getElem hk]; exact e1
  rw [iter_next (hn l k i n hk hg e2 hl), marks_iter hn hs hi d (k + 1) _ (by omega) (by rw [mark1_len]; exact hl), List.drop_eq_getElem_cons hk]
  show _ = some (mks (cs.drop (k + 1)) (mark1 l cs[k].1.toNat (cs[k].2 - cs[k].1).toNat), _)
  rw [e1]
  simp only
  rw [Int.toNat_natCast, show (((i + n : Nat) : Int) - (i : Int)).toNat = n by omega]
theorem constants_f {t : List UInt8} (ht : t.length < 10000) : g_f.f t = some (MK t) := by
 unfold g_f.f MK
 obtain ⟨y, hf, hy⟩ := CS_f t
 obtain ⟨hc, hi⟩ := CS_in t
 rw [if_pos ⟨by omega, by omega⟩, hf, Option.bind_some]
 generalize CS t = cs at *
 have := marks_iter (body := g_f.b0 y) (cs := cs) (len := t.length) (fun l k i n hk hg hb hl => by
  unfold g_f.b0
  rw [hy]
  simp only [hg]
  rw [if_pos (decide_eq_true (by omega)), if_pos ⟨by omega, by omega⟩, mark_iter (j := i + n) hb (fun l k' hk' hl' => by
   unfold g_f.b1
   rw [hy]
   simp only [hg]
   rw [if_pos (decide_eq_true (by omega)), if_pos ⟨by omega, by omega⟩, w64_id (by omega) (by omega)]
   rfl) (fun l => by
   unfold g_f.b1
   rw [hy]
   simp only [hg]
   rw [if_neg (by simp)]) n i l rfl hl, Option.bind_some, w64_id (by omega) (by omega)]
  rfl) (fun l => by
  unfold g_f.b0
  rw [hy, if_neg (by simp)]) hi cs.length 0 (List.replicate t.length false) (by omega) (by simp)
 rw [Int.toNat_natCast]
 show Option.bind (iter (g_f.b0 y) (_, ((0 : Nat) : Int))) _ = _
 rw [this]; rfl
theorem marked_f {t : List UInt8} (ht : t.length < 10000) : g_2l.f t = some (MK t) := by
 unfold g_2l.f MK
 obtain ⟨y, hf, hy⟩ := CS_ref ht
 obtain ⟨hc, hi⟩ := CS_in t
 rw [if_pos ⟨by omega, by omega⟩, hf, Option.bind_some]
 generalize CS t = cs at *
 have := marks_iter (body := g_2l.b0 y) (cs := cs) (len := t.length) (fun l k i n hk hg hb hl => by
  unfold g_2l.b0
  rw [hy]
  simp only [hg]
  rw [if_pos (decide_eq_true (by omega)), if_pos ⟨by omega, by omega⟩, mark_iter (j := i + n) hb (fun l k' hk' hl' => by
   unfold g_2l.b1
   rw [hy]
   simp only [hg]
   rw [if_pos ⟨by omega, by omega⟩, if_pos (decide_eq_true (by omega)), if_pos ⟨by omega, by omega⟩, w64_id (by omega) (by omega)]
   rfl) (fun l => by
   unfold g_2l.b1
   rw [hy]
   simp only [hg]
   rw [if_pos ⟨by omega, by omega⟩, if_neg (by simp)]) n i l rfl hl, Option.bind_some, w64_id (by omega) (by omega)]
  rfl) (fun l => by
  unfold g_2l.b0
  rw [hy, if_neg (by simp)]) hi cs.length 0 (List.replicate t.length false) (by omega) (by simp)
 rw [Int.toNat_natCast]
 show Option.bind (iter (g_2l.b0 y) (_, ((0 : Nat) : Int))) _ = _
 rw [this]; rfl
end Go.Proofs.YtcafgoomipkljaaGreatDoorAi
namespace Go.Proofs.YtcafgoomipkljaaGreatDoorAi
open Go Go.RowKit
set_option linter.unusedVariables false
set_option linter.unusedSimpArgs false
def lvl : List (Bool × UInt8) → Int → List Int
 | [], _ => []
 | (m, c) :: r, n => if m = true then -1 :: lvl r n else (if c = 41 then n - 1 else n) :: lvl r (if c = 40 then (if c = 41 then n - 1 else n) + 1 else (if c = 41 then n - 1 else n))
theorem lvl_len : ∀ (z : List (Bool × UInt8)) (n : Int), (lvl z n).length = z.length
 | [], _ => rfl
 | (m, c) :: r, n => by
  unfold lvl
  split <;> rw [List.length_cons, List.length_cons, lvl_len r]
def ZZ (t : List UInt8) : List (Bool × UInt8) := (MK t).zip t
theorem ZZ_len (t : List UInt8) : (ZZ t).length = t.length := by unfold ZZ; rw [List.length_zip, MK_len]; omega
theorem ZZ_drop {t : List UInt8} {k : Nat} (hk : k < t.length) : (ZZ t).drop k = ((MK t).getD k default, t.getD k default) :: (ZZ t).drop (k + 1) := by
 have h1 : k < (ZZ t).length := by rw [ZZ_len]; exact hk
 have h2 : k < (MK t).length := by rw [MK_len]; exact hk
 rw [List.drop_eq_getElem_cons h1]
 congr 1
 have : (ZZ t)[k] = ((MK t)[k], t[k]) := by simp [ZZ]
 rw [this, List.getD_eq_getElem?_getD, List.getD_eq_getElem?_getD, List.getElem?_eq_getElem h2, List.getElem?_eq_getElem hk]
 rfl
theorem app1 {α : Type} (l : List α) (x : α) (r : List α) : (l ++ [x]) ++ r = l ++ x :: r := by simp
theorem levels_iter {t : List UInt8} (ht : t.length < 10000) : ∀ (d k : Nat) (acc : List Int) (n : Int), k + d = t.length → acc.length = k → -(k : Int) ≤ n → n ≤ k →
  ∃ n', iter (g_j.b0 t (MK t)) (acc, n, (k : Int)) = some (acc ++ lvl ((ZZ t).drop k) n, n', (t.length : Int))
 | 0, k, acc, n, h, ha, h1, h2 => by
  have e : (ZZ t).drop k = [] := by rw [List.drop_eq_nil_iff, ZZ_len]; omega
  rw [e, show k = t.length by omega]
  exact ⟨n, iter_stop (by unfold g_j.b0; rw [MK_len, if_neg (by simp)]; simp [lvl])⟩
 | d + 1, k, acc, n, h, ha, h1, h2 => by
  rw [ZZ_drop (by omega)]
  have hk : 0 ≤ (k : Int) ∧ (k : Int) < (t.length : Int) := ⟨by omega, by omega⟩
  have ih := levels_iter ht d (k + 1)
  unfold lvl
  cases hm : (MK t).getD k default
  ·have e41 : ((41 : UInt8).toNat : Int) = (41 : UInt8).toNat := rfl
   have key : g_j.b0 t (MK t) (acc, n, (k : Int)) = some (.inl (acc ++ [if t.getD k default = 41 then n - 1 else n], (if t.getD k default = 40 then (if t.getD k default = 41 then n - 1 else n) + 1 else (if t.getD k default = 41 then n - 1 else n)), ((k + 1 : Nat) : Int))) := by
    unfold g_j.b0
    simp only [MK_len, gt_nat, u8eq]
    rw [if_pos (decide_eq_true hk.2), if_pos hk, hm, if_neg (by decide), if_pos hk]
    by_cases c41 : t.getD k default = 41
    ·rw [if_pos (decide_eq_true c41), Option.bind_some, if_pos (by simp only [List.length_cons, List.length_nil]; omega), if_pos hk, if_pos c41, c41, if_neg (by decide), if_neg (by decide), w64_id (by omega) (by omega), w64_id (by omega) (by omega)]
     rfl
    ·rw [if_neg (by simpa using c41), Option.bind_some, if_pos (by simp only [List.length_cons, List.length_nil]; omega), if_pos hk, if_neg c41]
     by_cases c40 : t.getD k default = 40
     ·rw [if_pos (decide_eq_true c40), if_pos c40, w64_id (by omega) (by omega), w64_id (by omega) (by omega)]
      rfl
     ·rw [if_neg (by simpa using c40), if_neg c40, w64_id (by omega) (by omega)]
      rfl
   rw [if_neg (by decide)]
   obtain ⟨n', h'⟩ := ih (acc ++ [if t.getD k default = 41 then n - 1 else n]) (if t.getD k default = 40 then (if t.getD k default = 41 then n - 1 else n) + 1 else (if t.getD k default = 41 then n - 1 else n)) (by omega) (by simp; omega) (by split <;> split <;> omega) (by split <;> split <;> omega)
   exact ⟨n', by rw [iter_next key, h', app1]⟩
  ·have key : g_j.b0 t (MK t) (acc, n, (k : Int)) = some (.inl (acc ++ [-1], n, ((k + 1 : Nat) : Int))) := by
    unfold g_j.b0
    simp only [MK_len, gt_nat, u8eq]
    rw [if_pos (decide_eq_true hk.2), if_pos hk, hm, if_pos rfl, if_pos (by simp only [List.length_cons, List.length_nil]; omega), w64_id (by omega) (by omega)]
    rfl
   rw [if_pos rfl]
   obtain ⟨n', h'⟩ := ih (acc ++ [-1]) n (by omega) (by simp; omega) (by omega) (by omega)
   exact ⟨n', by rw [iter_next key, h', app1]⟩
def LV (t : List UInt8) : List Int := lvl (ZZ t) 0
theorem LV_len (t : List UInt8) : (LV t).length = t.length := by unfold LV; rw [lvl_len, ZZ_len]
theorem levels_f {t : List UInt8} (ht : t.length < 10000) : g_j.f t = some (LV t) := by
 unfold g_j.f
 rw [constants_f ht, Option.bind_some]
 obtain ⟨n', h⟩ := levels_iter ht t.length 0 [] 0 (by omega) rfl (by omega) (by omega)
 show Option.bind (iter (g_j.b0 t (MK t)) (([] : List Int), (0 : Int), ((0 : Nat) : Int))) _ = _
 rw [h]; rfl
theorem refLevels_iter {t : List UInt8} (ht : t.length < 10000) : ∀ (d k : Nat) (acc : List Int) (n : Int), k + d = t.length → acc.length = k → -(k : Int) ≤ n → n ≤ k →
  ∃ n', iter (g_2k.b0 t (MK t)) (acc, n, (k : Int)) = some (acc ++ lvl ((ZZ t).drop k) n, n', (t.length : Int))
 | 0, k, acc, n, h, ha, h1, h2 => by
  have e : (ZZ t).drop k = [] := by rw [List.drop_eq_nil_iff, ZZ_len]; omega
  rw [e, show k = t.length by omega]
  exact ⟨n, iter_stop (by unfold g_2k.b0; rw [if_neg (by simp)]; simp [lvl])⟩
 | d + 1, k, acc, n, h, ha, h1, h2 => by
  rw [ZZ_drop (by omega)]
  have hk : 0 ≤ (k : Int) ∧ (k : Int) < (t.length : Int) := ⟨by omega, by omega⟩
  have ih := refLevels_iter ht d (k + 1)
  unfold lvl
  cases hm : (MK t).getD k default
  ·have key : g_2k.b0 t (MK t) (acc, n, (k : Int)) = some (.inl (acc ++ [if t.getD k default = 41 then n - 1 else n], (if t.getD k default = 40 then (if t.getD k default = 41 then n - 1 else n) + 1 else (if t.getD k default = 41 then n - 1 else n)), ((k + 1 : Nat) : Int))) := by
    unfold g_2k.b0
    simp only [MK_len, gt_nat, u8eq]
    rw [if_pos (decide_eq_true hk.2), if_pos hk, hm, if_neg (by decide), if_pos hk]
    by_cases c41 : t.getD k default = 41
    ·rw [if_pos (decide_eq_true c41), Option.bind_some, if_pos (by simp only [List.length_cons, List.length_nil]; omega), if_pos hk, if_pos c41, c41, if_neg (by decide), if_neg (by decide), w64_id (by omega) (by omega), w64_id (by omega) (by omega)]
     rfl
    ·rw [if_neg (by simpa using c41), Option.bind_some, if_pos (by simp only [List.length_cons, List.length_nil]; omega), if_pos hk, if_neg c41]
     by_cases c40 : t.getD k default = 40
     ·rw [if_pos (decide_eq_true c40), if_pos c40, w64_id (by omega) (by omega), w64_id (by omega) (by omega)]
      rfl
     ·rw [if_neg (by simpa using c40), if_neg c40, w64_id (by omega) (by omega)]
      rfl
   rw [if_neg (by decide)]
   obtain ⟨n', h'⟩ := ih (acc ++ [if t.getD k default = 41 then n - 1 else n]) (if t.getD k default = 40 then (if t.getD k default = 41 then n - 1 else n) + 1 else (if t.getD k default = 41 then n - 1 else n)) (by omega) (by simp; omega) (by split <;> split <;> omega) (by split <;> split <;> omega)
   exact ⟨n', by rw [iter_next key, h', app1]⟩
  ·have key : g_2k.b0 t (MK t) (acc, n, (k : Int)) = some (.inl (acc ++ [-1], n, ((k + 1 : Nat) : Int))) := by
    unfold g_2k.b0
    simp only [MK_len, gt_nat, u8eq]
    rw [if_pos (decide_eq_true hk.2), if_pos hk, hm, if_pos rfl, if_pos (by simp only [List.length_cons, List.length_nil]; omega), Option.bind_some, w64_id (by omega) (by omega)]
    rfl
   rw [if_pos rfl]
   obtain ⟨n', h'⟩ := ih (acc ++ [-1]) n (by omega) (by simp; omega) (by omega) (by omega)
   exact ⟨n', by rw [iter_next key, h', app1]⟩
theorem refLevels_f {t : List UInt8} (ht : t.length < 10000) : g_2k.f t = some (LV t) := by
 unfold g_2k.f
 rw [marked_f ht, Option.bind_some]
 obtain ⟨n', h⟩ := refLevels_iter ht t.length 0 [] 0 (by omega) rfl (by omega) (by omega)
 show Option.bind (iter (g_2k.b0 t (MK t)) (([] : List Int), (0 : Int), ((0 : Nat) : Int))) _ = _
 rw [h]; rfl
def chk : List (Bool × UInt8) → Nat → List Int → Int ⊕ List Int
 | [], _, o => .inr o
 | (m, c) :: r, k, o => if m = true then chk r (k + 1) o else if c = 40 then chk r (k + 1) (o ++ [(k : Int)]) else if c = 41 then (if o = [] then .inl (k : Int) else chk r (k + 1) o.dropLast) else chk r (k + 1) o
theorem mid_init (l : List Int) (h : l ≠ []) (hl : l.length < 1000000) : (0 ≤ (0 : Int) ∧ (0 : Int) ≤ (w64 ((l.length : Int) - 1)) ∧ (w64 ((l.length : Int) - 1)) ≤ (l.length : Int)) ∧ mid l (0 : Int) (w64 ((l.length : Int) - 1)) = l.dropLast := by
 have h0 : 0 < l.length := List.length_pos_iff.2 h
 have hw : w64 ((l.length : Int) - 1) = ((l.length - 1 : Nat) : Int) := by rw [w64_id] <;> omega
 rw [hw]
 refine ⟨⟨by omega, by omega, by omega⟩, ?_⟩
 unfold mid
 rw [Int.toNat_natCast, List.dropLast_eq_take]
 rfl
theorem chk_iter {t : List UInt8} (ht : t.length < 10000) : ∀ (d k : Nat) (o : List Int), k + d = t.length → o.length ≤ k →
  iter (g_7.b1 t (MK t)) (o, (k : Int)) = some (match chk ((ZZ t).drop k) k o with | .inl i => .inr (i, 10) | .inr o' => .inl (o', (t.length : Int)))
 | 0, k, o, h, ho => by
  have e : (ZZ t).drop k = [] := by rw [List.drop_eq_nil_iff, ZZ_len]; omega
  rw [e, show k = t.length by omega]
  exact iter_stop (by unfold g_7.b1; rw [MK_len, if_neg (by simp)]; rfl)
 | d + 1, k, o, h, ho => by
  rw [ZZ_drop (by omega)]
  have hk : 0 ≤ (k : Int) ∧ (k : Int) < (t.length : Int) := ⟨by omega, by omega⟩
  have ih := chk_iter ht d (k + 1)
  have hw : w64 ((k : Int) + 1) = ((k + 1 : Nat) : Int) := by rw [w64_id] <;> omega
  unfold chk
  have key : g_7.b1 t (MK t) (o, (k : Int)) = if (MK t).getD k default = true then some (.inl (o, ((k + 1 : Nat) : Int))) else if t.getD k default = 40 then some (.inl (o ++ [(k : Int)], ((k + 1 : Nat) : Int))) else if t.getD k default = 41 then (if o = [] then some (.inr (.inr ((k : Int), 10))) else some (.inl (o.dropLast, ((k + 1 : Nat) : Int)))) else some (.inl (o, ((k + 1 : Nat) : Int))) := by
   unfold g_7.b1
   simp only [MK_len, gt_nat, u8eq, hw]
   rw [if_pos (decide_eq_true hk.2), if_pos hk]
   cases (MK t).getD k default
   ·rw [if_neg (show ¬ (false = true) by decide), if_neg (show ¬ (false = true) by decide), if_pos hk]
    by_cases c40 : t.getD k default = 40
    ·rw [if_pos (decide_eq_true c40), if_pos c40, if_pos (by simp only [List.length_cons, List.length_nil]; omega)]
    ·rw [if_neg (by simpa using c40), if_neg c40, if_pos hk]
     by_cases c41 : t.getD k default = 41
     ·rw [if_pos (decide_eq_true c41), if_pos c41]
      by_cases h0 : o = []
      ·rw [if_pos h0, if_pos (by simp [h0])]
      ·obtain ⟨g1, g2⟩ := mid_init o h0 (by omega)
       have := List.length_pos_iff.2 h0
       rw [if_neg h0, if_neg (by simp; omega), if_pos g1, g2]
     ·rw [if_neg (by simpa using c41), if_neg c41]
   ·rw [if_pos rfl, if_pos rfl]
  cases hm : (MK t).getD k default
  ·rw [hm, if_neg (by decide)] at key
   rw [if_neg (by decide)]
   by_cases c40 : t.getD k default = 40
   ·rw [if_pos c40] at key ⊢
    rw [iter_next key, ih _ (by omega) (by simp; omega)]
   ·rw [if_neg c40] at key ⊢
    by_cases c41 : t.getD k default = 41
    ·rw [if_pos c41] at key ⊢
     by_cases h0 : o = []
     ·rw [if_pos h0] at key ⊢
      rw [iter_stop key]
     ·rw [if_neg h0] at key ⊢
      rw [iter_next key, ih _ (by omega) (by rw [List.length_dropLast]; omega)]
    ·rw [if_neg c41] at key ⊢
     rw [iter_next key, ih _ (by omega) (by omega)]
  ·rw [hm, if_pos rfl] at key
   rw [if_pos rfl, iter_next key, ih _ (by omega) (by omega)]
theorem refChk_iter {t : List UInt8} (ht : t.length < 10000) : ∀ (d k : Nat) (o : List Int), k + d = t.length → o.length ≤ k →
  iter (g_2j.b1 t (MK t)) (o, (k : Int)) = some (match chk ((ZZ t).drop k) k o with | .inl i => .inr (i, 10) | .inr o' => .inl (o', (t.length : Int)))
 | 0, k, o, h, ho => by
  have e : (ZZ t).drop k = [] := by rw [List.drop_eq_nil_iff, ZZ_len]; omega
  rw [e, show k = t.length by omega]
  exact iter_stop (by unfold g_2j.b1; rw [if_neg (by simp)]; rfl)
 | d + 1, k, o, h, ho => by
  rw [ZZ_drop (by omega)]
  have hk : 0 ≤ (k : Int) ∧ (k : Int) < (t.length : Int) := ⟨by omega, by omega⟩
  have ih := refChk_iter ht d (k + 1)
  have hw : w64 ((k : Int) + 1) = ((k + 1 : Nat) : Int) := by rw [w64_id] <;> omega
  unfold chk
  have key : g_2j.b1 t (MK t) (o, (k : Int)) = if (MK t).getD k default = true then some (.inl (o, ((k + 1 : Nat) : Int))) else if t.getD k default = 40 then some (.inl (o ++ [(k : Int)], ((k + 1 : Nat) : Int))) else if t.getD k default = 41 then (if o = [] then some (.inr (.inr ((k : Int), 10))) else some (.inl (o.dropLast, ((k + 1 : Nat) : Int)))) else some (.inl (o, ((k + 1 : Nat) : Int))) := by
   unfold g_2j.b1
   simp only [MK_len, gt_nat, u8eq, hw]
   rw [if_pos (decide_eq_true hk.2), if_pos hk]
   cases (MK t).getD k default
   ·rw [if_neg (show ¬ (false = true) by decide), if_neg (show ¬ (false = true) by decide), if_pos hk]
    by_cases c40 : t.getD k default = 40
    ·rw [if_pos (decide_eq_true c40), if_pos c40, if_pos (by simp only [List.length_cons, List.length_nil]; omega), Option.bind_some, if_pos hk, if_neg (by rw [c40]; decide)]
    ·rw [if_neg (by simpa using c40), if_neg c40, Option.bind_some, if_pos hk]
     by_cases c41 : t.getD k default = 41
     ·rw [if_pos (decide_eq_true c41), if_pos c41]
      by_cases h0 : o = []
      ·rw [if_pos h0, if_pos (by simp [h0])]
      ·obtain ⟨g1, g2⟩ := mid_init o h0 (by omega)
       have := List.length_pos_iff.2 h0
       rw [if_neg h0, if_neg (by simp; omega), if_pos g1, g2]
     ·rw [if_neg (by simpa using c41), if_neg c41]
   ·rw [if_pos rfl, if_pos rfl]
  cases hm : (MK t).getD k default
  ·rw [hm, if_neg (by decide)] at key
   rw [if_neg (by decide)]
   by_cases c40 : t.getD k default = 40
   ·rw [if_pos c40] at key ⊢
    rw [iter_next key, ih _ (by omega) (by simp; omega)]
   ·rw [if_neg c40] at key ⊢
    by_cases c41 : t.getD k default = 41
    ·rw [if_pos c41] at key ⊢
     by_cases h0 : o = []
     ·rw [if_pos h0] at key ⊢
      rw [iter_stop key]
     ·rw [if_neg h0] at key ⊢
      rw [iter_next key, ih _ (by omega) (by rw [List.length_dropLast]; omega)]
    ·rw [if_neg c41] at key ⊢
     rw [iter_next key, ih _ (by omega) (by omega)]
  ·rw [hm, if_pos rfl] at key
   rw [if_pos rfl, iter_next key, ih _ (by omega) (by omega)]
def agr : List UInt8 → List UInt8 → Nat
 | a :: l, b :: m => if a = b then agr l m + 1 else 0
 | _, _ => 0
theorem chk_bound : ∀ (z : List (Bool × UInt8)) (k : Nat) (o o' : List Int), chk z k o = .inr o' → o'.length ≤ o.length + z.length
 | [], _, o, o', h => by simp only [chk, Sum.inr.injEq] at h; subst h; simp
 | (m, c) :: r, k, o, o', h => by
  unfold chk at h
  split at h
  ·have := chk_bound r _ _ _ h; simp; omega
  ·split at h
   ·have := chk_bound r _ _ _ h; simp at this ⊢; omega
   ·split at h
    ·split at h
     ·cases h
     ·have := chk_bound r _ _ _ h; simp at this ⊢; omega
    ·have := chk_bound r _ _ _ h; simp; omega
theorem agr_iter {t : List UInt8} (ht : t.length < 10000) (y : List UInt8 × List Int × Int) (hy : y.1.length ≤ t.length) : ∀ (d k : Nat), k + d = y.1.length →
  iter (g_7.b0 t y) (k : Int) = some ((k + agr (y.1.drop k) (t.drop k) : Nat) : Int)
 | 0, k, h => by
  rw [show k = y.1.length by omega, List.drop_length]
  have hm : (if (t.length : Int) < (y.1.length : Int) then (t.length : Int) else (y.1.length : Int)) = (y.1.length : Int) := if_neg (by omega)
  exact iter_stop (by unfold g_7.b0; rw [hm, if_neg (by simp)]; simp [agr])
 | d + 1, k, h => by
  have ih := agr_iter ht y hy d (k + 1) (by omega)
  have hm : (if (t.length : Int) < (y.1.length : Int) then (t.length : Int) else (y.1.length : Int)) = (y.1.length : Int) := if_neg (by omega)
  have key : g_7.b0 t y (k : Int) = if y.1.getD k default = t.getD k default then some (.inl ((k + 1 : Nat) : Int)) else some (.inr (k : Int)) := by
   unfold g_7.b0
   rw [hm, if_pos (decide_eq_true (by omega)), if_pos ⟨by omega, by omega⟩, if_pos ⟨by omega, by omega⟩, u8eq, gt_nat, gt_nat, w64_id (by omega) (by omega)]
   by_cases e : y.1.getD k default = t.getD k default
   ·rw [if_pos e, if_pos (decide_eq_true e)]; rfl
   ·rw [if_neg e, if_neg (by simpa using e)]
  rw [drop_getD (t := y.1) (a := k) (by omega), drop_getD (t := t) (a := k) (by omega)]
  unfold agr
  by_cases e : y.1.getD k default = t.getD k default
  ·rw [if_pos e] at key ⊢
   rw [iter_next key, ih, show k + 1 + agr (y.1.drop (k + 1)) (t.drop (k + 1)) = k + (agr (y.1.drop (k + 1)) (t.drop (k + 1)) + 1) by omega]
  ·rw [if_neg e] at key ⊢
   rw [iter_stop key]; rfl
theorem refAgr_iter {t : List UInt8} (ht : t.length < 10000) (y : List UInt8 × List UInt8 × List Int × (List (Int × Int)) × Int) (hy : y.1.length ≤ t.length) : ∀ (d k : Nat), k + d = y.1.length →
  iter (g_2j.b0 t y) (k : Int) = some ((k + agr (y.1.drop k) (t.drop k) : Nat) : Int)
 | 0, k, h => by
  rw [show k = y.1.length by omega, List.drop_length]
  exact iter_stop (by
   unfold g_2j.b0
   by_cases h : y.1.length < t.length
   ·rw [if_pos (decide_eq_true (by omega)), if_neg (by simp)]; simp [agr]
   ·rw [if_neg (by simp; omega)]; simp [agr])
 | d + 1, k, h => by
  have ih := refAgr_iter ht y hy d (k + 1) (by omega)
  have key : g_2j.b0 t y (k : Int) = if y.1.getD k default = t.getD k default then some (.inl ((k + 1 : Nat) : Int)) else some (.inr (k : Int)) := by
   unfold g_2j.b0
   rw [if_pos (decide_eq_true (by omega)), if_pos (decide_eq_true (by omega)), if_pos ⟨by omega, by omega⟩, if_pos ⟨by omega, by omega⟩, u8eq, gt_nat, gt_nat, w64_id (by omega) (by omega)]
   by_cases e : y.1.getD k default = t.getD k default
   ·rw [if_pos e, if_pos (decide_eq_true e.symm)]; rfl
   ·rw [if_neg e, if_neg (by simpa using fun q => e q.symm)]
  rw [drop_getD (t := y.1) (a := k) (by omega), drop_getD (t := t) (a := k) (by omega)]
  unfold agr
  by_cases e : y.1.getD k default = t.getD k default
  ·rw [if_pos e] at key ⊢
   rw [iter_next key, ih, show k + 1 + agr (y.1.drop (k + 1)) (t.drop (k + 1)) = k + (agr (y.1.drop (k + 1)) (t.drop (k + 1)) + 1) by omega]
  ·rw [if_neg e] at key ⊢
   rw [iter_stop key]; rfl
def CT (t : List UInt8) : Int × Int := match SQ t with
 | .error e => (0, e)
 | .ok r => if t = [] then (0, 17) else if r.1 ≠ t then ((agr r.1 t : Nat), 3) else match chk (ZZ t) 0 [] with
  | .inl i => (i, 10)
  | .inr o => if o = [] then (0, 0) else (o.getD (o.length - 1) default, 10)
theorem tail_eq {t : List UInt8} (ht : t.length < 10000) : ∀ z : Int ⊕ List Int, z = chk (ZZ t) 0 [] →
  (onSum (match z with | .inl i => (.inr (i, 10) : (List Int × Int) ⊕ (Int × Int)) | .inr o' => .inl (o', (t.length : Int))) fun y66 => (if (decide ((y66.1.length : Int) > 0)) = true then (if 0 ≤ (w64 ((y66.1.length : Int) - 1)) ∧ (w64 ((y66.1.length : Int) - 1)) < (y66.1.length : Int) then some ((gt y66.1 (w64 ((y66.1.length : Int) - 1))), (10 : Int)) else none) else some (0, 0))) =
   some (match z with | .inl i => (i, 10) | .inr o => if o = [] then (0, 0) else (o.getD (o.length - 1) default, 10)) := by
 intro z hz
 cases z with
 | inl i => rfl
 | inr o =>
  have hb := chk_bound _ _ _ _ hz.symm
  rw [ZZ_len] at hb
  simp only [List.length_nil, Nat.zero_add] at hb
  unfold onSum
  simp only
  by_cases h0 : o = []
  ·rw [if_pos h0, if_neg (by simp [h0])]
  ·have := List.length_pos_iff.2 h0
   have hw : w64 ((o.length : Int) - 1) = ((o.length - 1 : Nat) : Int) := by rw [w64_id] <;> omega
   rw [if_neg h0, if_pos (by simp; omega), hw, if_pos ⟨by omega, by omega⟩, gt_nat]
theorem CheckText_f {t : List UInt8} (ht : t.length < 10000) : g_7.f t = some (CT t) := by
 unfold g_7.f CT
 rw [Squeezed_f, Option.bind_some]
 cases hs : SQ t with
 | error e =>
  have he := SQ_err hs
  simp only
  rw [if_pos (by simpa using he)]
 | ok r =>
  obtain ⟨l1, l2, _⟩ := SQ_len hs
  simp only
  rw [if_neg (by decide)]
  by_cases h0 : t = []
  ·rw [if_pos (decide_eq_true h0), if_pos h0]
  ·rw [if_neg (by simpa using h0), if_neg h0]
   by_cases h1 : r.1 = t
   ·rw [if_neg (by simpa using h1), if_neg (by simpa using h1), constants_f ht, Option.bind_some]
    have := chk_iter ht t.length 0 [] (by omega) (by simp)
    show Option.bind (iter (g_7.b1 t (MK t)) (([] : List Int), ((0 : Nat) : Int))) _ = _
    rw [this, List.drop_zero, Option.bind_some]
    exact tail_eq ht _ rfl
   ·rw [if_pos (by simpa using h1), if_pos (by simpa using h1)]
    have := agr_iter ht (r.1, r.2.1, 0) l2 r.1.length 0 (by simp)
    show Option.bind (iter (g_7.b0 t (r.1, r.2.1, 0)) ((0 : Nat) : Int)) _ = _
    rw [this]; simp
theorem refCheckText_f {t : List UInt8} (ht : t.length < 10000) : g_2j.f t = some (CT t) := by
 unfold g_2j.f CT
 obtain ⟨p, hp⟩ := refSqueezed_f (t := t) ht
 rw [hp, Option.bind_some]
 cases hs : SQ t with
 | error e =>
  have he := SQ_err hs
  simp only
  rw [if_pos (by simpa using he)]
 | ok r =>
  obtain ⟨l1, l2, _⟩ := SQ_len hs
  simp only
  rw [if_neg (by decide)]
  by_cases h0 : t = []
  ·rw [if_pos (decide_eq_true h0), if_pos h0]
  ·rw [if_neg (by simpa using h0), if_neg h0]
   by_cases h1 : r.1 = t
   ·rw [if_neg (by simpa using h1), if_neg (by simpa using h1), marked_f ht, Option.bind_some]
    have := refChk_iter ht t.length 0 [] (by omega) (by simp)
    show Option.bind (iter (g_2j.b1 t (MK t)) (([] : List Int), ((0 : Nat) : Int))) _ = _
    rw [this, List.drop_zero, Option.bind_some]
    exact tail_eq ht _ rfl
   ·rw [if_pos (by simpa using h1), if_pos (by simpa using h1)]
    have := refAgr_iter ht (r.1, p, r.2.1, r.2.2.2, 0) l2 r.1.length 0 (by simp)
    show Option.bind (iter (g_2j.b0 t (r.1, p, r.2.1, r.2.2.2, 0)) ((0 : Nat) : Int)) _ = _
    rw [this]; simp
theorem ctErr_f {t : List UInt8} (ht : t.length < 10000) : g_23.f t = some (CT t).2 := by
 unfold g_23.f
 rw [CheckText_f ht]; rfl
theorem LevelsOf_f {t : List UInt8} (ht : t.length < 10000) : g_9.f t = some (if (CT t).2 = 0 then (LV t, 0) else ([], (CT t).2)) := by
 unfold g_9.f
 rw [ctErr_f ht, Option.bind_some, levels_f ht]
 by_cases h : (CT t).2 = 0
 ·rw [if_neg (by simpa using h), if_pos h]; rfl
 ·rw [if_pos (by simpa using h), if_neg h]
end Go.Proofs.YtcafgoomipkljaaGreatDoorAi
namespace Go.Proofs.YtcafgoomipkljaaGreatDoorAi
open Go Go.RowKit
set_option linter.unusedVariables false
set_option linter.unusedSimpArgs false
def opK (L : List Int) (t sg : List UInt8) : Nat → Nat → List Int
 | 0, _ => []
 | d + 1, k => (if L.getD k default = 0 ∧ sg.contains (t.getD k default) = true then [(k : Int)] else []) ++ opK L t sg d (k + 1)
theorem opK_len (L : List Int) (t sg : List UInt8) : ∀ d k, (opK L t sg d k).length ≤ d
 | 0, _ => by simp [opK]
 | d + 1, k => by
  have := opK_len L t sg d (k + 1)
  unfold opK
  rw [List.length_append]
  split <;> simp <;> omega
theorem open_iter {t sg : List UInt8} (ht : t.length < 10000) {L : List Int} (hL : L.length = t.length) : ∀ (d k : Nat) (acc : List Int), k + d = t.length → acc.length ≤ k →
  iter (g_a.b0 t sg L) (acc, (k : Int)) = some (acc ++ opK L t sg d k, (t.length : Int))
 | 0, k, acc, h, ha => by
  rw [show k = t.length by omega]
  exact iter_stop (by unfold g_a.b0; rw [hL, if_neg (by simp)]; simp [opK])
 | d + 1, k, acc, h, ha => by
  have hk : 0 ≤ (k : Int) ∧ (k : Int) < (t.length : Int) := ⟨by omega, by omega⟩
  have key : g_a.b0 t sg L (acc, (k : Int)) = some (.inl (acc ++ (if L.getD k default = 0 ∧ sg.contains (t.getD k default) = true then [(k : Int)] else []), ((k + 1 : Nat) : Int))) := by
   have hl : acc.length + ([(k : Int)] : List Int).length < 1000000000 := by simp only [List.length_cons, List.length_nil]; omega
   unfold g_a.b0
   simp only [hL, gt_nat]
   rw [if_pos (decide_eq_true hk.2), if_pos hk, if_pos hk, indexByte_eq, w64_id (by omega) (by omega), Option.bind_some, idxB_ge]
   by_cases h0 : L.getD k default = 0
   ·have e : (L.getD k default == 0) = true := by rw [h0]; rfl
    simp only [e, if_true, Option.bind_some, h0, true_and]
    cases hc : sg.contains (t.getD k default)
    ·simp
    ·simp only [if_true, if_pos hl]; rfl
   ·have e : (L.getD k default == 0) = false := by simpa using h0
    simp only [e, Bool.false_eq_true, if_false, Option.bind_some, h0, false_and, List.append_nil]; rfl
  rw [iter_next key, open_iter ht hL d (k + 1) _ (by omega) (by rw [List.length_append]; split <;> simp <;> omega)]
  conv => rhs; unfold opK
  rw [List.append_assoc]
theorem OpenIn_f {t sg : List UInt8} (ht : t.length < 10000) : g_a.f t sg = some (if (CT t).2 = 0 then (opK (LV t) t sg t.length 0, 0) else ([], (CT t).2)) := by
 unfold g_a.f
 rw [ctErr_f ht, Option.bind_some, levels_f ht]
 by_cases h : (CT t).2 = 0
 ·rw [if_neg (by simpa using h), if_pos h, Option.bind_some]
  have := open_iter (sg := sg) ht (LV_len t) t.length 0 [] (by omega) (by simp)
  show Option.bind (iter (g_a.b0 t sg (LV t)) (([] : List Int), ((0 : Nat) : Int))) _ = _
  rw [this]; rfl
 ·rw [if_pos (by simpa using h), if_neg h]
theorem has_iter {l : List Int} (hl : l.length < 100000) (x : Int) : ∀ (d k : Nat) (b : Bool), k + d = l.length →
  iter (g_1.b0 l x) (b, (k : Int)) = some (b || (l.drop k).contains x, (l.length : Int))
 | 0, k, b, h => by
  rw [show k = l.length by omega, List.drop_length]
  exact iter_stop (by unfold g_1.b0; rw [if_neg (by simp)]; simp)
 | d + 1, k, b, h => by
  have hk : k < l.length := by omega
  have key : g_1.b0 l x (b, (k : Int)) = some (.inl (b || (l[k] == x), ((k + 1 : Nat) : Int))) := by
   unfold g_1.b0
   simp only [gt_nat]
   rw [if_pos (decide_eq_true (by omega)), if_pos ⟨by omega, by omega⟩, w64_id (by omega) (by omega), List.getD_eq_getElem?_getD, List.getElem?_eq_getElem hk]
   cases b <;> rfl
  rw [iter_next key, has_iter hl x d (k + 1) _ (by omega), List.drop_eq_getElem_cons hk, List.contains_cons, Bool.or_assoc]
  congr 3
  rw [show (l[k] == x) = (x == l[k]) from Bool.beq_comm ..]
theorem Has_f {l : List Int} (hl : l.length < 100000) (x : Int) : g_1.f l x = some (l.contains x) := by
 unfold g_1.f
 have := has_iter hl x l.length 0 false (by omega)
 show Option.bind (iter (g_1.b0 l x) (false, ((0 : Nat) : Int))) _ = _
 rw [this, List.drop_zero]; rfl
theorem in_stop {t sg : List UInt8} {L : List Int} (x37 : List Int × Int) {k : Nat} (hx : x37.2 = (k : Int)) (hL : L.length = t.length) (hk : k < t.length) (acc : List Int) : g_29.b1 t sg L x37 (acc, (sg.length : Int)) = some (.inr (acc, (sg.length : Int))) := by
 unfold g_29.b1
 simp only
 rw [if_neg (by simp), Option.bind_some, if_neg (by decide)]
theorem in_after {t sg : List UInt8} (ht : t.length < 10000) (hs : sg.length < 1000) {L : List Int} (x37 : List Int × Int) {k : Nat} (hx : x37.2 = (k : Int)) (hL : L.length = t.length) (hk : k < t.length) (h0 : L.getD k default = 0) {acc : List Int} (ha : acc.length < 50000) (hc : acc.contains (k : Int) = true) :
  ∀ (d n : Nat), n + d = sg.length → iter (g_29.b1 t sg L x37) (acc, (n : Int)) = some (acc, (sg.length : Int))
 | 0, n, h => by
  rw [show n = sg.length by omega]
  exact iter_stop (in_stop x37 hx hL hk acc)
 | d + 1, n, h => by
  have key : g_29.b1 t sg L x37 (acc, (n : Int)) = some (.inl (acc, ((n + 1 : Nat) : Int))) := by
   unfold g_29.b1
   simp only [hx, hL, gt_nat, h0, u8eq]
   rw [if_pos (decide_eq_true (by omega)), if_pos ⟨by omega, by omega⟩, Option.bind_some, if_pos (by decide), if_pos ⟨by omega, by omega⟩, if_pos ⟨by omega, by omega⟩, Has_f (by omega), hc, Option.bind_some, w64_id (by omega) (by omega)]
   cases decide (sg.getD n default = t.getD k default) <;> rfl
  rw [iter_next key, in_after ht hs x37 hx hL hk h0 ha hc d (n + 1) (by omega)]
theorem in_iter {t sg : List UInt8} (ht : t.length < 10000) (hs : sg.length < 1000) {L : List Int} (x37 : List Int × Int) {k : Nat} (hx : x37.2 = (k : Int)) (hL : L.length = t.length) (hk : k < t.length) (h0 : L.getD k default = 0) {acc : List Int} (ha : acc.length < 40000) (hc : acc.contains (k : Int) = false) :
  ∀ (d n : Nat), n + d = sg.length → iter (g_29.b1 t sg L x37) (acc, (n : Int)) = some (acc ++ (if (sg.drop n).contains (t.getD k default) = true then [(k : Int)] else []), (sg.length : Int))
 | 0, n, h => by
  rw [show n = sg.length by omega, List.drop_length]
  rw [iter_stop (in_stop x37 hx hL hk acc)]; simp
 | d + 1, n, h => by
  have hn : n < sg.length := by omega
  have key : g_29.b1 t sg L x37 (acc, (n : Int)) = some (.inl (if sg.getD n default = t.getD k default then acc ++ [(k : Int)] else acc, ((n + 1 : Nat) : Int))) := by
   have hl : acc.length + ([(k : Int)] : List Int).length < 1000000000 := by simp only [List.length_cons, List.length_nil]; omega
   have q1 : 0 ≤ (n : Int) ∧ (n : Int) < (sg.length : Int) := ⟨by omega, by omega⟩
   have q2 : 0 ≤ (k : Int) ∧ (k : Int) < (t.length : Int) := ⟨by omega, by omega⟩
   have e0 : ((0 : Int) == 0) = true := rfl
   unfold g_29.b1
   simp only [hx, hL, gt_nat, h0, u8eq, if_pos q1, if_pos q2, if_pos hl, decide_eq_true q1.2, e0, if_true, Option.bind_some, Has_f (show acc.length < 100000 by omega), hc, Bool.not_false]
   rw [w64_id (by omega) (by omega)]
   by_cases he : sg.getD n default = t.getD k default
   ·simp only [he, decide_true, if_true, Option.bind_some]; rfl
   ·simp only [he, decide_false, Bool.false_eq_true, if_false, Option.bind_some]; rfl
  rw [iter_next key, drop_getD hn, List.contains_cons]
  by_cases he : sg.getD n default = t.getD k default
  ·rw [if_pos he, in_after ht hs x37 hx hL hk h0 (acc := acc ++ [(k : Int)]) (by simp; omega) (by simp) d (n + 1) (by omega), if_pos (by rw [he, beq_self_eq_true, Bool.true_or])]
  ·rw [if_neg he, in_iter ht hs x37 hx hL hk h0 ha hc d (n + 1) (by omega)]
   have : (t.getD k default == sg.getD n default) = false := by simpa using fun q => he q.symm
   rw [this, Bool.false_or]
theorem law_open {t sg : List UInt8} (ht : t.length < 10000) (hs : sg.length < 1000) {L : List Int} (hL : L.length = t.length) : ∀ (d k : Nat) (acc : List Int), k + d = t.length → acc.length ≤ k → (∀ x ∈ acc, x < (k : Int)) →
  iter (g_29.b0 t sg L) (acc, (k : Int)) = some (acc ++ opK L t sg d k, (t.length : Int))
 | 0, k, acc, h, ha, hb => by
  rw [show k = t.length by omega]
  exact iter_stop (by unfold g_29.b0; rw [if_neg (by simp)]; simp [opK])
 | d + 1, k, acc, h, ha, hb => by
  have hk : 0 ≤ (k : Int) ∧ (k : Int) < (t.length : Int) := ⟨by omega, by omega⟩
  have hc : acc.contains (k : Int) = false := by
   rw [Bool.eq_false_iff]
   intro q
   have := hb _ (List.contains_iff_mem.1 q)
   omega
  have key : g_29.b0 t sg L (acc, (k : Int)) = some (.inl (acc ++ (if L.getD k default = 0 ∧ sg.contains (t.getD k default) = true then [(k : Int)] else []), ((k + 1 : Nat) : Int))) := by
   unfold g_29.b0
   simp only
   rw [if_pos (decide_eq_true hk.2), w64_id (by omega) (by omega)]
   by_cases h0 : L.getD k default = 0
   ·have := in_iter (sg := sg) ht hs (acc, (k : Int)) rfl hL (by omega) h0 (acc := acc) (by omega) hc sg.length 0 (by omega)
    rw [show ((0 : Nat) : Int) = 0 from rfl, List.drop_zero] at this
    rw [this, Option.bind_some]
    simp only [h0, true_and]
    rfl
   ·have : g_29.b1 t sg L (acc, (k : Int)) (acc, 0) = some (.inr (acc, 0)) := by
     unfold g_29.b1
     simp only [hL, gt_nat]
     rw [if_pos hk]
     have e : (L.getD k default == 0) = false := by simpa using h0
     rw [e]
     by_cases hz : (0 : Int) < (sg.length : Int)
     ·rw [if_pos (decide_eq_true hz), Option.bind_some, if_neg (by decide)]
     ·rw [if_neg (by simpa using hz), Option.bind_some, if_neg (by decide)]
    rw [iter_stop this, Option.bind_some, if_neg (fun q => h0 q.1)]; simp
  rw [iter_next key, law_open ht hs hL d (k + 1) _ (by omega) (by rw [List.length_append]; split <;> simp <;> omega) (fun x hx => by
   rcases List.mem_append.1 hx with q | q
   ·have := hb x q; omega
   ·split at q
    ·rw [List.mem_singleton] at q; omega
    ·cases q)]
  conv => rhs; unfold opK
  rw [List.append_assoc]
theorem law9 (t sg : List UInt8) : g_29.f t sg = some true := by
 unfold g_29.f g_2b.f
 rw [awake_t, Option.bind_some, if_neg (by decide), Option.bind_some]
 by_cases h : 1400 < t.length ∨ 20 < sg.length
 ·rw [if_pos (by simp; omega)]
 ·rw [if_neg (by simp; omega), CheckText_f (by omega), LevelsOf_f (by omega), OpenIn_f (by omega), refCheckText_f (by omega), Option.bind_some, Option.bind_some, Option.bind_some, Option.bind_some]
  by_cases hc : (CT t).2 = 0
  ·rw [if_pos hc, if_pos hc, if_neg (by simp [hc]), if_neg (by simp [hc]), refLevels_f (by omega), Option.bind_some]
   have := law_open (t := t) (sg := sg) (by omega) (by omega) (LV_len t) t.length 0 [] (by omega) (by simp) (fun x hx => by cases hx)
   show Option.bind (iter (g_29.b0 t sg (LV t)) (([] : List Int), ((0 : Nat) : Int))) _ = _
   rw [this, Option.bind_some]
   simp only [List.nil_append]
   have h2 := opK_len (LV t) t sg t.length 0
   rw [ints_same (LV t) (by rw [LV_len]; omega), Option.bind_some, if_pos rfl, ints_same _ (by omega)]; rfl
  ·rw [if_neg hc, if_neg hc, if_neg (by simp), if_pos (by simpa using hc)]; rfl
end Go.Proofs.YtcafgoomipkljaaGreatDoorAi
namespace Go.Proofs.YtcafgoomipkljaaGreatDoorAi
open Go Go.RowKit
theorem str_back (s : ByteArray) : strV s.data.toList = .string s := by
 show Value.string ⟨s.data.toList.toArray⟩ = _
 rw [Array.toArray_toList]
theorem law9_calls (s u : ByteArray) (_hs : s.size ≤ 140737488351232) (_hu : u.size ≤ 140737488351232) (w : World) (hG : Gd w) : Calls Tryz.prog 9 #[.string s, .string u] w fun e w' => e = .returned (.bool true) ∧ Below w.heap.size w w' := by
 have h := calls_of (g := 9) (args := [strV s.data.toList, strV u.data.toList]) Tryz.func9 rfl (fun _ _ => rfl) rfl (v := .bool true) rfl ((g_29.ok (F := F0) (law9 s.data.toList u.data.toList) gl0).mono fun v S' F' q => q.2.1) w hG
 rw [str_back, str_back] at h
 exact h
end Go.Proofs.YtcafgoomipkljaaGreatDoorAi
