/-
PuP1, PuP2, PuP3, PuP4, PuP5, PuP6, PuP7, PuP8c, PuR0, PuR1, PuR2, PuM1, PuM2, PuM3, PuM4, PuM5, PuM6, PuM7, PuM8, PuC2, PuC3, PuN1, PuN2, PuN3, PuN4, PuN5, PuC1, PuC4, PuC5, PuC6
-/
import Derived.Test.YtcafgoomipkljaaGreatDoorApX1c
import Derived.Test.YtcafgoomipkljaaGreatDoorApL
namespace Go.Proofs.YtcafgoomipkljaaGreatDoorAi
open Go Go.RowKit
set_option linter.unusedVariables false
set_option linter.unusedSimpArgs false
theorem w64_id {x : Int} (h1 : -9223372036854775808 ≤ x) (h2 : x ≤ 9223372036854775807) : w64 x = x := by
 unfold w64
 simp [IntKind.wrap, IntKind.bits, IntKind.signed]; omega
theorem gt_nat {α : Type} [Inhabited α] (l : List α) (n : Nat) : gt l (n : Int) = l.getD n default := rfl
def isDg (c : UInt8) : Bool := decide (48 ≤ c.toNat) && decide (c.toNat ≤ 57)
theorem isDg_iff {c : UInt8} : isDg c = true ↔ 48 ≤ c.toNat ∧ c.toNat ≤ 57 := by simp [isDg]
theorem isDigit_eq (c : UInt8) : g_2h.f c = some (isDg c) := by
 unfold g_2h.f isDg
 congr 2
 ·exact decide_eq_decide.2 (by show ((48 : Nat) : Int) ≤ _ ↔ _; omega)
 ·exact decide_eq_decide.2 (by show _ ≤ ((57 : Nat) : Int) ↔ _; omega)
def dg (p : Nat → Bool) : Nat → Nat
 | 0 => 0
 | n + 1 => if p n then dg p n else n + 1
theorem dg_le (p : Nat → Bool) : ∀ n, dg p n ≤ n
 | 0 => Nat.le_refl _
 | n + 1 => by
  unfold dg
  split
  ·exact Nat.le_succ_of_le (dg_le p n)
  ·exact Nat.le_refl _
theorem dg_all (p : Nat → Bool) : ∀ n k, dg p n ≤ k → k < n → p k = true
 | 0, k, _, h => by omega
 | n + 1, k, h1, h2 => by
  unfold dg at h1
  split at h1
  ·by_cases hk : k = n
   ·subst hk; assumption
   ·exact dg_all p n k h1 (by omega)
  ·omega
def pD (out : List UInt8) (own : List Bool) (k : Nat) : Bool := !(own.getD k default) && isDg (out.getD k default)
theorem digits_eq {out : List UInt8} {own : List Bool} (hl : out.length = own.length) (hs : own.length < 1000000) : ∀ n : Nat, n ≤ own.length → iter (g_2p.b0 out own) (n : Int) = some ((dg (pD out own) n : Nat) : Int)
 | 0, _ => iter_stop (by unfold g_2p.b0; rfl)
 | n + 1, hn => by
  have hw : w64 (((n + 1 : Nat) : Int) - 1) = (n : Int) := by rw [w64_id] <;> omega
  have key : g_2p.b0 out own ((n + 1 : Nat) : Int) = if pD out own n then some (.inl (n : Int)) else some (.inr ((n + 1 : Nat) : Int)) := by
   unfold g_2p.b0 pD
   rw [hw, if_pos (decide_eq_true (by omega)), if_pos ⟨by omega, by omega⟩, if_pos ⟨by omega, by omega⟩, isDigit_eq, gt_nat, gt_nat]
   cases own.getD n default <;> simp
  unfold dg
  split
  ·rename_i h
   rw [iter_next (key.trans (if_pos h))]
   exact digits_eq hl hs n (by omega)
  ·rename_i h
   exact iter_stop (key.trans (if_neg h))
theorem digits_f {out : List UInt8} {own : List Bool} (hl : out.length = own.length) (hs : own.length < 1000000) (n : Nat) (hn : n ≤ own.length) : g_2p.f out own (n : Int) = some ((dg (pD out own) n : Nat) : Int) := by
 unfold g_2p.f
 rw [digits_eq hl hs n hn]; rfl
theorem indexByte_eq (l : List UInt8) (c : UInt8) : g_2y.f l c = some (idxB l c) := rfl
theorem idxB_ge (l : List UInt8) (c : UInt8) : decide (idxB l c ≥ 0) = l.contains c := by
 unfold idxB
 cases h : l.findIdx? (· == c) with
 | none =>
  rw [List.findIdx?_eq_none_iff] at h
  symm
  show l.contains c = false
  rw [Bool.eq_false_iff]
  intro hc
  have := h c (List.contains_iff_mem.1 hc)
  simp at this
 | some i =>
  rw [decide_eq_true (show (i : Int) ≥ 0 by omega)]
  symm
  obtain ⟨hi, h1, _⟩ := List.findIdx?_eq_some_iff_getElem.1 h
  rw [List.contains_iff_mem]
  have : l[i] = c := by simpa using h1
  rw [← this]; exact List.getElem_mem hi
def isB (out : List UInt8) (own : List Bool) (n : Nat) (sg : List UInt8) : Bool := match n with | 0 => false | n + 1 => !(own.getD n default) && sg.contains (out.getD n default)
theorem isBefore_f {out : List UInt8} {own : List Bool} (hl : out.length = own.length) (hs : own.length < 1000000) (n : Nat) (hn : n ≤ own.length) (sg : List UInt8) : g_2r.f out own (n : Int) sg = some (isB out own n sg) := by
 cases n with
 | zero => unfold g_2r.f; rfl
 | succ n =>
  have hw : w64 (((n + 1 : Nat) : Int) - 1) = (n : Int) := by rw [w64_id] <;> omega
  unfold g_2r.f isB
  rw [hw, if_pos (decide_eq_true (by omega)), if_pos ⟨by omega, by omega⟩, if_pos ⟨by omega, by omega⟩, indexByte_eq, gt_nat, gt_nat]
  simp only [Option.bind_some, idxB_ge]
  cases own.getD n default <;> simp
def hol (out : List UInt8) (own : List Bool) : Option Nat :=
 let b := dg (pD out own) out.length
 if b = out.length then none else if isB out own b [40, 44, 47, 61] then some b else if isB out own b [42] then
  (let k := dg (pD out own) (b - 1)
   if k < b - 1 ∧ isB out own k [40, 44, 47, 61] = true then some b else none) else none
theorem hollerith_f {out : List UInt8} {own : List Bool} (hl : out.length = own.length) (hs : own.length < 1000000) :
  ∃ d : Int, g_2q.f out own = some (match hol out own with | some b => ((b : Int), true) | none => (d, false)) := by
 have hle := dg_le (pD out own) out.length
 have hf := digits_f hl hs out.length (by omega)
 unfold g_2q.f hol
 rw [hf]
 simp only [Option.bind_some]
 generalize dg (pD out own) out.length = b at *
 by_cases hb : b = out.length
 ·rw [if_pos (by simp [hb]), if_pos hb]; exact ⟨_, rfl⟩
 ·rw [if_neg (by simp; omega), if_neg hb, isBefore_f hl hs b (by omega)]
  simp only [Option.bind_some]
  cases h1 : isB out own b [40, 44, 47, 61]
  ·simp only [Bool.false_eq_true, if_false]
   rw [isBefore_f hl hs b (by omega)]
   simp only [Option.bind_some]
   cases h2 : isB out own b [42]
   ·simp only [Bool.not_false, Bool.false_eq_true, if_false, if_true]; exact ⟨_, rfl⟩
   ·simp only [Bool.not_true, Bool.false_eq_true, if_false, if_true]
    have hb0 : 0 < b := by
     cases b with
     | zero => simp [isB] at h2
     | succ b => omega
    have hw : w64 ((b : Int) - 1) = ((b - 1 : Nat) : Int) := by rw [w64_id] <;> omega
    have hk := dg_le (pD out own) (b - 1)
    rw [hw, digits_f hl hs (b - 1) (by omega)]
    simp only [Option.bind_some]
    generalize dg (pD out own) (b - 1) = k at *
    rw [isBefore_f hl hs k (by omega)]
    simp only [Option.bind_some]
    by_cases h3 : k < b - 1
    ·rw [if_pos (decide_eq_true (by omega))]
     cases h4 : isB out own k [40, 44, 47, 61]
     ·rw [if_neg (by simp)]; exact ⟨_, rfl⟩
     ·rw [if_pos ⟨h3, rfl⟩]; exact ⟨0, rfl⟩
    ·rw [if_neg (by simp; omega), if_neg (by omega)]; exact ⟨_, rfl⟩
  ·simp only [if_true]; exact ⟨0, trivial⟩
end Go.Proofs.YtcafgoomipkljaaGreatDoorAi
namespace Go.Proofs.YtcafgoomipkljaaGreatDoorAi
open Go Go.RowKit
set_option linter.unusedVariables false
set_option linter.unusedSimpArgs false
def piece (t : List UInt8) (a n : Nat) : List UInt8 := (t.drop a).take n
def rng (a : Nat) : Nat → List Int
 | 0 => []
 | n + 1 => (a : Int) :: rng (a + 1) n
theorem rng_len (a n : Nat) : (rng a n).length = n := by
 induction n generalizing a with
 | zero => rfl
 | succ n ih => show (rng (a + 1) n).length + 1 = _; rw [ih]
theorem piece_zero (t : List UInt8) (a : Nat) : piece t a 0 = [] := rfl
theorem piece_succ {t : List UInt8} {a : Nat} (n : Nat) (h : a < t.length) : piece t a (n + 1) = t.getD a default :: piece t (a + 1) n := by
 unfold piece
 rw [List.drop_eq_getElem_cons h, List.take_succ_cons, List.getD_eq_getElem?_getD, List.getElem?_eq_getElem h]
 rfl
theorem piece_len {t : List UInt8} {a n : Nat} (h : a + n ≤ t.length) : (piece t a n).length = n := by
 unfold piece
 rw [List.length_take, List.length_drop]; omega
theorem put_f {out : List UInt8} {frm : List Int} {own : List Bool} (h1 : out.length < 1000000) (h2 : frm.length < 1000000) (h3 : own.length < 1000000) (c : UInt8) (a : Int) (b : Bool) :
  g_2t.f out frm own c a b = some (out ++ [c], frm ++ [a], own ++ [b]) := by
 unfold g_2t.f
 rw [if_pos (by simp only [List.length_cons, List.length_nil]; omega), if_pos (by simp only [List.length_cons, List.length_nil]; omega), if_pos (by simp only [List.length_cons, List.length_nil]; omega)]
theorem constant_iter {t : List UInt8} (ht : t.length < 10000) : ∀ (n a : Nat) (out : List UInt8) (frm : List Int) (own : List Bool), a + n ≤ t.length → out.length + n < 900000 → frm.length + n < 900000 → own.length + n < 900000 →
  iter (g_2n.b0 t ((a + n : Nat) : Int)) ((a : Int), out, frm, own) = some (((a + n : Nat) : Int), out ++ piece t a n, frm ++ rng a n, own ++ List.replicate n true)
 | 0, a, out, frm, own, h, _, _, _ => iter_stop (by
   unfold g_2n.b0
   rw [if_neg (by simp)]
   simp [piece_zero, rng])
 | n + 1, a, out, frm, own, h, h1, h2, h3 => by
  have ih := constant_iter ht n (a + 1) (out ++ [t.getD a default]) (frm ++ [(a : Int)]) (own ++ [true]) (by omega) (by simp; omega) (by simp; omega) (by simp; omega)
  rw [show a + 1 + n = a + (n + 1) by omega] at ih
  rw [iter_next (y := (((a + 1 : Nat) : Int), out ++ [t.getD a default], frm ++ [(a : Int)], own ++ [true])) (by
   unfold g_2n.b0
   rw [if_pos (decide_eq_true (by simp only; omega)), if_pos ⟨by simp only; omega, by simp only; omega⟩]
   simp only
   rw [put_f (by omega) (by omega) (by omega), Option.bind_some, w64_id (by omega) (by omega), gt_nat]
   rfl), ih, piece_succ n (by omega)]
  simp [rng, List.replicate_succ]
theorem constant_f {t : List UInt8} (ht : t.length < 10000) {n a : Nat} {out : List UInt8} {frm : List Int} {own : List Bool} (h : a + n ≤ t.length) (h1 : out.length < 800000) (h2 : frm.length < 800000) (h3 : own.length < 800000) :
  g_2n.f t out frm own (a : Int) ((a + n : Nat) : Int) = some (out ++ piece t a n, frm ++ rng a n, own ++ List.replicate n true) := by
 unfold g_2n.f
 rw [constant_iter ht n a out frm own h (by omega) (by omega) (by omega)]; rfl
def upC (c : UInt8) : UInt8 := if 97 ≤ c.toNat ∧ c.toNat ≤ 122 then c - 32 else c
def valL (acc : Nat) (l : List UInt8) : Nat := l.foldl (fun a c => a * 10 + (c.toNat - 48)) acc
theorem valL_nil (acc : Nat) : valL acc [] = acc := rfl
theorem valL_cons (acc : Nat) (c : UInt8) (r : List UInt8) : valL acc (c :: r) = valL (acc * 10 + (c.toNat - 48)) r := by unfold valL; rw [List.foldl_cons]
theorem valL_ge : ∀ (l : List UInt8) (acc : Nat), acc ≤ valL acc l
 | [], acc => Nat.le_refl _
 | c :: r, acc => by
  rw [valL_cons]
  exact Nat.le_trans (Nat.le_trans (Nat.le_mul_of_pos_right acc (by decide)) (Nat.le_add_right _ _)) (valL_ge r _)
theorem pu10 : ∀ (l : List UInt8) (acc : Nat), acc < 18446744073709551616 → l.all isDg = true → Lib.parseUint10 acc l = if valL acc l < 18446744073709551616 then .ok (valL acc l) else .range
 | [], acc, h, _ => by
  rw [valL_nil, if_pos h]; rfl
 | c :: r, acc, h, ha => by
  simp only [List.all_cons, Bool.and_eq_true] at ha
  have hc := isDg_iff.1 ha.1
  have ih := fun h => pu10 r (acc * 10 + (c.toNat - 48)) h ha.2
  have hg := valL_ge r (acc * 10 + (c.toNat - 48))
  rw [valL_cons, Lib.parseUint10, if_pos hc]
  generalize valL (acc * 10 + (c.toNat - 48)) r = z at *
  generalize c.toNat - 48 = d at *
  split
  ·rw [if_neg (by omega)]
  ·split
   ·rw [if_neg (by omega)]
   ·exact ih (by omega)
theorem atoi_digits {l : List UInt8} (h0 : l ≠ []) (ha : l.all isDg = true) : Lib.atoiAll l = if valL 0 l < 9223372036854775808 then .ok (valL 0 l : Int) else .range := by
 cases l with
 | nil => exact absurd rfl h0
 | cons c r =>
  have hc := isDg_iff.1 (show isDg c = true by simp at ha; exact ha.1)
  unfold Lib.atoiAll
  simp only
  rw [if_neg (by omega)]
  unfold Lib.parseMag
  rw [if_neg (List.cons_ne_nil c r), pu10 _ _ (by omega) ha]
  generalize valL 0 (c :: r) = v
  by_cases h1 : v < 18446744073709551616
  ·rw [if_pos h1]
   simp only
   by_cases h2 : v < 9223372036854775808
   ·rw [if_neg (by omega), if_neg (by omega), if_neg (by omega), if_pos h2]
   ·rw [if_pos (by omega), if_neg h2]
  ·rw [if_neg h1, if_neg (by omega)]
theorem atoi_f {l : List UInt8} (h0 : l ≠ []) (ha : l.all isDg = true) (hl : l.length < 1000000) : g_atoi.f l = if valL 0 l < 9223372036854775808 then some ((valL 0 l : Int), false) else some (9223372036854775807, true) := by
 unfold g_atoi.f
 rw [if_pos (by omega), atoi_digits h0 ha]
 by_cases h : valL 0 l < 9223372036854775808
 ·rw [if_pos h, if_pos h]
 ·rw [if_neg h, if_neg h]
  simp only
  have : Lib.atoiSat l = 9223372036854775807 := by
   cases l with
   | nil => exact absurd rfl h0
   | cons c r =>
    have hc := isDg_iff.1 (show isDg c = true by simp at ha; exact ha.1)
    unfold Lib.atoiSat
    rw [if_neg (by simp; omega)]
  rw [this]
def stp (t : List UInt8) (a : Nat) (out : List UInt8) (own : List Bool) (frm : List Int) : Except Int (Nat × List UInt8 × List Bool × List (Int × Int)) :=
 let c := t.getD a default
 if c = 39 ∨ c = 34 then
  match (t.drop (a + 1)).findIdx? (· == c) with
  | none => .error 21
  | some n => .ok (a + (n + 2), piece t a (n + 2), List.replicate (n + 2) true, [((a : Int), ((a + (n + 2) : Nat) : Int))])
 else match (if upC c = 72 then hol out own else none) with
  | some b =>
   let n := valL 0 (out.drop b)
   if t.length < a + 1 + n then .error 21 else if n = 0 then .error 11 else
    .ok (a + 1 + n, 72 :: piece t (a + 1) n, false :: List.replicate n true, [(frm.getD b default, ((a + 1 + n : Nat) : Int))])
  | none => if upC c = 32 then .ok (a + 1, [], [], []) else .ok (a + 1, [upC c], [false], [])
theorem hol_some {out : List UInt8} {own : List Bool} {b : Nat} (h : hol out own = some b) : b < out.length ∧ (out.drop b).all isDg = true ∧ 0 < b := by
 unfold hol at h
 have hle := dg_le (pD out own) out.length
 have hall := dg_all (pD out own) out.length
 simp only at h
 generalize dg (pD out own) out.length = d at *
 have key : d < out.length → (out.drop d).all isDg = true := fun hd => by
  rw [List.all_eq_true]
  intro x hx
  obtain ⟨i, hi, rfl⟩ := List.mem_iff_getElem.1 hx
  rw [List.length_drop] at hi
  rw [List.getElem_drop]
  have := hall (d + i) (by omega) (by omega)
  unfold pD at this
  rw [Bool.and_eq_true, List.getD_eq_getElem?_getD (l := out), List.getElem?_eq_getElem (by omega)] at this
  exact this.2
 have pos : ∀ sg, isB out own d sg = true → 0 < d := fun sg hs => by
  cases d with
  | zero => simp [isB] at hs
  | succ d => omega
 split at h
 ·cases h
 ·split at h
  ·rename_i h1 h2
   obtain rfl := Option.some.inj h
   exact ⟨by omega, key (by omega), pos _ h2⟩
  ·split at h
   ·split at h
    ·rename_i h1 h2 h3 h4
     obtain rfl := Option.some.inj h
     exact ⟨by omega, key (by omega), pos _ h3⟩
    ·cases h
   ·cases h
end Go.Proofs.YtcafgoomipkljaaGreatDoorAi
namespace Go.Proofs.YtcafgoomipkljaaGreatDoorAi
open Go Go.RowKit
set_option linter.unusedVariables false
set_option linter.unusedSimpArgs false
theorem mid_all {α : Type} (l : List α) (n : Nat) : mid l (n : Int) (l.length : Int) = l.drop n := by
 unfold mid
 rw [Int.toNat_natCast, Int.toNat_natCast, List.take_length]
theorem u8eq (a b : UInt8) : ((a.toNat : Int) == (b.toNat : Int)) = decide (a = b) := by
 by_cases h : a = b
 ·subst h; simp
 ·rw [decide_eq_false h]
  exact beq_eq_false_iff_ne.2 fun e => h (UInt8.toNat_inj.1 (by omega))
theorem isQuote_f (c : UInt8) : g_2i.f c = some (decide (c = 39) || decide (c = 34)) := by
 unfold g_2i.f
 rw [u8eq, u8eq]
def enc (out : List UInt8) (frm : List Int) (own : List Bool) (cs : List (Int × Int)) (a : Nat) : Except Int (Nat × List UInt8 × List Bool × List (Int × Int)) → Int × Int × List UInt8 × List Int × List Bool × List (Int × Int)
 | .error e => (0, e, out, frm, own, cs)
 | .ok (a', o, w, c) => ((a' : Int), 0, out ++ o, frm ++ rng a o.length, own ++ w, cs ++ c)
theorem character_f {t : List UInt8} (ht : t.length < 10000) {a : Nat} (ha : a < t.length) {out : List UInt8} {frm : List Int} {own : List Bool} {cs : List (Int × Int)} (h1 : out.length < 800000) (h2 : frm.length < 800000) (h3 : own.length < 800000) (h4 : cs.length < 800000) :
  g_2m.f t out frm own cs (a : Int) = some (enc out frm own cs a (match (t.drop (a + 1)).findIdx? (· == t.getD a default) with
  | none => .error 21
  | some n => .ok (a + (n + 2), piece t a (n + 2), List.replicate (n + 2) true, [((a : Int), ((a + (n + 2) : Nat) : Int))]))) := by
 have hw : w64 ((a : Int) + 1) = ((a + 1 : Nat) : Int) := by rw [w64_id] <;> omega
 unfold g_2m.f
 rw [hw, if_pos ⟨by omega, by omega, Int.le_refl _⟩, if_pos ⟨by omega, by omega⟩, indexByte_eq, mid_all, gt_nat, Option.bind_some]
 unfold idxB
 cases h : (t.drop (a + 1)).findIdx? (· == t.getD a default) with
 | none => rfl
 | some n =>
  obtain ⟨hn, _, _⟩ := List.findIdx?_eq_some_iff_getElem.1 h
  rw [List.length_drop] at hn
  have hw2 : w64 (w64 ((a : Int) + (n : Int)) + 2) = ((a + (n + 2) : Nat) : Int) := by rw [w64_id (x := (a : Int) + (n : Int)) (by omega) (by omega), w64_id] <;> omega
  rw [if_neg (by simp), hw2, if_pos (by simp only [List.length_cons, List.length_nil]; omega), constant_f ht (by omega) h1 h2 h3, Option.bind_some]
  simp only [enc]
  rw [piece_len (by omega)]
theorem count_f {t : List UInt8} (ht : t.length < 10000) {a : Nat} (ha : a < t.length) {out : List UInt8} {frm : List Int} {own : List Bool} {cs : List (Int × Int)} (h1 : out.length < 700000) (h2 : frm.length = out.length) (h3 : own.length < 700000) (h4 : cs.length < 800000)
  {b : Nat} (hb : b < out.length) (hd : (out.drop b).all isDg = true) :
  g_2o.f t out frm own cs (b : Int) (a : Int) = some (enc out frm own cs a (
   if t.length < a + 1 + valL 0 (out.drop b) then .error 21 else if valL 0 (out.drop b) = 0 then .error 11 else
    .ok (a + 1 + valL 0 (out.drop b), 72 :: piece t (a + 1) (valL 0 (out.drop b)), false :: List.replicate (valL 0 (out.drop b)) true, [(frm.getD b default, ((a + 1 + valL 0 (out.drop b) : Nat) : Int))]))) := by
 have hne : out.drop b ≠ [] := fun e => by
  have := congrArg List.length e
  rw [List.length_drop] at this
  simp at this; omega
 have hw : w64 (w64 ((t.length : Int) - (a : Int)) - 1) = ((t.length - a - 1 : Nat) : Int) := by rw [w64_id (x := (t.length : Int) - (a : Int)) (by omega) (by omega), w64_id] <;> omega
 unfold g_2o.f
 rw [if_pos ⟨by omega, by omega, Int.le_refl _⟩, mid_all, atoi_f hne hd (by rw [List.length_drop]; omega)]
 generalize valL 0 (out.drop b) = v
 by_cases hv : v < 9223372036854775808
 ·rw [if_pos hv, Option.bind_some]
  simp only [Bool.false_or, hw]
  by_cases hq : t.length < a + 1 + v
  ·rw [if_pos (decide_eq_true (by omega)), if_pos hq]; rfl
  ·rw [if_neg (by simp; omega), if_neg hq]
   by_cases h0 : v = 0
   ·subst h0; rfl
   ·have hw2 : w64 ((a : Int) + 1) = ((a + 1 : Nat) : Int) := by rw [w64_id] <;> omega
    have hw3 : w64 (((a + 1 : Nat) : Int) + (v : Int)) = ((a + 1 + v : Nat) : Int) := by rw [w64_id] <;> omega
    rw [if_neg (by simp; omega), if_neg h0, if_pos ⟨by omega, by omega⟩, if_pos (by simp only [List.length_cons, List.length_nil]; omega), put_f (by omega) (by omega) (by omega), Option.bind_some]
    simp only
    rw [hw2, hw3, constant_f ht (n := v) (a := a + 1) (by omega) (by simp; omega) (by simp; omega) (by simp; omega), Option.bind_some]
    simp only [enc, gt_nat, List.append_assoc, List.singleton_append]
    rw [List.length_cons, piece_len (by omega)]
    rfl
 ·rw [if_neg hv, Option.bind_some, if_pos (show t.length < a + 1 + v by omega), if_pos (by simp)]; rfl
theorem upC_eq (c : UInt8) : (if ((decide (((97 : UInt8).toNat : Int) ≤ (c.toNat : Int))) && (decide ((c.toNat : Int) ≤ ((122 : UInt8).toNat : Int)))) = true then some (c - 32) else some c) = some (upC c) := by
 have e1 : ((97 : UInt8).toNat : Int) = 97 := rfl
 have e2 : ((122 : UInt8).toNat : Int) = 122 := rfl
 rw [e1, e2]
 unfold upC
 by_cases h : 97 ≤ c.toNat ∧ c.toNat ≤ 122
 ·rw [if_pos h, if_pos (by simp; omega)]
 ·rw [if_neg h, if_neg (by simp; omega)]
structure Fine (t : List UInt8) (a : Nat) (out : List UInt8) (frm : List Int) (own : List Bool) (cs : List (Int × Int)) : Prop where
 lt : t.length < 10000
 la : a ≤ t.length
 lo : out.length ≤ a
 lf : frm.length = out.length
 lw : own.length = out.length
 lc : cs.length ≤ a
theorem next_f {t : List UInt8} {a : Nat} {out : List UInt8} {frm : List Int} {own : List Bool} {cs : List (Int × Int)} (h : Fine t a out frm own cs) (ha : a < t.length) :
  g_2s.f t out frm own cs (a : Int) = some (enc out frm own cs a (stp t a out own frm)) := by
 obtain ⟨h1, h2, h3, h4, h5, h6⟩ := h
 unfold g_2s.f
 rw [if_pos ⟨by omega, by omega⟩, gt_nat, isQuote_f, Option.bind_some]
 unfold stp
 simp only
 by_cases hq : t.getD a default = 39 ∨ t.getD a default = 34
 ·rw [if_pos (by simpa using hq), if_pos hq, character_f h1 ha (by omega) (by omega) (by omega) (by omega)]
  rfl
 ·rw [if_neg (by simpa using hq), if_neg hq, upC_eq, Option.bind_some]
  have hend : Option.bind ((if ((((upC (t.getD a default)).toNat : Int) != ((32 : UInt8).toNat : Int))) = true then Option.bind (g_2t.f out frm own (upC (t.getD a default)) (a : Int) false) fun y => some (y.1, y.2.1, y.2.2) else some (out, frm, own))) (fun z => some ((w64 ((a : Int) + 1)), (0 : Int), z.1, z.2.1, z.2.2, cs)) =
    some (enc out frm own cs a (if upC (t.getD a default) = 32 then .ok (a + 1, [], [], []) else .ok (a + 1, [upC (t.getD a default)], [false], []))) := by
   rw [bne, u8eq, w64_id (by omega) (by omega)]
   by_cases h32 : upC (t.getD a default) = 32
   ·rw [if_pos h32, if_neg (by rw [decide_eq_true h32]; decide)]
    simp [enc, rng]
   ·rw [if_neg h32, if_pos (by rw [decide_eq_false h32]; rfl), put_f (by omega) (by omega) (by omega)]
    simp [enc, rng]
  rw [u8eq]
  by_cases h72 : upC (t.getD a default) = 72
  ·rw [if_pos (decide_eq_true h72), if_pos h72]
   obtain ⟨d, hd⟩ := hollerith_f (out := out) (own := own) (by omega) (by omega)
   rw [hd, Option.bind_some]
   cases hh : hol out own with
   | none => simp only [Bool.false_eq_true, if_false]; exact hend
   | some b =>
    obtain ⟨k1, k2, _⟩ := hol_some hh
    simp only [if_true]
    rw [count_f h1 ha (by omega) (by omega) (by omega) (by omega) k1 k2]
    rfl
  ·rw [if_neg (by rw [decide_eq_false h72]; decide), if_neg h72]
   exact hend
end Go.Proofs.YtcafgoomipkljaaGreatDoorAi
namespace Go.Proofs.YtcafgoomipkljaaGreatDoorAi
open Go Go.RowKit
set_option linter.unusedVariables false
set_option linter.unusedSimpArgs false
theorem get_bang (l : List UInt8) (i : Nat) : (⟨l.toArray⟩ : ByteArray).get! i = l.getD i default := by
 show l.toArray[i]! = _
 simp [List.getD_eq_getElem?_getD]
theorem dec_lo {l : List UInt8} {p : Nat} (h : (l.getD p default).toNat < 128) : dec l p = ((l.getD p default).toNat, 1) := by
 unfold dec Utf8.decode
 simp only [Nat.add_zero, get_bang]
 rw [if_pos h]
theorem dec_hi {l : List UInt8} {p : Nat} (h : ¬ (l.getD p default).toNat < 128) : 126 < (dec l p).1 := by
 unfold dec Utf8.decode
 simp only [Nat.add_zero, get_bang]
 rw [if_neg h]
 split
 ·split
  ·simp only; omega
  ·decide
 ·split
  ·split
   ·rename_i h2
    simp only [Bool.and_eq_true, decide_eq_true_eq] at h2
    simp only; omega
   ·decide
  ·split
   ·split
    ·rename_i h2
     simp only [Bool.and_eq_true, decide_eq_true_eq] at h2
     simp only; omega
    ·decide
   ·decide
def shown (c : UInt8) : Bool := decide (32 ≤ c.toNat) && decide (c.toNat ≤ 126)
theorem notShown_eq (r : Nat) : g_2k.f (r : Int) 32 = some (!(decide (32 ≤ r) && decide (r ≤ 126))) := by
 unfold g_2k.f
 have : IntKind.i32.wrap (((32 : UInt8).toNat : Nat) : Int) = 32 := by decide
 rw [this]
 congr 1
 by_cases h1 : 32 ≤ r <;> by_cases h2 : r ≤ 126 <;> simp [h1, h2] <;> omega
theorem drop_getD {t : List UInt8} {a : Nat} (h : a < t.length) : t.drop a = t.getD a default :: t.drop (a + 1) := by
 rw [List.drop_eq_getElem_cons h, List.getD_eq_getElem?_getD, List.getElem?_eq_getElem h]; rfl
theorem indexFunc_iter (t : List UInt8) : ∀ d x : Nat, x + d = t.length →
  if (t.drop x).all shown = true then iter (g_30.b0 t 32 true) x = some (.inl t.length) else ∃ k : Nat, iter (g_30.b0 t 32 true) x = some (.inr (k : Int))
 | 0, x, h => by
  rw [show x = t.length by omega, List.drop_length]
  exact iter_stop (by unfold g_30.b0; rw [if_neg (by simp)])
 | d + 1, x, h => by
  have ih := indexFunc_iter t d (x + 1) (by omega)
  have key : g_30.b0 t 32 true x = if (decide (32 ≤ (dec t x).1) && decide ((dec t x).1 ≤ 126)) = true then some (.inl (x + (dec t x).2)) else some (.inr (.inr (x : Int))) := by
   unfold g_30.b0
   rw [if_pos (decide_eq_true (by omega)), notShown_eq, Option.bind_some]
   cases (decide (32 ≤ (dec t x).1) && decide ((dec t x).1 ≤ 126)) <;> rfl
  rw [drop_getD (by omega), List.all_cons]
  by_cases hb : (t.getD x default).toNat < 128
  ·rw [dec_lo hb] at key
   cases hs : shown (t.getD x default)
   ·rw [Bool.false_and, if_neg (by decide)]
    unfold shown at hs
    exact ⟨x, iter_stop (key.trans (if_neg (by rw [hs]; decide)))⟩
   ·rw [Bool.true_and]
    unfold shown at hs
    rw [iter_next (key.trans (if_pos hs))]
    exact ih
  ·have hh := dec_hi hb
   have hs : shown (t.getD x default) = false := by unfold shown; rw [decide_eq_false (show ¬ (t.getD x default).toNat ≤ 126 by omega), Bool.and_false]
   rw [hs, Bool.false_and, if_neg (by decide)]
   exact ⟨x, iter_stop (key.trans (if_neg (by rw [decide_eq_false (show ¬ (dec t x).1 ≤ 126 by omega), Bool.and_false]; decide)))⟩
theorem isShown_f (t : List UInt8) : g_2j.f t 32 = some (t.all shown) := by
 have h := indexFunc_iter t t.length 0 (by omega)
 rw [List.drop_zero] at h
 unfold g_2j.f g_2z.f g_30.f
 cases hs : t.all shown
 ·rw [hs, if_neg (by decide)] at h
  obtain ⟨k, hk⟩ := h
  rw [hk]
  simp [onSum]
 ·rw [hs, if_pos rfl] at h
  rw [h]
  simp [onSum]
theorem first2 (a b : Int) : g_2g.f [a, b] = some (if a ≠ 0 then a else b) := by
 have s0 : g_2g.b0 [a, b] 0 = if (a != 0) = true then some (.inr (.inr a)) else some (.inl 1) := rfl
 have s1 : g_2g.b0 [a, b] 1 = if (b != 0) = true then some (.inr (.inr b)) else some (.inl 2) := rfl
 have s2 : g_2g.b0 [a, b] 2 = some (.inr (.inl 2)) := rfl
 unfold g_2g.f
 by_cases ha : a = 0
 ·subst ha
  rw [iter_next (s0.trans (if_neg (by simp))), if_neg (by simp)]
  by_cases hb : b = 0
  ·subst hb
   rw [iter_next (s1.trans (if_neg (by simp))), iter_stop s2]; rfl
  ·rw [iter_stop (s1.trans (if_pos (by simp [hb])))]; rfl
 ·rw [iter_stop (s0.trans (if_pos (by simp [ha]))), if_pos ha]; rfl
def tErr (t : List UInt8) : Int := if 1320 < t.length then 8 else if t.all shown = true then 0 else 3
theorem textErr_f (t : List UInt8) : g_2u.f t = some (tErr t) := by
 unfold g_2u.f g_2v.f tErr
 rw [isShown_f]
 by_cases h : 1320 < t.length
 ·rw [if_neg (by simp; omega), if_pos h]
  cases t.all shown <;> simp [first2]
 ·rw [if_pos (by simp; omega), if_neg h]
  cases t.all shown <;> simp [first2]
theorem stp_fine {t : List UInt8} {a : Nat} {out : List UInt8} {frm : List Int} {own : List Bool} {cs : List (Int × Int)} (h : Fine t a out frm own cs) (ha : a < t.length) {a' : Nat} {o : List UInt8} {w : List Bool} {c : List (Int × Int)} (hs : stp t a out own frm = .ok (a', o, w, c)) :
  a < a' ∧ Fine t a' (out ++ o) (frm ++ rng a o.length) (own ++ w) (cs ++ c) ∧ o.length = w.length := by
 obtain ⟨h1, h2, h3, h4, h5, h6⟩ := h
 have key : a < a' ∧ a' ≤ t.length ∧ o.length ≤ a' - a ∧ w.length = o.length ∧ c.length ≤ 1 := by
  unfold stp at hs
  simp only at hs
  split at hs
  ·split at hs
   ·cases hs
   ·rename_i n hn
    obtain ⟨hn, _, _⟩ := List.findIdx?_eq_some_iff_getElem.1 hn
    rw [List.length_drop] at hn
    simp only [Except.ok.injEq, Prod.mk.injEq] at hs
    obtain ⟨rfl, rfl, rfl, rfl⟩ := hs
    rw [piece_len (by omega), List.length_replicate]
    exact ⟨by omega, by omega, by omega, rfl, Nat.le_refl _⟩
  ·split at hs
   ·split at hs
    ·cases hs
    ·split at hs
     ·cases hs
     ·simp only [Except.ok.injEq, Prod.mk.injEq] at hs
      obtain ⟨rfl, rfl, rfl, rfl⟩ := hs
      rw [List.length_cons, piece_len (by omega), List.length_cons, List.length_replicate]
      exact ⟨by omega, by omega, by omega, rfl, Nat.le_refl _⟩
   ·split at hs
    ·simp only [Except.ok.injEq, Prod.mk.injEq] at hs
     obtain ⟨rfl, rfl, rfl, rfl⟩ := hs
     exact ⟨by omega, by omega, by simp, rfl, by simp⟩
    ·simp only [Except.ok.injEq, Prod.mk.injEq] at hs
     obtain ⟨rfl, rfl, rfl, rfl⟩ := hs
     exact ⟨by omega, by omega, by simp, rfl, by simp⟩
 obtain ⟨k1, k2, k3, k4, k5⟩ := key
 refine ⟨k1, ⟨h1, k2, ?_, ?_, ?_, ?_⟩, k4.symm⟩
 ·rw [List.length_append]; omega
 ·rw [List.length_append, List.length_append, rng_len]; omega
 ·rw [List.length_append, List.length_append]; omega
 ·rw [List.length_append]; omega
theorem stp_err {t : List UInt8} {a : Nat} {out : List UInt8} {frm : List Int} {own : List Bool} {e : Int} (hs : stp t a out own frm = .error e) : e = 21 ∨ e = 11 := by
 unfold stp at hs
 simp only at hs
 split at hs
 ·split at hs
  ·simp only [Except.error.injEq] at hs; exact .inl hs.symm
  ·cases hs
 ·split at hs
  ·split at hs
   ·simp only [Except.error.injEq] at hs; exact .inl hs.symm
   ·split at hs
    ·simp only [Except.error.injEq] at hs; exact .inr hs.symm
    ·cases hs
  ·split at hs <;> cases hs
def sqz (t : List UInt8) : Nat → Nat → List UInt8 → List Int → List Bool → List (Int × Int) → Except Int (List UInt8 × List Int × List Bool × List (Int × Int))
 | 0, _, out, frm, own, cs => .ok (out, frm, own, cs)
 | n + 1, a, out, frm, own, cs => if a < t.length then
   match stp t a out own frm with
   | .error e => .error e
   | .ok (a', o, w, c) => sqz t n a' (out ++ o) (frm ++ rng a o.length) (own ++ w) (cs ++ c)
  else .ok (out, frm, own, cs)
theorem squeeze_iter {t : List UInt8} : ∀ (n a : Nat) (out : List UInt8) (frm : List Int) (own : List Bool) (cs : List (Int × Int)), Fine t a out frm own cs → t.length < a + n →
  iter (g_2l.b0 t) ((a : Int), out, frm, own, cs) = some (match sqz t n a out frm own cs with | .error e => .inr (none, e) | .ok r => .inl ((t.length : Int), r))
 | 0, a, out, frm, own, cs, h, hn => absurd h.la (by omega)
 | n + 1, a, out, frm, own, cs, h, hn => by
  unfold sqz
  by_cases ha : a < t.length
  ·rw [if_pos ha]
   have key : g_2l.b0 t ((a : Int), out, frm, own, cs) = match stp t a out own frm with | .error e => some (.inr (.inr (none, e))) | .ok (a', o, w, c) => some (.inl ((a' : Int), out ++ o, frm ++ rng a o.length, own ++ w, cs ++ c)) := by
    unfold g_2l.b0
    rw [if_pos (decide_eq_true (by simp only; omega))]
    simp only
    rw [next_f h ha, Option.bind_some]
    cases hs : stp t a out own frm with
    | error e =>
     rcases stp_err hs with rfl | rfl <;> rfl
    | ok r => rfl
   cases hs : stp t a out own frm with
   | error e =>
    rw [hs] at key
    exact iter_stop key
   | ok r =>
    obtain ⟨a', o, w, c⟩ := r
    rw [hs] at key
    obtain ⟨k1, k2, _⟩ := stp_fine h ha hs
    rw [iter_next key]
    exact squeeze_iter n a' _ _ _ _ k2 (by omega)
  ·rw [if_neg ha]
   have := h.la
   rw [show a = t.length by omega]
   exact iter_stop (by
    unfold g_2l.b0
    rw [if_neg (by simp)])
def SQ (t : List UInt8) : Except Int (List UInt8 × List Int × List Bool × List (Int × Int)) := if tErr t ≠ 0 then .error (tErr t) else sqz t (t.length + 1) 0 [] [] [] []
theorem squeeze_f (t : List UInt8) : g_2l.f t = some (match SQ t with | .error e => (none, e) | .ok r => (some (t, r), 0)) := by
 unfold g_2l.f SQ
 rw [textErr_f, Option.bind_some]
 by_cases h : tErr t = 0
 ·have hl : t.length ≤ 1320 := by
   unfold tErr at h
   split at h
   ·cases h
   ·omega
  rw [if_neg (by simp [h]), if_neg (by simp [h])]
  have := squeeze_iter (t := t) (t.length + 1) 0 [] [] [] [] ⟨by omega, by omega, Nat.le_refl _, rfl, rfl, Nat.le_refl _⟩ (by omega)
  show Option.bind (iter (g_2l.b0 t) (((0 : Nat) : Int), _)) _ = _
  rw [this, Option.bind_some]
  cases sqz t (t.length + 1) 0 [] [] [] [] <;> rfl
 ·rw [if_pos (by simp [h]), if_pos (by simp [h])]
theorem sqz_err {t : List UInt8} : ∀ (n a : Nat) (out : List UInt8) (frm : List Int) (own : List Bool) (cs : List (Int × Int)) (e : Int), sqz t n a out frm own cs = .error e → e ≠ 0
 | 0, _, _, _, _, _, e, h => by cases h
 | n + 1, a, out, frm, own, cs, e, h => by
  unfold sqz at h
  split at h
  ·split at h
   ·rename_i e' he
    simp only [Except.error.injEq] at h
    subst h
    rcases stp_err he with rfl | rfl <;> decide
   ·exact sqz_err n _ _ _ _ _ e h
  ·cases h
theorem SQ_err {t : List UInt8} {e : Int} (h : SQ t = .error e) : e ≠ 0 := by
 unfold SQ at h
 split at h
 ·rename_i h0
  simp only [Except.error.injEq] at h
  rw [← h]; exact h0
 ·exact sqz_err _ _ _ _ _ _ _ h
theorem Squeezed_f (t : List UInt8) : g_2f.f t = some (match SQ t with | .error e => ([], [], e) | .ok r => (r.1, r.2.1, 0)) := by
 unfold g_2f.f
 rw [squeeze_f, Option.bind_some]
 cases h : SQ t with
 | error e =>
  have := SQ_err h
  simp [onOpt, this]
 | ok r => rfl
theorem ConstantsIn_f (t : List UInt8) : g_2e.f t = some (match SQ t with | .error e => ([], e) | .ok r => (r.2.2.2, 0)) := by
 unfold g_2e.f
 rw [squeeze_f, Option.bind_some]
 cases h : SQ t with
 | error e =>
  have := SQ_err h
  simp [onOpt, this]
 | ok r => rfl
end Go.Proofs.YtcafgoomipkljaaGreatDoorAi
namespace Go.Proofs.YtcafgoomipkljaaGreatDoorAi
open Go Go.RowKit
set_option linter.unusedVariables false
set_option linter.unusedSimpArgs false
structure Rel (out : List UInt8) (own : List Bool) (pl : List UInt8) : Prop where
 h1 : out.length = own.length
 h2 : pl.length = own.length
 q : ∀ (k : Nat) (q : UInt8 → Bool), q 72 = false → q 34 = false → (!(own.getD k default) && q (out.getD k default)) = q (pl.getD k default)
theorem getD_app {α : Type} (l m : List α) (d : α) (k : Nat) : (l ++ m).getD k d = if k < l.length then l.getD k d else m.getD (k - l.length) d := by
 simp only [List.getD_eq_getElem?_getD]
 split
 ·rw [List.getElem?_append_left (by assumption)]
 ·rw [List.getElem?_append_right (by omega)]
theorem Rel.nil : Rel [] [] [] := ⟨rfl, rfl, fun k q _ _ => by simp⟩
theorem Rel.app {out : List UInt8} {own : List Bool} {pl o : List UInt8} {w : List Bool} {p : List UInt8} (h : Rel out own pl) (k : Rel o w p) : Rel (out ++ o) (own ++ w) (pl ++ p) := by
 refine ⟨by rw [List.length_append, List.length_append, h.h1, k.h1], by rw [List.length_append, List.length_append, h.h2, k.h2], fun i q q1 q2 => ?_⟩
 rw [getD_app, getD_app, getD_app, h.h1, h.h2]
 split
 ·exact h.q i q q1 q2
 ·exact k.q _ q q1 q2
theorem Rel.one (c : UInt8) : Rel [c] [false] [c] := ⟨rfl, rfl, fun k q _ _ => by
 cases k with
 | zero => simp
 | succ k => simp⟩
def isP (pl : List UInt8) (n : Nat) (sg : List UInt8) : Bool := match n with | 0 => false | n + 1 => sg.contains (pl.getD n default)
theorem Rel.isB {out : List UInt8} {own : List Bool} {pl : List UInt8} (h : Rel out own pl) (n : Nat) (sg : List UInt8) (h1 : sg.contains 72 = false) (h2 : sg.contains 34 = false) : isB out own n sg = isP pl n sg := by
 cases n with
 | zero => rfl
 | succ n => exact h.q n (fun c => sg.contains c) h1 h2
theorem Rel.pD {out : List UInt8} {own : List Bool} {pl : List UInt8} (h : Rel out own pl) : pD out own = fun k => isDg (pl.getD k default) := by
 funext k
 exact h.q k isDg (by decide) (by decide)
end Go.Proofs.YtcafgoomipkljaaGreatDoorAi
namespace Go.Proofs.YtcafgoomipkljaaGreatDoorAi
open Go Go.RowKit
set_option linter.unusedVariables false
set_option linter.unusedSimpArgs false
end Go.Proofs.YtcafgoomipkljaaGreatDoorAi
namespace Go.Proofs.YtcafgoomipkljaaGreatDoorAi
open Go Go.RowKit
set_option linter.unusedVariables false
set_option linter.unusedSimpArgs false
end Go.Proofs.YtcafgoomipkljaaGreatDoorAi
namespace Go.Proofs.YtcafgoomipkljaaGreatDoorAi
open Go Go.RowKit
set_option linter.unusedVariables false
set_option linter.unusedSimpArgs false
theorem sqz_len {t : List UInt8} : ∀ (n a : Nat) (out : List UInt8) (frm : List Int) (own : List Bool) (cs : List (Int × Int)) (r : List UInt8 × List Int × List Bool × List (Int × Int)), Fine t a out frm own cs → sqz t n a out frm own cs = .ok r → r.1.length ≤ t.length ∧ r.2.1.length = r.1.length ∧ r.2.2.1.length = r.1.length ∧ r.2.2.2.length ≤ t.length
 | 0, a, out, frm, own, cs, r, hf, h => by
  simp only [sqz, Except.ok.injEq] at h
  subst h
  exact ⟨Nat.le_trans hf.lo hf.la, hf.lf, hf.lw, Nat.le_trans hf.lc hf.la⟩
 | n + 1, a, out, frm, own, cs, r, hf, h => by
  unfold sqz at h
  split at h
  ·rename_i ha
   split at h
   ·cases h
   ·rename_i a' o w c hs
    exact sqz_len n a' _ _ _ _ r (stp_fine hf ha hs).2.1 h
  ·simp only [Except.ok.injEq] at h
   subst h
   exact ⟨Nat.le_trans hf.lo hf.la, hf.lf, hf.lw, Nat.le_trans hf.lc hf.la⟩
theorem SQ_len {t : List UInt8} {r : List UInt8 × List Int × List Bool × List (Int × Int)} (h : SQ t = .ok r) : t.length ≤ 1320 ∧ r.1.length ≤ t.length ∧ r.2.1.length = r.1.length ∧ r.2.2.1.length = r.1.length ∧ r.2.2.2.length ≤ t.length := by
 unfold SQ at h
 split at h
 ·cases h
 ·rename_i h0
  have hl : t.length ≤ 1320 := by
   unfold tErr at h0
   split at h0
   ·exact absurd (by decide) h0
   ·omega
  exact ⟨hl, sqz_len _ _ _ _ _ _ r ⟨by omega, Nat.zero_le _, Nat.le_refl _, rfl, rfl, Nat.le_refl _⟩ h⟩
end Go.Proofs.YtcafgoomipkljaaGreatDoorAi
namespace Go.Proofs.YtcafgoomipkljaaGreatDoorAi
open Go Go.RowKit
set_option maxRecDepth 100000
theorem awake_t : g_26.f = some true := by kernel_rfl
end Go.Proofs.YtcafgoomipkljaaGreatDoorAi
namespace Go.Proofs.YtcafgoomipkljaaGreatDoorAi
open Go Go.RowKit
set_option linter.unusedVariables false
set_option linter.unusedSimpArgs false
def InT (len : Nat) (cs : List (Int × Int)) : Prop := ∀ c ∈ cs, ∃ i n : Nat, c = ((i : Int), ((i + n : Nat) : Int)) ∧ i + n ≤ len
def LtA (a : Nat) (frm : List Int) : Prop := ∀ x ∈ frm, ∃ i : Nat, x = (i : Int) ∧ i < a
theorem LtA_rng {a b : Nat} : ∀ n, a + n ≤ b → LtA b (rng a n)
 | 0, _ => fun x hx => by simp [rng] at hx
 | n + 1, h => fun x hx => by
  simp only [rng, List.mem_cons] at hx
  rcases hx with rfl | hx
  ·exact ⟨a, rfl, by omega⟩
  ·exact LtA_rng (a := a + 1) n (by omega) x hx
theorem LtA.mono {a b : Nat} {l : List Int} (h : LtA a l) (hab : a ≤ b) : LtA b l := fun x hx => by
 obtain ⟨i, h1, h2⟩ := h x hx
 exact ⟨i, h1, by omega⟩
theorem LtA.app {a : Nat} {l m : List Int} (h : LtA a l) (k : LtA a m) : LtA a (l ++ m) := fun x hx => by
 rcases List.mem_append.1 hx with q | q
 ·exact h x q
 ·exact k x q
theorem InT.app {a : Nat} {l m : List (Int × Int)} (h : InT a l) (k : InT a m) : InT a (l ++ m) := fun x hx => by
 rcases List.mem_append.1 hx with q | q
 ·exact h x q
 ·exact k x q
theorem stp_in {t : List UInt8} {a : Nat} {out : List UInt8} {frm : List Int} {own : List Bool} {cs : List (Int × Int)} (h : Fine t a out frm own cs) (hl : LtA a frm) (ha : a < t.length) {a' : Nat} {o : List UInt8} {w : List Bool} {c : List (Int × Int)} (hs : stp t a out own frm = .ok (a', o, w, c)) :
  InT t.length c ∧ a + o.length ≤ a' := by
 obtain ⟨h1, h2, h3, h4, h5, h6⟩ := h
 have none_ : InT t.length [] := fun x hx => by cases hx
 unfold stp at hs
 simp only at hs
 split at hs
 ·split at hs
  ·cases hs
  ·rename_i n hn
   obtain ⟨hn, _, _⟩ := List.findIdx?_eq_some_iff_getElem.1 hn
   rw [List.length_drop] at hn
   simp only [Except.ok.injEq, Prod.mk.injEq] at hs
   obtain ⟨rfl, rfl, rfl, rfl⟩ := hs
   rw [piece_len (by omega)]
   refine ⟨fun x hx => ?_, by omega⟩
   rw [List.mem_singleton] at hx
   exact ⟨a, n + 2, hx, by omega⟩
 ·split at hs
  ·rename_i b hb
   have hb' : hol out own = some b := by
    split at hb
    ·exact hb
    ·cases hb
   obtain ⟨k1, _, _⟩ := hol_some hb'
   split at hs
   ·cases hs
   ·split at hs
    ·cases hs
    ·simp only [Except.ok.injEq, Prod.mk.injEq] at hs
     obtain ⟨rfl, rfl, rfl, rfl⟩ := hs
     rw [List.length_cons, piece_len (by omega)]
     refine ⟨fun x hx => ?_, by omega⟩
     rw [List.mem_singleton] at hx
     have hm : frm.getD b default ∈ frm := by
      rw [List.getD_eq_getElem?_getD, List.getElem?_eq_getElem (by omega)]
      exact List.getElem_mem _
     obtain ⟨i, e1, e2⟩ := hl _ hm
     generalize valL 0 (out.drop b) = v at *
     exact ⟨i, a + 1 + v - i, by rw [hx, e1, show i + (a + 1 + v - i) = a + 1 + v by omega], by omega⟩
  ·split at hs
   ·simp only [Except.ok.injEq, Prod.mk.injEq] at hs
    obtain ⟨rfl, rfl, rfl, rfl⟩ := hs
    exact ⟨none_, by simp⟩
   ·simp only [Except.ok.injEq, Prod.mk.injEq] at hs
    obtain ⟨rfl, rfl, rfl, rfl⟩ := hs
    exact ⟨none_, by simp⟩
theorem sqz_in {t : List UInt8} : ∀ (n a : Nat) (out : List UInt8) (frm : List Int) (own : List Bool) (cs : List (Int × Int)) (r : List UInt8 × List Int × List Bool × List (Int × Int)), Fine t a out frm own cs → LtA a frm → InT t.length cs → sqz t n a out frm own cs = .ok r → InT t.length r.2.2.2
 | 0, a, out, frm, own, cs, r, hf, hl, hi, h => by
  simp only [sqz, Except.ok.injEq] at h
  subst h
  exact hi
 | n + 1, a, out, frm, own, cs, r, hf, hl, hi, h => by
  unfold sqz at h
  split at h
  ·rename_i ha
   split at h
   ·cases h
   ·rename_i a' o w c hs
    obtain ⟨k1, k2⟩ := stp_in hf hl ha hs
    obtain ⟨k3, k4, _⟩ := stp_fine hf ha hs
    exact sqz_in n a' _ _ _ _ r k4 ((hl.mono (by omega)).app (LtA_rng o.length k2)) (hi.app k1) h
  ·simp only [Except.ok.injEq] at h
   subst h
   exact hi
theorem SQ_in {t : List UInt8} {r : List UInt8 × List Int × List Bool × List (Int × Int)} (h : SQ t = .ok r) : InT t.length r.2.2.2 := by
 unfold SQ at h
 split at h
 ·cases h
 ·rename_i h0
  have hl : t.length ≤ 1320 := by
   unfold tErr at h0
   split at h0
   ·exact absurd (by decide) h0
   ·omega
  exact sqz_in _ _ _ _ _ _ r ⟨by omega, Nat.zero_le _, Nat.le_refl _, rfl, rfl, Nat.le_refl _⟩ (fun x hx => by cases hx) (fun x hx => by cases hx) h
def mark1 (l : List Bool) (i : Nat) : Nat → List Bool
 | 0 => l
 | n + 1 => mark1 (l.set i true) (i + 1) n
theorem mark1_len : ∀ (n i : Nat) (l : List Bool), (mark1 l i n).length = l.length
 | 0, _, _ => rfl
 | n + 1, i, l => by unfold mark1; rw [mark1_len n, List.length_set]
def mks : List (Int × Int) → List Bool → List Bool
 | [], l => l
 | c :: cs, l => mks cs (mark1 l c.1.toNat (c.2 - c.1).toNat)
theorem mks_len : ∀ (cs : List (Int × Int)) (l : List Bool), (mks cs l).length = l.length
 | [], _ => rfl
 | c :: cs, l => by unfold mks; rw [mks_len cs, mark1_len]
def CS (t : List UInt8) : List (Int × Int) := match SQ t with | .error _ => [] | .ok r => r.2.2.2
theorem CS_in (t : List UInt8) : (CS t).length < 100000 ∧ InT t.length (CS t) := by
 unfold CS
 cases h : SQ t with
 | error e => exact ⟨by simp, fun x hx => by cases hx⟩
 | ok r => exact ⟨by have := SQ_len h; simp only; omega, SQ_in h⟩
theorem CS_f (t : List UInt8) : ∃ y, g_2e.f t = some y ∧ y.1 = CS t := by
 rw [ConstantsIn_f]
 unfold CS
 cases SQ t <;> exact ⟨_, rfl, rfl⟩
def MK (t : List UInt8) : List Bool := mks (CS t) (List.replicate t.length false)
theorem MK_len (t : List UInt8) : (MK t).length = t.length := by unfold MK; rw [mks_len, List.length_replicate]
theorem mark_iter {body : List Bool × Int → Option ((List Bool × Int) ⊕ (List Bool × Int))} {j len : Nat} (hj : j ≤ len) (hn : ∀ (l : List Bool) (k : Nat), k < j → l.length = len → body (l, (k : Int)) = some (.inl (l.set k true, ((k + 1 : Nat) : Int)))) (hs : ∀ l, body (l, (j : Int)) = some (.inr (l, (j : Int)))) :
  ∀ (n i : Nat) (l : List Bool), i + n = j → l.length = len → iter body (l, (i : Int)) = some (mark1 l i n, (j : Int))
 | 0, i, l, h, hl => by
  rw [show i = j by omega]
  exact iter_stop (hs l)
 | n + 1, i, l, h, hl => by
  rw [iter_next (hn l i (by omega) hl)]
  exact mark_iter hj hn hs n (i + 1) _ (by omega) (by rw [List.length_set]; exact hl)
theorem marks_iter {body : List Bool × Int → Option ((List Bool × Int) ⊕ (List Bool × Int))} {cs : List (Int × Int)} {len : Nat}
  (hn : ∀ (l : List Bool) (k i n : Nat), k < cs.length → gt cs (k : Int) = ((i : Int), ((i + n : Nat) : Int)) → i + n ≤ len → l.length = len → body (l, (k : Int)) = some (.inl (mark1 l i n, ((k + 1 : Nat) : Int))))
  (hs : ∀ l, body (l, (cs.length : Int)) = some (.inr (l, (cs.length : Int)))) (hi : InT len cs) :
  ∀ (d k : Nat) (l : List Bool), k + d = cs.length → l.length = len → iter body (l, (k : Int)) = some (mks (cs.drop k) l, (cs.length : Int))
 | 0, k, l, h, hl => by
  rw [show k = cs.length by omega, List.drop_length]
  exact iter_stop (hs l)
 | d + 1, k, l, h, hl => by
  have hk : k < cs.length := by omega
  obtain ⟨i, n, e1, e2⟩ := hi cs[k] (List.getElem_mem hk)
  have hg : gt cs (k : Int) = ((i : Int), ((i + n : Nat) : Int)) := by
   rw [gt_nat, List.getD_eq_getElem?_getD, List.getElem?_eq_getElem hk]; exact e1
  rw [iter_next (hn l k i n hk hg e2 hl), marks_iter hn hs hi d (k + 1) _ (by omega) (by rw [mark1_len]; exact hl), List.drop_eq_getElem_cons hk]
  show _ = some (mks (cs.drop (k + 1)) (mark1 l cs[k].1.toNat (cs[k].2 - cs[k].1).toNat), _)
  rw [e1]
  simp only
  rw [Int.toNat_natCast, show (((i + n : Nat) : Int) - (i : Int)).toNat = n by omega]
theorem constants_f {t : List UInt8} (ht : t.length < 10000) : g_b.f t = some (MK t) := by
 unfold g_b.f MK
 obtain ⟨y, hf, hy⟩ := CS_f t
 obtain ⟨hc, hi⟩ := CS_in t
 rw [if_pos ⟨by omega, by omega⟩, hf, Option.bind_some]
 generalize CS t = cs at *
 have := marks_iter (body := g_b.b0 y) (cs := cs) (len := t.length) (fun l k i n hk hg hb hl => by
  unfold g_b.b0
  rw [hy]
  simp only [hg]
  rw [if_pos (decide_eq_true (by omega)), if_pos ⟨by omega, by omega⟩, mark_iter (j := i + n) hb (fun l k' hk' hl' => by
   unfold g_b.b1
   rw [hy]
   simp only [hg]
   rw [if_pos (decide_eq_true (by omega)), if_pos ⟨by omega, by omega⟩, w64_id (by omega) (by omega)]
   rfl) (fun l => by
   unfold g_b.b1
   rw [hy]
   simp only [hg]
   rw [if_neg (by simp)]) n i l rfl hl, Option.bind_some, w64_id (by omega) (by omega)]
  rfl) (fun l => by
  unfold g_b.b0
  rw [hy, if_neg (by simp)]) hi cs.length 0 (List.replicate t.length false) (by omega) (by simp)
 rw [Int.toNat_natCast]
 show Option.bind (iter (g_b.b0 y) (_, ((0 : Nat) : Int))) _ = _
 rw [this]; rfl
end Go.Proofs.YtcafgoomipkljaaGreatDoorAi
namespace Go.Proofs.YtcafgoomipkljaaGreatDoorAi
open Go Go.RowKit
set_option linter.unusedVariables false
set_option linter.unusedSimpArgs false
def lvl : List (Bool × UInt8) → Int → List Int
 | [], _ => []
 | (m, c) :: r, n => if m = true then -1 :: lvl r n else (if c = 41 then n - 1 else n) :: lvl r (if c = 40 then (if c = 41 then n - 1 else n) + 1 else (if c = 41 then n - 1 else n))
theorem lvl_len : ∀ (z : List (Bool × UInt8)) (n : Int), (lvl z n).length = z.length
 | [], _ => rfl
 | (m, c) :: r, n => by
  unfold lvl
  split <;> rw [List.length_cons, List.length_cons, lvl_len r]
def ZZ (t : List UInt8) : List (Bool × UInt8) := (MK t).zip t
theorem ZZ_len (t : List UInt8) : (ZZ t).length = t.length := by unfold ZZ; rw [List.length_zip, MK_len]; omega
theorem ZZ_drop {t : List UInt8} {k : Nat} (hk : k < t.length) : (ZZ t).drop k = ((MK t).getD k default, t.getD k default) :: (ZZ t).drop (k + 1) := by
 have h1 : k < (ZZ t).length := by rw [ZZ_len]; exact hk
 have h2 : k < (MK t).length := by rw [MK_len]; exact hk
 rw [List.drop_eq_getElem_cons h1]
 congr 1
 have : (ZZ t)[k] = ((MK t)[k], t[k]) := by simp [ZZ]
 rw [this, List.getD_eq_getElem?_getD, List.getD_eq_getElem?_getD, List.getElem?_eq_getElem h2, List.getElem?_eq_getElem hk]
 rfl
theorem app1 {α : Type} (l : List α) (x : α) (r : List α) : (l ++ [x]) ++ r = l ++ x :: r := by simp
theorem levels_iter {t : List UInt8} (ht : t.length < 10000) : ∀ (d k : Nat) (acc : List Int) (n : Int), k + d = t.length → acc.length = k → -(k : Int) ≤ n → n ≤ k →
  ∃ n', iter (g_f.b0 t (MK t)) (acc, n, (k : Int)) = some (acc ++ lvl ((ZZ t).drop k) n, n', (t.length : Int))
 | 0, k, acc, n, h, ha, h1, h2 => by
  have e : (ZZ t).drop k = [] := by rw [List.drop_eq_nil_iff, ZZ_len]; omega
  rw [e, show k = t.length by omega]
  exact ⟨n, iter_stop (by unfold g_f.b0; rw [MK_len, if_neg (by simp)]; simp [lvl])⟩
 | d + 1, k, acc, n, h, ha, h1, h2 => by
  rw [ZZ_drop (by omega)]
  have hk : 0 ≤ (k : Int) ∧ (k : Int) < (t.length : Int) := ⟨by omega, by omega⟩
  have ih := levels_iter ht d (k + 1)
  unfold lvl
  cases hm : (MK t).getD k default
  ·have e41 : ((41 : UInt8).toNat : Int) = (41 : UInt8).toNat := rfl
   have key : g_f.b0 t (MK t) (acc, n, (k : Int)) = some (.inl (acc ++ [if t.getD k default = 41 then n - 1 else n], (if t.getD k default = 40 then (if t.getD k default = 41 then n - 1 else n) + 1 else (if t.getD k default = 41 then n - 1 else n)), ((k + 1 : Nat) : Int))) := by
    unfold g_f.b0
    simp only [MK_len, gt_nat, u8eq]
    rw [if_pos (decide_eq_true hk.2), if_pos hk, hm, if_neg (by decide), if_pos hk]
    by_cases c41 : t.getD k default = 41
    ·rw [if_pos (decide_eq_true c41), Option.bind_some, if_pos (by simp only [List.length_cons, List.length_nil]; omega), if_pos hk, if_pos c41, c41, if_neg (by decide), if_neg (by decide), w64_id (by omega) (by omega), w64_id (by omega) (by omega)]
     rfl
    ·rw [if_neg (by simpa using c41), Option.bind_some, if_pos (by simp only [List.length_cons, List.length_nil]; omega), if_pos hk, if_neg c41]
     by_cases c40 : t.getD k default = 40
     ·rw [if_pos (decide_eq_true c40), if_pos c40, w64_id (by omega) (by omega), w64_id (by omega) (by omega)]
      rfl
     ·rw [if_neg (by simpa using c40), if_neg c40, w64_id (by omega) (by omega)]
      rfl
   rw [if_neg (by decide)]
   obtain ⟨n', h'⟩ := ih (acc ++ [if t.getD k default = 41 then n - 1 else n]) (if t.getD k default = 40 then (if t.getD k default = 41 then n - 1 else n) + 1 else (if t.getD k default = 41 then n - 1 else n)) (by omega) (by simp; omega) (by split <;> split <;> omega) (by split <;> split <;> omega)
   exact ⟨n', by rw [iter_next key, h', app1]⟩
  ·have key : g_f.b0 t (MK t) (acc, n, (k : Int)) = some (.inl (acc ++ [-1], n, ((k + 1 : Nat) : Int))) := by
    unfold g_f.b0
    simp only [MK_len, gt_nat, u8eq]
    rw [if_pos (decide_eq_true hk.2), if_pos hk, hm, if_pos rfl, if_pos (by simp only [List.length_cons, List.length_nil]; omega), w64_id (by omega) (by omega)]
    rfl
   rw [if_pos rfl]
   obtain ⟨n', h'⟩ := ih (acc ++ [-1]) n (by omega) (by simp; omega) (by omega) (by omega)
   exact ⟨n', by rw [iter_next key, h', app1]⟩
def LV (t : List UInt8) : List Int := lvl (ZZ t) 0
theorem LV_len (t : List UInt8) : (LV t).length = t.length := by unfold LV; rw [lvl_len, ZZ_len]
theorem levels_f {t : List UInt8} (ht : t.length < 10000) : g_f.f t = some (LV t) := by
 unfold g_f.f
 rw [constants_f ht, Option.bind_some]
 obtain ⟨n', h⟩ := levels_iter ht t.length 0 [] 0 (by omega) rfl (by omega) (by omega)
 show Option.bind (iter (g_f.b0 t (MK t)) (([] : List Int), (0 : Int), ((0 : Nat) : Int))) _ = _
 rw [h]; rfl
def chk : List (Bool × UInt8) → Nat → List Int → Int ⊕ List Int
 | [], _, o => .inr o
 | (m, c) :: r, k, o => if m = true then chk r (k + 1) o else if c = 40 then chk r (k + 1) (o ++ [(k : Int)]) else if c = 41 then (if o = [] then .inl (k : Int) else chk r (k + 1) o.dropLast) else chk r (k + 1) o
theorem mid_init (l : List Int) (h : l ≠ []) (hl : l.length < 1000000) : (0 ≤ (0 : Int) ∧ (0 : Int) ≤ (w64 ((l.length : Int) - 1)) ∧ (w64 ((l.length : Int) - 1)) ≤ (l.length : Int)) ∧ mid l (0 : Int) (w64 ((l.length : Int) - 1)) = l.dropLast := by
 have h0 : 0 < l.length := List.length_pos_iff.2 h
 have hw : w64 ((l.length : Int) - 1) = ((l.length - 1 : Nat) : Int) := by rw [w64_id] <;> omega
 rw [hw]
 refine ⟨⟨by omega, by omega, by omega⟩, ?_⟩
 unfold mid
 rw [Int.toNat_natCast, List.dropLast_eq_take]
 rfl
theorem chk_iter {t : List UInt8} (ht : t.length < 10000) : ∀ (d k : Nat) (o : List Int), k + d = t.length → o.length ≤ k →
  iter (g_5.b1 t (MK t)) (o, (k : Int)) = some (match chk ((ZZ t).drop k) k o with | .inl i => .inr (i, 10) | .inr o' => .inl (o', (t.length : Int)))
 | 0, k, o, h, ho => by
  have e : (ZZ t).drop k = [] := by rw [List.drop_eq_nil_iff, ZZ_len]; omega
  rw [e, show k = t.length by omega]
  exact iter_stop (by unfold g_5.b1; rw [MK_len, if_neg (by simp)]; rfl)
 | d + 1, k, o, h, ho => by
  rw [ZZ_drop (by omega)]
  have hk : 0 ≤ (k : Int) ∧ (k : Int) < (t.length : Int) := ⟨by omega, by omega⟩
  have ih := chk_iter ht d (k + 1)
  have hw : w64 ((k : Int) + 1) = ((k + 1 : Nat) : Int) := by rw [w64_id] <;> omega
  unfold chk
  have key : g_5.b1 t (MK t) (o, (k : Int)) = if (MK t).getD k default = true then some (.inl (o, ((k + 1 : Nat) : Int))) else if t.getD k default = 40 then some (.inl (o ++ [(k : Int)], ((k + 1 : Nat) : Int))) else if t.getD k default = 41 then (if o = [] then some (.inr (.inr ((k : Int), 10))) else some (.inl (o.dropLast, ((k + 1 : Nat) : Int)))) else some (.inl (o, ((k + 1 : Nat) : Int))) := by
   unfold g_5.b1
   simp only [MK_len, gt_nat, u8eq, hw]
   rw [if_pos (decide_eq_true hk.2), if_pos hk]
   cases (MK t).getD k default
   ·rw [if_neg (show ¬ (false = true) by decide), if_neg (show ¬ (false = true) by decide), if_pos hk]
    by_cases c40 : t.getD k default = 40
    ·rw [if_pos (decide_eq_true c40), if_pos c40, if_pos (by simp only [List.length_cons, List.length_nil]; omega)]
    ·rw [if_neg (by simpa using c40), if_neg c40, if_pos hk]
     by_cases c41 : t.getD k default = 41
     ·rw [if_pos (decide_eq_true c41), if_pos c41]
      by_cases h0 : o = []
      ·rw [if_pos h0, if_pos (by simp [h0])]
      ·obtain ⟨g1, g2⟩ := mid_init o h0 (by omega)
       have := List.length_pos_iff.2 h0
       rw [if_neg h0, if_neg (by simp; omega), if_pos g1, g2]
     ·rw [if_neg (by simpa using c41), if_neg c41]
   ·rw [if_pos rfl, if_pos rfl]
  cases hm : (MK t).getD k default
  ·rw [hm, if_neg (by decide)] at key
   rw [if_neg (by decide)]
   by_cases c40 : t.getD k default = 40
   ·rw [if_pos c40] at key ⊢
    rw [iter_next key, ih _ (by omega) (by simp; omega)]
   ·rw [if_neg c40] at key ⊢
    by_cases c41 : t.getD k default = 41
    ·rw [if_pos c41] at key ⊢
     by_cases h0 : o = []
     ·rw [if_pos h0] at key ⊢
      rw [iter_stop key]
     ·rw [if_neg h0] at key ⊢
      rw [iter_next key, ih _ (by omega) (by rw [List.length_dropLast]; omega)]
    ·rw [if_neg c41] at key ⊢
     rw [iter_next key, ih _ (by omega) (by omega)]
  ·rw [hm, if_pos rfl] at key
   rw [if_pos rfl, iter_next key, ih _ (by omega) (by omega)]
def agr : List UInt8 → List UInt8 → Nat
 | a :: l, b :: m => if a = b then agr l m + 1 else 0
 | _, _ => 0
theorem chk_bound : ∀ (z : List (Bool × UInt8)) (k : Nat) (o o' : List Int), chk z k o = .inr o' → o'.length ≤ o.length + z.length
 | [], _, o, o', h => by simp only [chk, Sum.inr.injEq] at h; subst h; simp
 | (m, c) :: r, k, o, o', h => by
  unfold chk at h
  split at h
  ·have := chk_bound r _ _ _ h; simp; omega
  ·split at h
   ·have := chk_bound r _ _ _ h; simp at this ⊢; omega
   ·split at h
    ·split at h
     ·cases h
     ·have := chk_bound r _ _ _ h; simp at this ⊢; omega
    ·have := chk_bound r _ _ _ h; simp; omega
theorem agr_iter {t : List UInt8} (ht : t.length < 10000) (y : List UInt8 × List Int × Int) (hy : y.1.length ≤ t.length) : ∀ (d k : Nat), k + d = y.1.length →
  iter (g_5.b0 t y) (k : Int) = some ((k + agr (y.1.drop k) (t.drop k) : Nat) : Int)
 | 0, k, h => by
  rw [show k = y.1.length by omega, List.drop_length]
  have hm : (if (t.length : Int) < (y.1.length : Int) then (t.length : Int) else (y.1.length : Int)) = (y.1.length : Int) := if_neg (by omega)
  exact iter_stop (by unfold g_5.b0; rw [hm, if_neg (by simp)]; simp [agr])
 | d + 1, k, h => by
  have ih := agr_iter ht y hy d (k + 1) (by omega)
  have hm : (if (t.length : Int) < (y.1.length : Int) then (t.length : Int) else (y.1.length : Int)) = (y.1.length : Int) := if_neg (by omega)
  have key : g_5.b0 t y (k : Int) = if y.1.getD k default = t.getD k default then some (.inl ((k + 1 : Nat) : Int)) else some (.inr (k : Int)) := by
   unfold g_5.b0
   rw [hm, if_pos (decide_eq_true (by omega)), if_pos ⟨by omega, by omega⟩, if_pos ⟨by omega, by omega⟩, u8eq, gt_nat, gt_nat, w64_id (by omega) (by omega)]
   by_cases e : y.1.getD k default = t.getD k default
   ·rw [if_pos e, if_pos (decide_eq_true e)]; rfl
   ·rw [if_neg e, if_neg (by simpa using e)]
  rw [drop_getD (t := y.1) (a := k) (by omega), drop_getD (t := t) (a := k) (by omega)]
  unfold agr
  by_cases e : y.1.getD k default = t.getD k default
  ·rw [if_pos e] at key ⊢
   rw [iter_next key, ih, show k + 1 + agr (y.1.drop (k + 1)) (t.drop (k + 1)) = k + (agr (y.1.drop (k + 1)) (t.drop (k + 1)) + 1) by omega]
  ·rw [if_neg e] at key ⊢
   rw [iter_stop key]; rfl
def CT (t : List UInt8) : Int × Int := match SQ t with
 | .error e => (0, e)
 | .ok r => if t = [] then (0, 17) else if r.1 ≠ t then ((agr r.1 t : Nat), 3) else match chk (ZZ t) 0 [] with
  | .inl i => (i, 10)
  | .inr o => if o = [] then (0, 0) else (o.getD (o.length - 1) default, 10)
theorem tail_eq {t : List UInt8} (ht : t.length < 10000) : ∀ z : Int ⊕ List Int, z = chk (ZZ t) 0 [] →
  (onSum (match z with | .inl i => (.inr (i, 10) : (List Int × Int) ⊕ (Int × Int)) | .inr o' => .inl (o', (t.length : Int))) fun y66 => (if (decide ((y66.1.length : Int) > 0)) = true then (if 0 ≤ (w64 ((y66.1.length : Int) - 1)) ∧ (w64 ((y66.1.length : Int) - 1)) < (y66.1.length : Int) then some ((gt y66.1 (w64 ((y66.1.length : Int) - 1))), (10 : Int)) else none) else some (0, 0))) =
   some (match z with | .inl i => (i, 10) | .inr o => if o = [] then (0, 0) else (o.getD (o.length - 1) default, 10)) := by
 intro z hz
 cases z with
 | inl i => rfl
 | inr o =>
  have hb := chk_bound _ _ _ _ hz.symm
  rw [ZZ_len] at hb
  simp only [List.length_nil, Nat.zero_add] at hb
  unfold onSum
  simp only
  by_cases h0 : o = []
  ·rw [if_pos h0, if_neg (by simp [h0])]
  ·have := List.length_pos_iff.2 h0
   have hw : w64 ((o.length : Int) - 1) = ((o.length - 1 : Nat) : Int) := by rw [w64_id] <;> omega
   rw [if_neg h0, if_pos (by simp; omega), hw, if_pos ⟨by omega, by omega⟩, gt_nat]
theorem CheckText_f {t : List UInt8} (ht : t.length < 10000) : g_5.f t = some (CT t) := by
 unfold g_5.f CT
 rw [Squeezed_f, Option.bind_some]
 cases hs : SQ t with
 | error e =>
  have he := SQ_err hs
  simp only
  rw [if_pos (by simpa using he)]
 | ok r =>
  obtain ⟨l1, l2, _⟩ := SQ_len hs
  simp only
  rw [if_neg (by decide)]
  by_cases h0 : t = []
  ·rw [if_pos (decide_eq_true h0), if_pos h0]
  ·rw [if_neg (by simpa using h0), if_neg h0]
   by_cases h1 : r.1 = t
   ·rw [if_neg (by simpa using h1), if_neg (by simpa using h1), constants_f ht, Option.bind_some]
    have := chk_iter ht t.length 0 [] (by omega) (by simp)
    show Option.bind (iter (g_5.b1 t (MK t)) (([] : List Int), ((0 : Nat) : Int))) _ = _
    rw [this, List.drop_zero, Option.bind_some]
    exact tail_eq ht _ rfl
   ·rw [if_pos (by simpa using h1), if_pos (by simpa using h1)]
    have := agr_iter ht (r.1, r.2.1, 0) l2 r.1.length 0 (by simp)
    show Option.bind (iter (g_5.b0 t (r.1, r.2.1, 0)) ((0 : Nat) : Int)) _ = _
    rw [this]; simp
theorem ctErr_f {t : List UInt8} (ht : t.length < 10000) : g_1z.f t = some (CT t).2 := by
 unfold g_1z.f
 rw [CheckText_f ht]; rfl
end Go.Proofs.YtcafgoomipkljaaGreatDoorAi
namespace Go.Proofs.YtcafgoomipkljaaGreatDoorAi
open Go Go.RowKit
set_option linter.unusedVariables false
set_option linter.unusedSimpArgs false
structure G0 (t : List UInt8) (L : List Int) : Prop where
 hl : t.length < 10000
 hL : L.length = t.length
structure GG (t : List UInt8) (L : List Int) : Prop extends G0 t L where
 par : ∀ i, i < t.length → L.getD i default = 0 → t.getD i default = 40 → ∃ j, i < j ∧ j < t.length ∧ L.getD j default = 0 ∧ t.getD j default = 41 ∧ ∀ k, i < k → k < j → L.getD k default ≠ 0
def nx (t : List UInt8) (L : List Int) (a : Nat) (p : UInt8 → Bool) : Bool := decide (a < t.length) && (L.getD a default == 0 && p (t.getD a default))
theorem nx_iff {t : List UInt8} {L : List Int} {a : Nat} {p : UInt8 → Bool} : nx t L a p = true ↔ a < t.length ∧ L.getD a default = 0 ∧ p (t.getD a default) = true := by
 simp [nx]
def NS (t : List UInt8) (L : List Int) (c : UInt8) (a b : Nat) : Prop := ∀ i, a ≤ i → i < b → ¬ (L.getD i default = 0 ∧ t.getD i default = c)
theorem NS.self {t : List UInt8} {L : List Int} {c : UInt8} {a : Nat} : NS t L c a a := fun i h1 h2 => absurd h1 (by omega)
theorem NS.trans {t : List UInt8} {L : List Int} {c : UInt8} {a b d : Nat} (h : NS t L c a b) (k : NS t L c b d) : NS t L c a d := fun i h1 h2 => by
 by_cases hb : i < b
 ·exact h i h1 hb
 ·exact k i (by omega) h2
theorem NS.one {t : List UInt8} {L : List Int} {c : UInt8} {a : Nat} (h : t.getD a default ≠ c) : NS t L c a (a + 1) := fun i h1 h2 => by
 rw [show i = a by omega]; exact fun k => h k.2
structure Mo (t : List UInt8) (L : List Int) (a : Nat) (ok : Bool) (b : Nat) (ok' : Bool) : Prop where
 le : a ≤ b
 len : b ≤ t.length
 good : ok' = true → ok = true
 ne : NS t L 61 a b
theorem Mo.self {t : List UInt8} {L : List Int} {a : Nat} (h : a ≤ t.length) {ok ok' : Bool} (g : ok' = true → ok = true) : Mo t L a ok a ok' := ⟨Nat.le_refl _, h, g, NS.self⟩
theorem Mo.trans {t : List UInt8} {L : List Int} {a b d : Nat} {o o' o'' : Bool} (h : Mo t L a o b o') (k : Mo t L b o' d o'') : Mo t L a o d o'' :=
 ⟨Nat.le_trans h.le k.le, k.len, fun g => h.good (k.good g), h.ne.trans k.ne⟩
theorem is_gen {t : List UInt8} {L : List Int} (g : G0 t L) (a : Nat) (ok : Bool) (p : UInt8 → Bool) :
  (if ok = true then (if (decide ((a : Int) < (t.length : Int))) = true then (if 0 ≤ (a : Int) ∧ (a : Int) < (L.length : Int) then (if ((L.getD a default) == 0) = true then (if 0 ≤ (a : Int) ∧ (a : Int) < (t.length : Int) then some (p (t.getD a default)) else none) else some false) else none) else some false) else some false) = some (ok && nx t L a p) := by
 have hL := g.hL
 unfold nx
 cases ok
 ·rfl
 ·rw [if_pos rfl, Bool.true_and]
  by_cases h : a < t.length
  ·rw [if_pos (decide_eq_true (by omega)), if_pos ⟨by omega, by omega⟩, decide_eq_true h, Bool.true_and]
   cases hl : (L.getD a default == 0)
   ·rw [if_neg (by decide)]; rfl
   ·rw [if_pos rfl, if_pos ⟨by omega, by omega⟩]; rfl
  ·rw [if_neg (by simpa using h), decide_eq_false h]; rfl
def isLt (c : UInt8) : Bool := decide (65 ≤ c.toNat) && decide (c.toNat ≤ 90)
theorem isLt_iff {c : UInt8} : isLt c = true ↔ 65 ≤ c.toNat ∧ c.toNat ≤ 90 := by simp [isLt]
theorem isLetter_eq (c : UInt8) : g_e.f c = some (isLt c) := by
 unfold g_e.f isLt
 congr 1
 congr 1
 ·exact decide_eq_decide.2 (by show ((65 : Nat) : Int) ≤ _ ↔ _; omega)
 ·exact decide_eq_decide.2 (by show _ ≤ ((90 : Nat) : Int) ↔ _; omega)
theorem isDigit2_eq (c : UInt8) : g_d.f c = some (isDg c) := by
 unfold g_d.f isDg
 congr 1
 congr 1
 ·exact decide_eq_decide.2 (by show ((48 : Nat) : Int) ≤ _ ↔ _; omega)
 ·exact decide_eq_decide.2 (by show _ ≤ ((57 : Nat) : Int) ↔ _; omega)
def isNm (c : UInt8) : Bool := (isLt c || isDg c) || decide (c = 95)
theorem name1_eq (c : UInt8) : g_1j.f c = some (isNm c) := by
 unfold g_1j.f
 rw [isLetter_eq, Option.bind_some, isDigit2_eq, u8eq]
 unfold isNm
 cases isLt c <;> rfl
theorem is1_f {t : List UInt8} {L : List Int} (g : G0 t L) (a : Nat) (ok : Bool) (u : UInt8) : g_y.f t L (a : Int) ok u = some (ok && nx t L a (fun c => decide (c = u))) := by
 unfold g_y.f g_x.f
 simp only [Option.bind_some, gt_nat, u8eq]
 exact is_gen g a ok (fun c => decide (c = u))
theorem is2_f {t : List UInt8} {L : List Int} (g : G0 t L) (a : Nat) (ok : Bool) : g_z.f t L (a : Int) ok = some (ok && nx t L a isLt) := by
 unfold g_z.f
 simp only [isLetter_eq, Option.bind_some, gt_nat]
 exact is_gen g a ok _
theorem is3_f {t : List UInt8} {L : List Int} (g : G0 t L) (a : Nat) (ok : Bool) : g_10.f t L (a : Int) ok = some (ok && nx t L a isNm) := by
 unfold g_10.f
 simp only [name1_eq, Option.bind_some, gt_nat]
 exact is_gen g a ok _
theorem is4_f {t : List UInt8} {L : List Int} (g : G0 t L) (a : Nat) (ok : Bool) : g_11.f t L (a : Int) ok = some (ok && nx t L a isDg) := by
 unfold g_11.f
 simp only [isDigit2_eq, Option.bind_some, gt_nat]
 exact is_gen g a ok _
theorem begins1_eq (c : UInt8) (sg : List UInt8) : g_j.f c sg = some (isLt c || sg.contains c) := by
 unfold g_j.f
 rw [isLetter_eq, Option.bind_some, indexByte_eq, Option.bind_some, idxB_ge]
 cases isLt c <;> rfl
theorem begins_f {t : List UInt8} {L : List Int} (g : G0 t L) (a : Nat) (ok : Bool) (sg : List UInt8) : g_i.f t L (a : Int) ok sg = some (ok && nx t L a (fun c => isLt c || sg.contains c)) := by
 unfold g_i.f g_12.f
 simp only [begins1_eq, Option.bind_some, gt_nat]
 have h := is_gen g a ok (fun c => isLt c || sg.contains c)
 exact (congrArg (fun o => Option.bind o fun y => some y) h).trans rfl
theorem isSign_f {t : List UInt8} {L : List Int} (g : G0 t L) (a : Nat) (ok : Bool) (u : UInt8) : g_w.f t L (a : Int) ok u = some (ok && nx t L a (fun c => decide (c = u))) := by
 unfold g_w.f
 rw [is1_f g, Option.bind_some]
theorem isParens_f {t : List UInt8} {L : List Int} (g : G0 t L) (a : Nat) (ok : Bool) : g_v.f t L (a : Int) ok = some (ok && nx t L a (fun c => decide (c = 40))) := by
 unfold g_v.f
 rw [isSign_f g, Option.bind_some]
theorem up1 {t : List UInt8} {L : List Int} (g : G0 t L) {a : Nat} (ha : a ≤ t.length) : w64 ((a : Int) + 1) = ((a + 1 : Nat) : Int) := by
 have := g.hl
 rw [w64_id (by omega) (by omega)]; rfl
theorem takes_f {t : List UInt8} {L : List Int} (g : G0 t L) (a : Nat) (ha : a ≤ t.length) (ok : Bool) (u : UInt8) :
  g_1r.f t L (a : Int) ok u = some (if (ok && nx t L a (fun c => decide (c = u))) = true then (true, ((a + 1 : Nat) : Int)) else (false, (a : Int))) := by
 unfold g_1r.f
 rw [isSign_f g, Option.bind_some, up1 g ha]
 cases (ok && nx t L a (fun c => decide (c = u))) <;> rfl
theorem sign_f {t : List UInt8} {L : List Int} (g : G0 t L) (a : Nat) (ha : a ≤ t.length) (ok : Bool) (u : UInt8) :
  g_1o.f t L (a : Int) ok u = some (if (ok && nx t L a (fun c => decide (c = u))) = true then (((a + 1 : Nat) : Int), true) else ((a : Int), false)) := by
 unfold g_1o.f g_1h.f
 rw [takes_f g a ha, Option.bind_some, Option.bind_some]
 cases ok
 ·rfl
 ·cases (true && nx t L a (fun c => decide (c = u))) <;> rfl
theorem takes_Mo {t : List UInt8} {L : List Int} (g : G0 t L) (a : Nat) (ha : a ≤ t.length) (ok : Bool) {u : UInt8} (hu : u ≠ 61) :
  ∃ is b, g_1r.f t L (a : Int) ok u = some (is, ((b : Nat) : Int)) ∧ Mo t L a ok b ok ∧ (is = true → ok = true ∧ b = a + 1 ∧ a < t.length ∧ L.getD a default = 0 ∧ t.getD a default = u) ∧ (is = false → b = a) := by
 rw [takes_f g a ha]
 cases h : (ok && nx t L a (fun c => decide (c = u)))
 ·exact ⟨false, a, rfl, Mo.self ha id, (fun h => by cases h), fun _ => rfl⟩
 ·rw [Bool.and_eq_true, nx_iff, decide_eq_true_eq] at h
  exact ⟨true, a + 1, rfl, ⟨by omega, by omega, id, NS.one (by rw [h.2.2.2]; exact hu)⟩, fun _ => ⟨h.1, rfl, h.2.1, h.2.2.1, h.2.2.2⟩, fun h => by cases h⟩
theorem sign_Mo {t : List UInt8} {L : List Int} (g : G0 t L) (a : Nat) (ha : a ≤ t.length) (ok : Bool) {u : UInt8} (hu : u ≠ 61) :
  ∃ b ok', g_1o.f t L (a : Int) ok u = some (((b : Nat) : Int), ok') ∧ Mo t L a ok b ok' ∧ (ok' = true → b = a + 1 ∧ a < t.length ∧ L.getD a default = 0 ∧ t.getD a default = u) ∧ (ok' = false → b = a) := by
 rw [sign_f g a ha]
 cases h : (ok && nx t L a (fun c => decide (c = u)))
 ·exact ⟨a, false, rfl, Mo.self ha (fun h => by cases h), (fun h => by cases h), fun _ => rfl⟩
 ·rw [Bool.and_eq_true, nx_iff, decide_eq_true_eq] at h
  exact ⟨a + 1, true, rfl, ⟨by omega, by omega, fun _ => h.1, NS.one (by rw [h.2.2.2]; exact hu)⟩, fun _ => ⟨rfl, h.2.1, h.2.2.1, h.2.2.2⟩, fun h => by cases h⟩
theorem isNm_ne {c : UInt8} (h : isNm c = true) : c ≠ 61 ∧ c ≠ 44 ∧ c ≠ 40 ∧ c ≠ 41 ∧ c ≠ 39 ∧ c ≠ 34 := by
 refine ⟨?_, ?_, ?_, ?_, ?_, ?_⟩ <;> (rintro rfl; revert h; decide)
theorem name_iter {t : List UInt8} {L : List Int} (g : G0 t L) (ok : Bool) : ∀ (d n a : Nat), n + d = 31 → a ≤ t.length →
  ∃ (n' b : Nat), iter (g_1i.b0 t L ok) ((n : Int), (a : Int)) = some ((n' : Int), (b : Int)) ∧ a ≤ b ∧ b ≤ t.length ∧ (∀ i, a ≤ i → i < b → L.getD i default = 0 ∧ isNm (t.getD i default) = true) ∧ ((0 < d ∧ ok = true ∧ nx t L a isNm = true) → a < b)
 | 0, n, a, h, ha => ⟨n, a, iter_stop (by
   unfold g_1i.b0
   simp only
   rw [if_neg (by simp; omega), Option.bind_some]
   rfl), Nat.le_refl _, ha, fun i h1 h2 => absurd h1 (by omega), fun h => absurd h.1 (by omega)⟩
 | d + 1, n, a, h, ha => by
  have hl := g.hl
  have key : g_1i.b0 t L ok ((n : Int), (a : Int)) = some (if (ok && nx t L a isNm) = true then .inl (((n + 1 : Nat) : Int), ((a + 1 : Nat) : Int)) else .inr ((n : Int), (a : Int))) := by
   unfold g_1i.b0
   simp only
   rw [if_pos (decide_eq_true (by omega)), is3_f g, Option.bind_some, Option.bind_some, up1 g ha, w64_id (by omega) (by omega)]
   cases (ok && nx t L a isNm) <;> rfl
  cases hc : (ok && nx t L a isNm)
  ·rw [hc] at key
   refine ⟨n, a, iter_stop key, Nat.le_refl _, ha, fun i h1 h2 => absurd h1 (by omega), fun h => ?_⟩
   rw [h.2.1, h.2.2] at hc
   cases hc
  ·rw [hc] at key
   rw [Bool.and_eq_true, nx_iff] at hc
   obtain ⟨n', b, h1, h2, h3, h4, h5⟩ := name_iter g ok d (n + 1) (a + 1) (by omega) (by omega)
   refine ⟨n', b, by rw [iter_next key, h1], by omega, h3, fun i i1 i2 => ?_, fun _ => by omega⟩
   by_cases hi : i = a
   ·rw [hi]; exact ⟨hc.2.2.1, hc.2.2.2⟩
   ·exact h4 i (by omega) i2
theorem name_Mo {t : List UInt8} {L : List Int} (g : G0 t L) (a : Nat) (ha : a ≤ t.length) (ok : Bool) :
  ∃ b ok', g_1i.f t L (a : Int) ok = some (((b : Nat) : Int), ok') ∧ Mo t L a ok b ok' ∧ NS t L 44 a b ∧ (∀ i, a ≤ i → i < b → L.getD i default = 0 ∧ isNm (t.getD i default) = true) ∧ (ok' = true → a < b ∧ isLt (t.getD a default) = true) := by
 unfold g_1i.f g_1h.f
 rw [is2_f g, Option.bind_some, Option.bind_some]
 obtain ⟨n', b, h1, h2, h3, h4, h5⟩ := name_iter g (ok && (ok && nx t L a isLt)) 31 0 a (by omega) ha
 have e : ((0 : Int), (a : Int)) = (((0 : Nat) : Int), (a : Int)) := rfl
 rw [e, h1, Option.bind_some]
 refine ⟨b, _, rfl, ⟨h2, h3, fun h => by rw [Bool.and_eq_true] at h; exact h.1, fun i i1 i2 k => (isNm_ne (h4 i i1 i2).2).1 k.2⟩, fun i i1 i2 k => (isNm_ne (h4 i i1 i2).2).2.1 k.2, h4, fun h => ?_⟩
 have h' := h
 rw [Bool.and_eq_true, Bool.and_eq_true, nx_iff] at h'
 refine ⟨h5 ⟨by omega, h, nx_iff.2 ⟨h'.2.2.1, h'.2.2.2.1, ?_⟩⟩, h'.2.2.2.2⟩
 unfold isNm
 rw [h'.2.2.2.2]; rfl
end Go.Proofs.YtcafgoomipkljaaGreatDoorAi
namespace Go.Proofs.YtcafgoomipkljaaGreatDoorAi
open Go Go.RowKit
set_option linter.unusedVariables false
set_option linter.unusedSimpArgs false
theorem parens_iter {t : List UInt8} {L : List Int} (g : G0 t L) {j : Nat} (hj : j < t.length) (hj0 : L.getD j default = 0) (hj1 : t.getD j default = 41) (y : Int) :
  ∀ (d k : Nat), k + d = j → (∀ i, k ≤ i → i < j → L.getD i default ≠ 0) → iter (g_1m.b0 t L (y, true)) (k : Int) = some (.inr (((j + 1 : Nat) : Int), true))
 | 0, k, h, hn => by
  have hl := g.hl
  have hL := g.hL
  obtain rfl : k = j := by omega
  refine iter_stop ?_
  unfold g_1m.b0
  simp only
  rw [w64_id (x := (k : Int) + 1) (by omega) (by omega), w64_id (by omega) (by omega), show (k : Int) + 1 - 1 = (k : Int) by omega, if_pos True.intro, if_pos ⟨by omega, by omega⟩, gt_nat, gt_nat, hj0, hj1, if_pos (by decide), if_pos ⟨by omega, by omega⟩]
  rfl
 | d + 1, k, h, hn => by
  have hl := g.hl
  have hL := g.hL
  rw [iter_next (y := ((k + 1 : Nat) : Int)) ?_]
  ·exact parens_iter g hj hj0 hj1 y d (k + 1) (by omega) (fun i h1 h2 => hn i (by omega) h2)
  unfold g_1m.b0
  simp only
  rw [w64_id (x := (k : Int) + 1) (by omega) (by omega), w64_id (by omega) (by omega), show (k : Int) + 1 - 1 = (k : Int) by omega, if_pos True.intro, if_pos ⟨by omega, by omega⟩, gt_nat, if_neg (by simpa using hn k (by omega) (by omega))]
  rfl
theorem parens_Mo {t : List UInt8} {L : List Int} (g : GG t L) (a : Nat) (ha : a ≤ t.length) (ok : Bool) :
  ∃ b ok', g_1m.f t L (a : Int) ok = some (((b : Nat) : Int), ok') ∧ Mo t L a ok b ok' ∧ NS t L 44 a b ∧ (ok' = true → a + 1 < b ∧ L.getD a default = 0 ∧ t.getD a default = 40 ∧ L.getD (b - 1) default = 0 ∧ t.getD (b - 1) default = 41) ∧ (ok' = false → b = a) := by
 have hl := g.hl
 unfold g_1m.f
 rw [sign_f g.toG0 a ha]
 cases h : (ok && nx t L a (fun c => decide (c = 40)))
 ·refine ⟨a, false, ?_, Mo.self ha (fun h => by cases h), NS.self, (fun h => by cases h), fun _ => rfl⟩
  simp only [Bool.false_eq_true, if_false, Option.bind_some]
  rw [iter_stop (r := .inl (a : Int)) (by unfold g_1m.b0; rfl)]
  rfl
 ·rw [Bool.and_eq_true, nx_iff, decide_eq_true_eq] at h
  obtain ⟨h0, h1, h2, h3⟩ := h
  obtain ⟨j, j1, j2, j3, j4, j5⟩ := g.par a h1 h2 h3
  refine ⟨j + 1, true, ?_, ⟨by omega, by omega, fun _ => h0, ?_⟩, ?_, fun _ => ⟨by omega, h2, h3, j3, j4⟩, fun h => by cases h⟩
  ·simp only [if_true, Option.bind_some]
   rw [parens_iter g.toG0 j2 j3 j4 _ (j - (a + 1)) (a + 1) (by omega) (fun i i1 i2 => j5 i (by omega) i2)]
   rfl
  all_goals
   intro i i1 i2 k
   by_cases e : i = a
   ·rw [e, h3] at k; exact absurd k.2 (by decide)
   ·by_cases e : i = j
    ·rw [e, j4] at k; exact absurd k.2 (by decide)
    ·exact j5 i (by omega) (by omega) k.1
theorem maybeParens_Mo {t : List UInt8} {L : List Int} (g : GG t L) (a : Nat) (ha : a ≤ t.length) (ok : Bool) :
  ∃ b ok', g_1g.f t L (a : Int) ok = some (((b : Nat) : Int), ok') ∧ Mo t L a ok b ok' ∧ NS t L 44 a b := by
 unfold g_1g.f
 rw [isParens_f g.toG0, Option.bind_some]
 cases h : (ok && nx t L a (fun c => decide (c = 40)))
 ·exact ⟨a, ok, rfl, Mo.self ha id, NS.self⟩
 ·obtain ⟨b, ok', h1, h2, h3, _⟩ := parens_Mo g a ha ok
  refine ⟨b, ok', ?_, h2, h3⟩
  rw [if_pos rfl, h1]; rfl
theorem digits_iter {t : List UInt8} {L : List Int} (g : G0 t L) (ok : Bool) : ∀ (d a : Nat), a + d = t.length →
  ∃ b : Nat, iter (g_o.b0 t L ok) (a : Int) = some (b : Int) ∧ a ≤ b ∧ b ≤ t.length ∧ ∀ i, a ≤ i → i < b → L.getD i default = 0 ∧ isDg (t.getD i default) = true := by
 have hl := g.hl
 intro d
 induction d with
 | zero =>
  intro a h
  refine ⟨a, iter_stop ?_, Nat.le_refl _, by omega, fun i h1 h2 => absurd h1 (by omega)⟩
  unfold g_o.b0
  rw [is4_f g, Option.bind_some]
  have : nx t L a isDg = false := by unfold nx; rw [decide_eq_false (by omega)]; rfl
  rw [this, Bool.and_false, if_neg (by decide)]
 | succ d ih =>
  intro a h
  have key : g_o.b0 t L ok (a : Int) = some (if (ok && nx t L a isDg) = true then .inl ((a + 1 : Nat) : Int) else .inr (a : Int)) := by
   unfold g_o.b0
   rw [is4_f g, Option.bind_some, up1 g (by omega)]
   cases (ok && nx t L a isDg) <;> rfl
  cases hc : (ok && nx t L a isDg)
  ·rw [hc] at key
   exact ⟨a, iter_stop key, Nat.le_refl _, by omega, fun i h1 h2 => absurd h1 (by omega)⟩
  ·rw [hc] at key
   rw [Bool.and_eq_true, nx_iff] at hc
   obtain ⟨b, h1, h2, h3, h4⟩ := ih (a + 1) (by omega)
   refine ⟨b, by rw [iter_next key, h1], by omega, h3, fun i i1 i2 => ?_⟩
   by_cases hi : i = a
   ·rw [hi]; exact ⟨hc.2.2.1, hc.2.2.2⟩
   ·exact h4 i (by omega) i2
theorem isDg_ne {c : UInt8} (h : isDg c = true) : c ≠ 61 ∧ c ≠ 44 := by
 refine ⟨?_, ?_⟩ <;> (rintro rfl; revert h; decide)
theorem digits_Mo {t : List UInt8} {L : List Int} (g : G0 t L) (a : Nat) (ha : a ≤ t.length) (ok : Bool) :
  ∃ s b ok', g_o.f t L (a : Int) ok = some (s, ((b : Nat) : Int), ok') ∧ Mo t L a ok b ok' ∧ (ok' = true → a < b ∧ L.getD a default = 0 ∧ isDg (t.getD a default) = true ∧ ∀ i, a ≤ i → i < b → L.getD i default = 0) ∧ s.length ≤ t.length := by
 have hl := g.hl
 unfold g_o.f g_1h.f
 obtain ⟨b, h1, h2, h3, h4⟩ := digits_iter g ok (t.length - a) a (by omega)
 rw [h1, Option.bind_some, Option.bind_some, if_pos ⟨by omega, by omega, by omega⟩]
 refine ⟨_, b, _, rfl, ⟨h2, h3, (fun h => by rw [Bool.and_eq_true] at h; exact h.1), fun i i1 i2 k => (isDg_ne (h4 i i1 i2).2).1 k.2⟩, fun h => ?_, ?_⟩
 ·rw [Bool.and_eq_true, decide_eq_true_eq] at h
  have : a < b := by omega
  exact ⟨this, (h4 a (Nat.le_refl _) this).1, (h4 a (Nat.le_refl _) this).2, fun i i1 i2 => (h4 i i1 i2).1⟩
 ·unfold mid; rw [List.length_drop, List.length_take]; omega
theorem label_Mo {t : List UInt8} {L : List Int} (g : G0 t L) (a : Nat) (ha : a ≤ t.length) (ok : Bool) :
  ∃ b ok', g_16.f t L (a : Int) ok = some (((b : Nat) : Int), ok') ∧ Mo t L a ok b ok' ∧ (ok' = true → a < b ∧ L.getD a default = 0 ∧ isDg (t.getD a default) = true ∧ ∀ i, a ≤ i → i < b → L.getD i default = 0) := by
 have hl := g.hl
 unfold g_16.f g_1h.f
 obtain ⟨s, b, o, h1, h2, h3, h4⟩ := digits_Mo g a ha ok
 rw [h1, Option.bind_some]
 simp only
 have tr : g_Trim.f s [48] = some (Lib.trimB s 48) := by
  unfold g_Trim.f
  exact if_pos ⟨by decide, by omega⟩
 rw [tr]
 have key : ∀ z : Bool, ∃ b' ok', Option.bind (some (o && z)) (fun y7 => some (((b : Nat) : Int), y7)) = some (((b' : Nat) : Int), ok') ∧ Mo t L a ok b' ok' ∧ (ok' = true → a < b' ∧ L.getD a default = 0 ∧ isDg (t.getD a default) = true ∧ ∀ i, a ≤ i → i < b' → L.getD i default = 0) := fun z =>
  ⟨b, _, rfl, ⟨h2.le, h2.len, (fun h => by rw [Bool.and_eq_true] at h; exact h2.good h.1), h2.ne⟩, (fun h => by rw [Bool.and_eq_true] at h; exact h3 h.1)⟩
 split
 ·exact key _
 ·exact key _
theorem some_iter {t : List UInt8} {L : List Int} (g : G0 t L) (ok : Bool) (sg : List UInt8) : ∀ (d a : Nat), a + d = t.length →
  ∃ b : Nat, iter (g_1p.b0 t L ok sg) (a : Int) = some (b : Int) ∧ a ≤ b ∧ b ≤ t.length ∧ ∀ i, a ≤ i → i < b → L.getD i default ≠ 0 ∨ sg.contains (t.getD i default) = false := by
 have hl := g.hl
 have hL := g.hL
 intro d
 induction d with
 | zero =>
  intro a h
  refine ⟨a, iter_stop ?_, Nat.le_refl _, by omega, fun i h1 h2 => absurd h1 (by omega)⟩
  unfold g_1p.b0
  rw [if_neg (c := decide _ = true) (by simp; omega)]
  cases ok <;> rfl
 | succ d ih =>
  intro a h
  have key : g_1p.b0 t L ok sg (a : Int) = some (if (ok && ((L.getD a default != 0) || !sg.contains (t.getD a default))) = true then .inl ((a + 1 : Nat) : Int) else .inr (a : Int)) := by
   unfold g_1p.b0
   cases ok
   ·rfl
   ·rw [if_pos rfl, if_pos (decide_eq_true (by omega)), if_pos ⟨by omega, by omega⟩, gt_nat, gt_nat, up1 g (by omega)]
    cases (L.getD a default != 0)
    ·rw [if_neg (by decide), if_pos ⟨by omega, by omega⟩, indexByte_eq, Option.bind_some, ← idxB_ge]
     by_cases hx : idxB sg (t.getD a default) < 0
     ·rw [if_pos (decide_eq_true hx), decide_eq_false (by omega)]; rfl
     ·rw [if_neg (by simpa using hx), decide_eq_true (by omega)]; rfl
    ·rfl
  cases hc : (ok && ((L.getD a default != 0) || !sg.contains (t.getD a default)))
  ·rw [hc] at key
   exact ⟨a, iter_stop key, Nat.le_refl _, by omega, fun i h1 h2 => absurd h1 (by omega)⟩
  ·rw [hc] at key
   rw [Bool.and_eq_true, Bool.or_eq_true] at hc
   obtain ⟨b, h1, h2, h3, h4⟩ := ih (a + 1) (by omega)
   refine ⟨b, by rw [iter_next key, h1], by omega, h3, fun i i1 i2 => ?_⟩
   by_cases hi : i = a
   ·rw [hi]
    rcases hc.2 with q | q
    ·exact .inl (by simpa using q)
    ·exact .inr (by simpa using q)
   ·exact h4 i (by omega) i2
theorem some_Mo {t : List UInt8} {L : List Int} (g : G0 t L) (a : Nat) (ha : a ≤ t.length) (ok : Bool) {sg : List UInt8} (hs : sg.contains 61 = true) :
  ∃ b ok', g_1p.f t L (a : Int) ok sg = some (((b : Nat) : Int), ok') ∧ Mo t L a ok b ok' ∧ (ok' = true → a < b) ∧ (sg.contains 44 = true → NS t L 44 a b) := by
 have hl := g.hl
 unfold g_1p.f g_1h.f
 obtain ⟨b, h1, h2, h3, h4⟩ := some_iter g ok sg (t.length - a) a (by omega)
 rw [h1, Option.bind_some, Option.bind_some]
 have ns : ∀ c, sg.contains c = true → NS t L c a b := fun c hc i i1 i2 k => by
  rcases h4 i i1 i2 with q | q
  ·exact q k.1
  ·rw [k.2, hc] at q; cases q
 exact ⟨b, _, rfl, ⟨h2, h3, (fun h => by rw [Bool.and_eq_true] at h; exact h.1), ns 61 hs⟩, (fun h => by rw [Bool.and_eq_true, decide_eq_true_eq] at h; omega), ns 44⟩
theorem expr_Mo {t : List UInt8} {L : List Int} (g : G0 t L) (a : Nat) (ha : a ≤ t.length) (ok : Bool) :
  ∃ b ok', g_r.f t L (a : Int) ok = some (((b : Nat) : Int), ok') ∧ Mo t L a ok b ok' ∧ (ok' = true → a < b) ∧ NS t L 44 a b := by
 unfold g_r.f
 obtain ⟨b, ok', h1, h2, h3, h4⟩ := some_Mo g a ha ok (sg := [61, 44]) (by decide)
 rw [h1]
 exact ⟨b, ok', rfl, h2, h3, h4 (by decide)⟩
theorem rest_Mo {t : List UInt8} {L : List Int} (g : G0 t L) (a : Nat) (ha : a ≤ t.length) (ok : Bool) :
  ∃ b ok', g_1n.f t L (a : Int) ok = some (((b : Nat) : Int), ok') ∧ Mo t L a ok b ok' := by
 unfold g_1n.f
 obtain ⟨b, ok', h1, h2, h3, h4⟩ := some_Mo g a ha ok (sg := [61]) (by decide)
 rw [h1]
 exact ⟨b, ok', rfl, h2⟩
end Go.Proofs.YtcafgoomipkljaaGreatDoorAi
namespace Go.Proofs.YtcafgoomipkljaaGreatDoorAi
open Go Go.RowKit
set_option linter.unusedVariables false
set_option linter.unusedSimpArgs false
structure CK (t : List UInt8) (L : List Int) (a : Nat) (J : List Int) : Prop where
 asc : J.Pairwise (· < ·)
 at1 : ∀ c ∈ J, ∃ n : Nat, c = ((n + 1 : Nat) : Int) ∧ n + 1 ≤ a ∧ n + 1 < t.length ∧ L.getD n default = 0
 num : J.length ≤ a
theorem CK.nil {t : List UInt8} {L : List Int} {a : Nat} : CK t L a [] := ⟨List.Pairwise.nil, (fun c h => by cases h), Nat.zero_le _⟩
theorem CK.mono {t : List UInt8} {L : List Int} {a b : Nat} {J : List Int} (h : CK t L a J) (k : a ≤ b) : CK t L b J :=
 ⟨h.asc, fun c hc => by obtain ⟨n, n1, n2, n3⟩ := h.at1 c hc; exact ⟨n, n1, by omega, n3⟩, Nat.le_trans h.num k⟩
theorem CK.snoc {t : List UInt8} {L : List Int} {a : Nat} {J : List Int} (h : CK t L a J) (h1 : a + 1 < t.length) (h2 : L.getD a default = 0) : CK t L (a + 1) (J ++ [((a + 1 : Nat) : Int)]) := by
 refine ⟨List.pairwise_append.2 ⟨h.asc, List.pairwise_singleton _ _, fun x hx y hy => ?_⟩, fun c hc => ?_, by have := h.num; simp; omega⟩
 ·obtain ⟨n, n1, n2, _⟩ := h.at1 x hx
  rw [List.mem_singleton] at hy
  rw [n1, hy]; omega
 ·rcases List.mem_append.1 hc with q | q
  ·exact (h.mono (Nat.le_succ a)).at1 c q
  ·rw [List.mem_singleton] at q
   exact ⟨a, q, Nat.le_refl _, h1, h2⟩
theorem cut_Mo {t : List UInt8} {L : List Int} (g : G0 t L) (a : Nat) (ha : a + 1 ≤ t.length) {J : List Int} (hJ : CK t L a J) (ok : Bool) (h0 : ok = true → L.getD a default = 0) :
  ∃ J', g_m.f t ((a + 1 : Nat) : Int) J ok = some J' ∧ CK t L (a + 1) J' := by
 have hl := g.hl
 have hn := hJ.num
 unfold g_m.f
 cases ok
 ·exact ⟨J, rfl, hJ.mono (Nat.le_succ _)⟩
 ·rw [if_pos rfl]
  by_cases h : a + 1 < t.length
  ·rw [if_pos (decide_eq_true (by omega)), if_pos ⟨by omega, by omega⟩, isLetter_eq, Option.bind_some, isDigit2_eq, Option.bind_some, if_pos (c := J.length + _ < _) (by simp; omega)]
   cases isLt (gt t ((a + 1 : Nat) : Int))
   ·cases isDg (gt t ((a + 1 : Nat) : Int))
    ·refine ⟨J, ?_, hJ.mono (Nat.le_succ _)⟩
     rw [if_neg (by decide), if_pos ⟨by omega, by omega⟩]; rfl
    ·refine ⟨_, ?_, hJ.snoc h (h0 rfl)⟩
     rw [if_neg (by decide), if_pos ⟨by omega, by omega⟩, if_pos rfl]
   ·exact ⟨_, if_pos rfl, hJ.snoc h (h0 rfl)⟩
  ·rw [if_neg (by simp; omega)]
   exact ⟨J, rfl, hJ.mono (Nat.le_succ _)⟩
theorem contains0_iter (l : List Int) (hl : l.length < 100000) : ∀ (d k : Nat), k + d = l.length →
  ∃ r : Int ⊕ Int, iter (g_2c.b0 l) (k : Int) = some r ∧ ((r = .inl (l.length : Int) ∧ ∀ i, k ≤ i → i < l.length → l.getD i default = 0) ∨ ∃ i : Nat, r = .inr (i : Int))
 | 0, k, h => ⟨.inl (k : Int), iter_stop (by unfold g_2c.b0; rw [if_neg (by simp; omega)]), .inl ⟨by rw [show k = l.length by omega], fun i h1 h2 => absurd h1 (by omega)⟩⟩
 | d + 1, k, h => by
  by_cases h0 : l.getD k default = 0
  ·obtain ⟨r, h1, h2⟩ := contains0_iter l hl d (k + 1) (by omega)
   refine ⟨r, ?_, ?_⟩
   ·rw [iter_next (y := ((k + 1 : Nat) : Int)) ?_]
    ·exact h1
    unfold g_2c.b0 g_t.f
    rw [if_pos (decide_eq_true (by omega)), if_pos ⟨by omega, by omega⟩, gt_nat, h0, w64_id (by omega) (by omega)]
    rfl
   ·rcases h2 with ⟨q, q'⟩ | q
    ·exact .inl ⟨q, fun i i1 i2 => by
      by_cases e : i = k
      ·rw [e]; exact h0
      ·exact q' i (by omega) i2⟩
    ·exact .inr q
  ·refine ⟨.inr (k : Int), iter_stop ?_, .inr ⟨k, rfl⟩⟩
   unfold g_2c.b0 g_t.f
   rw [if_pos (decide_eq_true (by omega)), if_pos ⟨by omega, by omega⟩, gt_nat, Option.bind_some, if_pos (by simpa using h0)]
theorem contains0_f (l : List Int) (hl : l.length < 100000) : ∃ is, g_28.f l = some is ∧ (is = false → ∀ i, i < l.length → l.getD i default = 0) := by
 unfold g_28.f g_2c.f
 obtain ⟨r, h1, h2⟩ := contains0_iter l hl l.length 0 (by omega)
 show ∃ is, Option.bind (Option.bind (iter _ ((0 : Nat) : Int)) _) _ = _ ∧ _
 rw [h1, Option.bind_some]
 rcases h2 with ⟨rfl, q⟩ | ⟨i, rfl⟩
 ·exact ⟨false, rfl, fun _ i hi => q i (by omega) hi⟩
 ·refine ⟨true, ?_, (fun h => by cases h)⟩
  show Option.bind (some (i : Int)) _ = _
  rw [Option.bind_some, decide_eq_true (by omega)]
theorem mid_to {α : Type} (l : List α) (a b : Nat) : mid l (a : Int) (b : Int) = (l.take b).drop a := rfl
theorem hasWord_Mo {t : List UInt8} {L : List Int} (g : G0 t L) (a : Nat) (ha : a ≤ t.length) (ok : Bool) (w : List UInt8) (hw : w.length < 1000) :
  ∃ is, g_s.f t L (a : Int) ok w = some is ∧ (is = true → ok = true ∧ (t.drop a).take w.length = w ∧ a + w.length ≤ t.length ∧ ∀ i, a ≤ i → i < a + w.length → L.getD i default = 0) := by
 have hl := g.hl
 have hL := g.hL
 unfold g_s.f
 cases ok
 ·exact ⟨false, rfl, (fun h => by cases h)⟩
 ·rw [if_neg (by decide), if_pos ⟨by omega, by omega, by omega⟩, mid_all]
  unfold g_2x.f g_23.f
  by_cases h1 : w.length ≤ (t.drop a).length
  ·have h1' := h1
   rw [List.length_drop] at h1'
   rw [if_pos (decide_eq_true (by omega)), if_pos ⟨by omega, by omega, by omega⟩, Option.bind_some, Option.bind_some, Option.bind_some]
   have e : mid (t.drop a) (0 : Int) (w.length : Int) = (t.drop a).take w.length := rfl
   rw [e]
   by_cases h2 : (t.drop a).take w.length = w
   ·rw [decide_eq_true h2, if_neg (by decide), w64_id (by omega) (by omega), if_pos ⟨by omega, by omega, by omega⟩]
    have e2 : mid L (a : Int) ((a : Int) + (w.length : Int)) = (L.take (a + w.length)).drop a := by
     rw [show (a : Int) + (w.length : Int) = ((a + w.length : Nat) : Int) by omega]; rfl
    rw [e2]
    obtain ⟨is, q1, q2⟩ := contains0_f ((L.take (a + w.length)).drop a) (by rw [List.length_drop, List.length_take]; omega)
    rw [q1, Option.bind_some]
    refine ⟨!is, rfl, fun h => ⟨rfl, h2, by omega, fun i i1 i2 => ?_⟩⟩
    have := q2 (by cases is <;> simp_all) (i - a) (by rw [List.length_drop, List.length_take]; omega)
    rw [List.getD_eq_getElem?_getD, List.getElem?_drop, show a + (i - a) = i by omega, List.getElem?_take, if_pos i2] at this
    rw [List.getD_eq_getElem?_getD]; exact this
   ·exact ⟨false, by rw [decide_eq_false h2]; rfl, (fun h => by cases h)⟩
  ·rw [List.length_drop] at h1
   rw [if_neg (by rw [List.length_drop]; simp; omega)]
   exact ⟨false, rfl, (fun h => by cases h)⟩
theorem pre_get {t w : List UInt8} {a : Nat} (h : (t.drop a).take w.length = w) {i : Nat} (h1 : a ≤ i) (h2 : i < a + w.length) : t.getD i default = w.getD (i - a) default := by
 conv => rhs; rw [← h]
 rw [List.getD_eq_getElem?_getD, List.getD_eq_getElem?_getD, List.getElem?_take, if_pos (by omega), List.getElem?_drop, show a + (i - a) = i by omega]
theorem word_Mo {t : List UInt8} {L : List Int} (g : G0 t L) (a : Nat) (ha : a ≤ t.length) {J : List Int} (hJ : CK t L a J) (ok : Bool) (w : List UInt8) (hw : 0 < w.length ∧ w.length < 1000) (hw2 : w.contains 61 = false) :
  ∃ b J' ok', g_1t.f t L (a : Int) J ok w = some (((b : Nat) : Int), J', ok') ∧ Mo t L a ok b ok' ∧ CK t L b J' ∧ (ok' = true → (t.drop a).take w.length = w ∧ b = a + w.length) := by
 have hl := g.hl
 unfold g_1t.f g_1h.f
 obtain ⟨is, h1, h2⟩ := hasWord_Mo g a ha ok w hw.2
 rw [h1, Option.bind_some, Option.bind_some]
 cases is
 ·rw [Bool.and_false, if_neg (by decide)]
  exact ⟨a, J, false, rfl, Mo.self ha (fun h => by cases h), hJ, (fun h => by cases h)⟩
 ·obtain ⟨rfl, p1, p2, p3⟩ := h2 rfl
  rw [Bool.and_true, if_pos rfl, w64_id (by omega) (by omega), show (a : Int) + (w.length : Int) = ((a + w.length - 1 + 1 : Nat) : Int) by omega]
  obtain ⟨J', c1, c2⟩ := cut_Mo g (a + w.length - 1) (by omega) (hJ.mono (by omega)) true (fun _ => p3 _ (by omega) (by omega))
  rw [c1, Option.bind_some]
  refine ⟨a + w.length - 1 + 1, J', true, rfl, ⟨by omega, by omega, id, fun i i1 i2 k => ?_⟩, c2, fun _ => ⟨p1, by omega⟩⟩
  have := k.2
  rw [pre_get p1 i1 (by omega)] at this
  have hm : (61 : UInt8) ∈ w := by
   rw [← this, List.getD_eq_getElem?_getD, List.getElem?_eq_getElem (show i - a < w.length by omega)]
   exact List.getElem_mem _
  rw [List.contains_eq_mem, decide_eq_false_iff_not] at hw2
  exact hw2 hm
def TY : List (List UInt8) := [([73, 78, 84, 69, 71, 69, 82]), ([82, 69, 65, 76]), ([68, 79, 85, 66, 76, 69, 80, 82, 69, 67, 73, 83, 73, 79, 78]), ([67, 79, 77, 80, 76, 69, 88]), ([68, 79, 85, 66, 76, 69, 67, 79, 77, 80, 76, 69, 88]), ([76, 79, 71, 73, 67, 65, 76]), ([67, 72, 65, 82, 65, 67, 84, 69, 82])]
theorem TY_ok : ∀ w ∈ TY, (0 < w.length ∧ w.length < 1000) ∧ w.contains 61 = false := by decide
theorem types_f : g_20.f = some TY := rfl
theorem oneIdx_iter {t : List UInt8} {L : List Int} (g : G0 t L) (a : Nat) (ha : a ≤ t.length) (ok : Bool) : ∀ (d k : Nat), k + d = 7 →
  ∃ r : Int ⊕ Int, iter (g_2d.b0 TY t L (a : Int) ok) (k : Int) = some r ∧ ((∃ v, r = .inl v) ∨ ∃ i : Nat, i < 7 ∧ r = .inr (i : Int))
 | 0, k, h => ⟨.inl (k : Int), iter_stop (by
   unfold g_2d.b0
   rw [if_neg (by show ¬ decide ((k : Int) < ((7 : Nat) : Int)) = true; simp; omega)]), .inl ⟨_, rfl⟩⟩
 | d + 1, k, h => by
  have e7 : TY.length = 7 := rfl
  have hk : k < TY.length := by omega
  obtain ⟨is, q, _⟩ := hasWord_Mo g a ha ok (TY.getD k default) (by
   rw [List.getD_eq_getElem?_getD, List.getElem?_eq_getElem hk]
   exact (TY_ok _ (List.getElem_mem hk)).1.2)
  cases is
  ·obtain ⟨r, h1, h2⟩ := oneIdx_iter g a ha ok d (k + 1) (by omega)
   refine ⟨r, ?_, h2⟩
   rw [iter_next (y := ((k + 1 : Nat) : Int)) ?_]
   ·exact h1
   unfold g_2d.b0
   rw [if_pos (decide_eq_true (by omega)), if_pos ⟨by omega, by omega⟩, gt_nat, q, Option.bind_some, w64_id (by omega) (by omega)]
   rfl
  ·refine ⟨.inr (k : Int), iter_stop ?_, .inr ⟨k, by omega, rfl⟩⟩
   unfold g_2d.b0
   rw [if_pos (decide_eq_true (by omega)), if_pos ⟨by omega, by omega⟩, gt_nat, q, Option.bind_some]
   rfl
theorem oneType_Mo {t : List UInt8} {L : List Int} (g : G0 t L) (a : Nat) (ha : a ≤ t.length) {J : List Int} (hJ : CK t L a J) (ok : Bool) :
  ∃ is b J' ok', g_1k.f t L (a : Int) J ok = some (is, ((b : Nat) : Int), J', ok') ∧ Mo t L a ok b ok' ∧ CK t L b J' ∧ (is = true → ok' = true → ∃ w ∈ TY, (t.drop a).take w.length = w ∧ b = a + w.length) ∧ (is = false → b = a ∧ J' = J ∧ ok' = ok) := by
 unfold g_1k.f g_2d.f
 rw [types_f, Option.bind_some]
 obtain ⟨r, h1, h2⟩ := oneIdx_iter g a ha ok 7 0 (by omega)
 show ∃ is b J' ok', Option.bind (Option.bind (iter _ ((0 : Nat) : Int)) _) _ = _ ∧ _
 rw [h1, Option.bind_some]
 rcases h2 with ⟨v, rfl⟩ | ⟨i, hi, rfl⟩
 ·exact ⟨false, a, J, ok, rfl, Mo.self ha id, hJ, (fun h => by cases h), fun _ => ⟨rfl, rfl, rfl⟩⟩
 ·have e7 : TY.length = 7 := rfl
  have hk : i < TY.length := by omega
  have hm : TY.getD i default ∈ TY := by
   rw [List.getD_eq_getElem?_getD, List.getElem?_eq_getElem hk]
   exact List.getElem_mem hk
  obtain ⟨b, J', ok', q1, q2, q3, q4⟩ := word_Mo g a ha hJ ok (TY.getD i default) (TY_ok _ hm).1 (TY_ok _ hm).2
  show ∃ is b J' ok', Option.bind (some (i : Int)) _ = _ ∧ _
  rw [Option.bind_some, if_neg (by simp), Option.bind_some, if_pos ⟨by omega, by omega⟩, gt_nat, q1, Option.bind_some]
  exact ⟨true, b, J', ok', rfl, q2, q3, fun _ h => ⟨_, hm, q4 h⟩, (fun h => by cases h)⟩
theorem list_gen {t : List UInt8} {L : List Int} (g : G0 t L) (P : Int → Bool → Option (Int × Bool)) (body : Int × Bool → Option ((Int × Bool) ⊕ (Int × Bool)))
  (hb : ∀ (a : Nat) ok, body ((a : Int), ok) = (if ok = true then Option.bind (g_1r.f t L (a : Int) ok 44) fun y8 => (if y8.1 = true then Option.bind (P y8.2 ok) fun y11 => some (.inl (y11.1, y11.2)) else some (.inr (y8.2, ok))) else some (.inr ((a : Int), ok))))
  (hP : ∀ (a : Nat) ok, a ≤ t.length → ∃ b ok', P (a : Int) ok = some (((b : Nat) : Int), ok') ∧ Mo t L a ok b ok') :
  ∀ (d a : Nat) (ok : Bool), a ≤ t.length → t.length ≤ a + d → ∃ b ok', iter body ((a : Int), ok) = some (((b : Nat) : Int), ok') ∧ Mo t L a ok b ok' := by
 intro d
 induction d with
 | zero =>
  intro a ok ha hd
  refine ⟨a, ok, iter_stop ?_, Mo.self ha id⟩
  rw [hb, takes_f g a ha]
  have : nx t L a (fun c => decide (c = 44)) = false := by unfold nx; rw [decide_eq_false (by omega)]; rfl
  rw [this]
  cases ok <;> rfl
 | succ d ih =>
  intro a ok ha hd
  cases ok
  ·refine ⟨a, false, iter_stop ?_, Mo.self ha id⟩
   rw [hb]; rfl
  ·obtain ⟨is, b, h1, h2, h3, h4⟩ := takes_Mo g a ha true (u := 44) (by decide)
   have hb1 := hb a true
   rw [h1, if_pos rfl, Option.bind_some] at hb1
   cases is
   ·obtain rfl := h4 rfl
    exact ⟨b, true, iter_stop hb1, Mo.self ha id⟩
   ·obtain ⟨_, e, _⟩ := h3 rfl
    obtain ⟨b', ok', p1, p2⟩ := hP b true h2.len
    simp only [if_true] at hb1
    rw [p1, Option.bind_some] at hb1
    obtain ⟨b2, ok2, i1, i2⟩ := ih b' ok' p2.len (by have := p2.le; omega)
    exact ⟨b2, ok2, by rw [iter_next hb1, i1], (h2.trans p2).trans i2⟩
theorem list_fin {t : List UInt8} {L : List Int} (g : G0 t L) (P : Int → Bool → Option (Int × Bool)) (body : Int × Bool → Option ((Int × Bool) ⊕ (Int × Bool)))
  (hb : ∀ (a : Nat) ok, body ((a : Int), ok) = (if ok = true then Option.bind (g_1r.f t L (a : Int) ok 44) fun y8 => (if y8.1 = true then Option.bind (P y8.2 ok) fun y11 => some (.inl (y11.1, y11.2)) else some (.inr (y8.2, ok))) else some (.inr ((a : Int), ok))))
  (hP : ∀ (a : Nat) ok, a ≤ t.length → ∃ b ok', P (a : Int) ok = some (((b : Nat) : Int), ok') ∧ Mo t L a ok b ok') (a : Nat) (ha : a ≤ t.length) (ok : Bool) :
  ∃ b ok', (Option.bind (P (a : Int) ok) fun y1 => Option.bind (iter body (y1.1, y1.2)) fun o4 => some (o4.1, o4.2)) = some (((b : Nat) : Int), ok') ∧ Mo t L a ok b ok' := by
 obtain ⟨b, o, h1, h2⟩ := hP a ok ha
 obtain ⟨b', o', k1, k2⟩ := list_gen g P body hb hP t.length b o h2.len (by omega)
 refine ⟨b', o', ?_, h2.trans k2⟩
 rw [h1, Option.bind_some, k1]; rfl
end Go.Proofs.YtcafgoomipkljaaGreatDoorAi
namespace Go.Proofs.YtcafgoomipkljaaGreatDoorAi
open Go Go.RowKit
set_option linter.unusedVariables false
set_option linter.unusedSimpArgs false
section
variable {t : List UInt8} {L : List Int}
theorem entity_Mo (g : GG t L) (a : Nat) (ok : Bool) (ha : a ≤ t.length) : ∃ b ok', g_q.f t L (a : Int) ok = some (((b : Nat) : Int), ok') ∧ Mo t L a ok b ok' := by
 unfold g_q.f
 obtain ⟨b1, o1, e1, m1, _⟩ := name_Mo g.toG0 a ha ok
 obtain ⟨b2, o2, e2, m2, _⟩ := maybeParens_Mo g b1 m1.len o1
 obtain ⟨is, b3, e3, m3, _, n3⟩ := takes_Mo g.toG0 b2 m2.len o2 (u := 42) (by decide)
 simp only [e1, e2, e3, Option.bind_some]
 cases is
 ·exact ⟨b3, o2, rfl, (m1.trans m2).trans m3⟩
 ·rw [if_neg (by decide), isParens_f g.toG0, Option.bind_some]
  cases (o2 && nx t L b3 (fun c => decide (c = 40)))
  ·obtain ⟨s, b4, o4, e4, m4, _⟩ := digits_Mo g.toG0 b3 m3.len o2
   rw [if_neg (by decide), e4]
   exact ⟨b4, o4, rfl, ((m1.trans m2).trans m3).trans m4⟩
  ·obtain ⟨b4, o4, e4, m4, _⟩ := parens_Mo g b3 m3.len o2
   rw [if_pos rfl, e4]
   exact ⟨b4, o4, rfl, ((m1.trans m2).trans m3).trans m4⟩
theorem array_Mo (g : GG t L) (a : Nat) (ok : Bool) (ha : a ≤ t.length) : ∃ b ok', g_h.f t L (a : Int) ok = some (((b : Nat) : Int), ok') ∧ Mo t L a ok b ok' := by
 unfold g_h.f
 obtain ⟨b1, o1, e1, m1, _⟩ := name_Mo g.toG0 a ha ok
 obtain ⟨b2, o2, e2, m2, _⟩ := parens_Mo g b1 m1.len o1
 simp only [e1, e2, Option.bind_some]
 exact ⟨b2, o2, rfl, m1.trans m2⟩
theorem block_Mo (g : GG t L) (a : Nat) (ok : Bool) (ha : a ≤ t.length) : ∃ b ok', g_l.f t L (a : Int) ok = some (((b : Nat) : Int), ok') ∧ Mo t L a ok b ok' := by
 unfold g_l.f
 obtain ⟨is, b1, e1, m1, n1, n2⟩ := takes_Mo g.toG0 a ha ok (u := 47) (by decide)
 obtain ⟨b2, o2, e2, m2, _⟩ := name_Mo g.toG0 b1 m1.len ok
 simp only [e1, Option.bind_some]
 cases is
 ·simp only [e2, Option.bind_some, Bool.false_eq_true, if_false]
  exact ⟨b2, o2, rfl, m1.trans m2⟩
 ·obtain ⟨b3, o3, e3, m3, _⟩ := sign_Mo g.toG0 b2 m2.len o2 (u := 47) (by decide)
  simp only [e2, e3, Option.bind_some, if_true]
  exact ⟨b3, o3, rfl, (m1.trans m2).trans m3⟩
theorem list1_Mo (g : GG t L) (a : Nat) (ok : Bool) (ha : a ≤ t.length) : ∃ b ok', g_19.f t L (a : Int) ok = some (((b : Nat) : Int), ok') ∧ Mo t L a ok b ok' :=
 list_fin g.toG0 (g_q.f t L) (g_19.b0 t L) (fun a ok => rfl) (fun a ok ha => entity_Mo g a ok ha) a ha ok
theorem list2_Mo (g : G0 t L) (a : Nat) (ok : Bool) (ha : a ≤ t.length) : ∃ b ok', g_1a.f t L (a : Int) ok = some (((b : Nat) : Int), ok') ∧ Mo t L a ok b ok' :=
 list_fin g (g_16.f t L) (g_1a.b0 t L) (fun a ok => rfl) (fun a ok ha => by obtain ⟨b, o, e, m, _⟩ := label_Mo g a ha ok; exact ⟨b, o, e, m⟩) a ha ok
theorem list3_Mo (g : GG t L) (a : Nat) (ok : Bool) (ha : a ≤ t.length) : ∃ b ok', g_1b.f t L (a : Int) ok = some (((b : Nat) : Int), ok') ∧ Mo t L a ok b ok' :=
 list_fin g.toG0 (g_h.f t L) (g_1b.b0 t L) (fun a ok => rfl) (fun a ok ha => array_Mo g a ok ha) a ha ok
theorem list4_Mo (g : GG t L) (a : Nat) (ok : Bool) (ha : a ≤ t.length) : ∃ b ok', g_1c.f t L (a : Int) ok = some (((b : Nat) : Int), ok') ∧ Mo t L a ok b ok' :=
 list_fin g.toG0 (g_1m.f t L) (g_1c.b0 t L) (fun a ok => rfl) (fun a ok ha => by obtain ⟨b, o, e, m, _⟩ := parens_Mo g a ha ok; exact ⟨b, o, e, m⟩) a ha ok
theorem list6_Mo (g : GG t L) (a : Nat) (ok : Bool) (ha : a ≤ t.length) : ∃ b ok', g_1e.f t L (a : Int) ok = some (((b : Nat) : Int), ok') ∧ Mo t L a ok b ok' :=
 list_fin g.toG0 (g_1i.f t L) (g_1e.b0 t L) (fun a ok => rfl) (fun a ok ha => by obtain ⟨b, o, e, m, _⟩ := name_Mo g.toG0 a ha ok; exact ⟨b, o, e, m⟩) a ha ok
theorem list7_Mo (g : GG t L) (a : Nat) (ok : Bool) (ha : a ≤ t.length) : ∃ b ok', g_1f.f t L (a : Int) ok = some (((b : Nat) : Int), ok') ∧ Mo t L a ok b ok' :=
 list_fin g.toG0 (g_l.f t L) (g_1f.b0 t L) (fun a ok => rfl) (fun a ok ha => block_Mo g a ok ha) a ha ok
theorem letters_Mo (g : GG t L) (a : Nat) (ha : a ≤ t.length) {J : List Int} (hJ : CK t L a J) (ok : Bool) : ∃ b J' ok', g_18.f t L (a : Int) J ok = some (((b : Nat) : Int), J', ok') ∧ Mo t L a ok b ok' ∧ CK t L b J' := by
 unfold g_18.f g_1h.f
 obtain ⟨is, b1, J1, o1, e1, m1, c1, _⟩ := oneType_Mo g.toG0 a ha hJ ok
 obtain ⟨b2, o2, e2, m2, _⟩ := parens_Mo g b1 m1.len (o1 && is)
 simp only [e1, e2, Option.bind_some]
 have m1' : Mo t L a ok b1 (o1 && is) := ⟨m1.le, m1.len, (fun h => by rw [Bool.and_eq_true] at h; exact m1.good h.1), m1.ne⟩
 exact ⟨b2, J1, o2, rfl, m1'.trans m2, c1.mono m2.le⟩
theorem list5_iter (g : GG t L) : ∀ (d a : Nat) (J : List Int) (ok : Bool), a ≤ t.length → t.length ≤ a + d → CK t L a J →
  ∃ b J' ok', iter (g_1d.b0 t L) ((a : Int), J, ok) = some (((b : Nat) : Int), J', ok') ∧ Mo t L a ok b ok' ∧ CK t L b J' := by
 intro d
 induction d with
 | zero =>
  intro a J ok ha hd hJ
  refine ⟨a, J, ok, iter_stop ?_, Mo.self ha id, hJ⟩
  unfold g_1d.b0
  simp only [takes_f g.toG0 a ha]
  have : nx t L a (fun c => decide (c = 44)) = false := by unfold nx; rw [decide_eq_false (by omega)]; rfl
  rw [this]
  cases ok <;> rfl
 | succ d ih =>
  intro a J ok ha hd hJ
  cases ok
  ·exact ⟨a, J, false, iter_stop rfl, Mo.self ha id, hJ⟩
  ·obtain ⟨is, b, h1, h2, h3, h4⟩ := takes_Mo g.toG0 a ha true (u := 44) (by decide)
   cases is
   ·obtain rfl := h4 rfl
    refine ⟨b, J, true, iter_stop ?_, Mo.self ha id, hJ⟩
    unfold g_1d.b0
    simp only [h1, Option.bind_some]
    rfl
   ·obtain ⟨_, e, _⟩ := h3 rfl
    obtain ⟨b', J', ok', p1, p2, p3⟩ := letters_Mo g b h2.len (hJ.mono h2.le) true
    obtain ⟨b2, J2, ok2, i1, i2, i3⟩ := ih b' J' ok' p2.len (by have := p2.le; omega) p3
    refine ⟨b2, J2, ok2, ?_, (h2.trans p2).trans i2, i3⟩
    rw [iter_next (y := (((b' : Nat) : Int), J', ok')) ?_, i1]
    unfold g_1d.b0
    simp only [h1, p1, Option.bind_some]
    rfl
theorem list5_Mo (g : GG t L) (a : Nat) (ha : a ≤ t.length) {J : List Int} (hJ : CK t L a J) (ok : Bool) : ∃ b J' ok', g_1d.f t L (a : Int) J ok = some (((b : Nat) : Int), J', ok') ∧ Mo t L a ok b ok' ∧ CK t L b J' := by
 unfold g_1d.f
 obtain ⟨b, J1, o, h1, h2, h3⟩ := letters_Mo g a ha hJ ok
 obtain ⟨b', J', o', k1, k2, k3⟩ := list5_iter g t.length b J1 o h2.len (by omega) h3
 simp only [h1, k1, Option.bind_some]
 exact ⟨b', J', o', rfl, h2.trans k2, k3⟩
theorem whole_f (b : Nat) (ok : Bool) : g_1s.f t (b : Int) ok = some (ok && decide (b = t.length)) := by
 unfold g_1s.f
 cases ok
 ·rfl
 ·rw [if_pos rfl]
  congr 1
  rw [Bool.true_and, Bool.eq_iff_iff]
  simp only [beq_iff_eq, decide_eq_true_eq]
  omega
theorem newMatch_f (ht : t.length < 10000) : g_1v.f t = some (t, LV t, 0, [], true) := by
 unfold g_1v.f
 rw [levels_f ht]; rfl
theorem labels_Mo (g : GG t L) (a : Nat) (ok : Bool) (ha : a ≤ t.length) : ∃ b ok', g_17.f t L (a : Int) ok = some (((b : Nat) : Int), ok') ∧ Mo t L a ok b ok' ∧ (ok' = true → t.getD a default = 40) := by
 have hl := g.hl
 unfold g_17.f
 obtain ⟨b, o, e, m, _, p, q⟩ := parens_Mo g a ha ok
 rw [e, Option.bind_some]
 cases o
 ·exact ⟨b, false, rfl, m, (fun h => by cases h)⟩
 ·obtain ⟨p1, p2, p3, p4, p5⟩ := p rfl
  have hb := m.len
  simp only
  rw [if_neg (by decide), w64_id (by omega) (by omega), w64_id (by omega) (by omega), if_pos ⟨by omega, by omega, by omega⟩]
  have hm : (mid t ((a : Int) + 1) ((b : Int) - 1)).length < 10000 := by
   unfold mid; rw [List.length_drop, List.length_take]; omega
  generalize mid t ((a : Int) + 1) ((b : Int) - 1) = s at hm
  rw [newMatch_f hm, Option.bind_some]
  obtain ⟨b2, o2, e2, _⟩ := list2_Mo (t := s) (L := LV s) ⟨hm, LV_len s⟩ 0 true (Nat.zero_le _)
  have e2' : g_1a.f s (LV s) 0 true = some (((b2 : Nat) : Int), o2) := e2
  simp only [e2', Option.bind_some, whole_f]
  unfold g_1h.f
  exact ⟨b, _, rfl, ⟨m.le, m.len, fun _ => m.good rfl, m.ne⟩, fun _ => p3⟩
theorem isMore_f (b : Nat) (ok : Bool) : g_u.f t (b : Int) ok = some (ok && decide (b < t.length)) := by
 unfold g_u.f
 cases ok
 ·rfl
 ·rw [if_pos rfl]
  congr 1
  rw [Bool.true_and]
  exact decide_eq_decide.2 (by omega)
theorem items_Mo (g : GG t L) (a : Nat) (ok : Bool) (ha : a ≤ t.length) : ∃ b ok', g_14.f t L (a : Int) ok = some (((b : Nat) : Int), ok') ∧ Mo t L a ok b ok' := by
 unfold g_14.f g_1h.f
 obtain ⟨b1, o1, e1, m1, _⟩ := parens_Mo g a ha ok
 simp only [e1, Option.bind_some, isMore_f]
 cases (o1 && decide (b1 < t.length))
 ·exact ⟨b1, o1, rfl, m1⟩
 ·rw [if_pos rfl, isSign_f g.toG0, Option.bind_some]
  generalize (!(o1 && nx t L b1 fun c => decide (c = 44))) = z
  obtain ⟨b2, o2, e2, m2⟩ := rest_Mo g.toG0 b1 m1.len (o1 && z)
  rw [e2]
  exact ⟨b2, o2, rfl, ⟨Nat.le_trans m1.le m2.le, m2.len, (fun h => m1.good (by have := m2.good h; rw [Bool.and_eq_true] at this; exact this.1)), m1.ne.trans m2.ne⟩⟩
theorem item_Mo (g : GG t L) (a : Nat) (ok : Bool) (ha : a ≤ t.length) : ∃ b ok', g_13.f t L (a : Int) ok = some (((b : Nat) : Int), ok') ∧ Mo t L a ok b ok' := by
 unfold g_13.f
 obtain ⟨b1, o1, e1, m1, _⟩ := expr_Mo g.toG0 a ha ok
 obtain ⟨is, b2, e2, m2, _⟩ := takes_Mo g.toG0 b1 m1.len o1 (u := 44) (by decide)
 simp only [e1, e2, Option.bind_some]
 cases is
 ·exact ⟨b2, o1, rfl, m1.trans m2⟩
 ·obtain ⟨b3, o3, e3, m3⟩ := rest_Mo g.toG0 b2 m2.len o1
  simp only [e3, Option.bind_some, if_true]
  exact ⟨b3, o3, rfl, (m1.trans m2).trans m3⟩
theorem stop_Mo (g : GG t L) (a : Nat) (ok : Bool) (ha : a ≤ t.length) : ∃ b ok', g_1q.f t L (a : Int) ok = some (((b : Nat) : Int), ok') ∧ a ≤ b ∧ b ≤ t.length ∧ (ok' = true → ok = true) ∧ (NS t L 61 a b ∨ (a < t.length ∧ (t.getD a default = 39 ∨ t.getD a default = 34))) := by
 have hl := g.hl
 unfold g_1q.f
 rw [isMore_f, Option.bind_some]
 cases h : (ok && decide (a < t.length))
 ·exact ⟨a, ok, rfl, Nat.le_refl _, ha, id, .inl NS.self⟩
 ·rw [Bool.and_eq_true, decide_eq_true_eq] at h
  rw [if_neg (by decide), if_pos ⟨by omega, by omega, by omega⟩, mid_all]
  obtain ⟨y, h1, h2⟩ := CS_f (t.drop a)
  rw [h1, Option.bind_some, if_pos ⟨by omega, by rw [List.length_drop]; omega⟩]
  have e0 : gt (t.drop a) (0 : Int) = t.getD a default := by
   show (t.drop a).getD 0 default = _
   rw [List.getD_eq_getElem?_getD, List.getElem?_drop, List.getD_eq_getElem?_getD]; rfl
  rw [e0, u8eq, u8eq]
  obtain ⟨s, b1, o1, e1, m1, _⟩ := digits_Mo g.toG0 a ha ok
  have two : ∀ z : Bool, (z = true → t.getD a default = 39 ∨ t.getD a default = 34) → ∃ b ok', (Option.bind (some z) fun z17 => (if z17 = true then some ((t.length : Int), ok) else Option.bind (g_o.f t L (a : Int) ok) fun y30 => some (y30.2.1, y30.2.2))) = some (((b : Nat) : Int), ok') ∧ a ≤ b ∧ b ≤ t.length ∧ (ok' = true → ok = true) ∧ (NS t L 61 a b ∨ (a < t.length ∧ (t.getD a default = 39 ∨ t.getD a default = 34))) := fun z hz => by
   cases z
   ·refine ⟨b1, o1, ?_, m1.le, m1.len, m1.good, .inl m1.ne⟩
    rw [Option.bind_some, if_neg (by decide), e1]; rfl
   ·exact ⟨t.length, ok, rfl, by omega, Nat.le_refl _, id, .inr ⟨h.2, hz rfl⟩⟩
  have one : ∀ z : Bool, (z = true → t.getD a default = 39 ∨ t.getD a default = 34) → ∃ b ok', (Option.bind (some z) fun z14 => Option.bind ((if (z14 && ((y.1.length : Int) == 1)) = true then (if 0 ≤ (0 : Int) ∧ (0 : Int) < (y.1.length : Int) then some ((((gt y.1 (0 : Int)).1) == 0) && (((gt y.1 (0 : Int)).2) == ((t.drop a).length : Int))) else none) else some false)) fun z17 => (if z17 = true then some ((t.length : Int), ok) else Option.bind (g_o.f t L (a : Int) ok) fun y30 => some (y30.2.1, y30.2.2))) = some (((b : Nat) : Int), ok') ∧ a ≤ b ∧ b ≤ t.length ∧ (ok' = true → ok = true) ∧ (NS t L 61 a b ∨ (a < t.length ∧ (t.getD a default = 39 ∨ t.getD a default = 34))) := fun z hz => by
   rw [Option.bind_some]
   by_cases hc : (z && ((y.1.length : Int) == 1)) = true
   ·rw [if_pos hc]
    rw [Bool.and_eq_true, beq_iff_eq] at hc
    rw [if_pos ⟨by omega, by omega⟩]
    exact two _ (fun _ => hz hc.1)
   ·rw [if_neg hc]
    exact two _ (fun h => by cases h)
  by_cases c1 : t.getD a default = 39
  ·rw [if_pos (decide_eq_true c1)]
   exact one _ (fun _ => .inl c1)
  ·rw [if_neg (by simpa using c1), if_pos ⟨by omega, by rw [List.length_drop]; omega⟩]
   exact one _ (fun h => .inr (by simpa using h))
end
end Go.Proofs.YtcafgoomipkljaaGreatDoorAi
namespace Go.Proofs.YtcafgoomipkljaaGreatDoorAi
open Go Go.RowKit
set_option linter.unusedVariables false
set_option linter.unusedSimpArgs false
section
variable {t : List UInt8} {L : List Int}
theorem data_iter (g : G0 t L) : ∀ (d k : Nat) (acc : List Int), k + d = t.length → acc.length ≤ k →
  ∃ acc', iter (g_n.b0 t L) (acc, (k : Int)) = some (acc', (t.length : Int)) ∧ acc'.length ≤ t.length
 | 0, k, acc, h, ha => ⟨acc, iter_stop (by
   unfold g_n.b0
   simp only
   rw [if_neg (by simp; omega), show k = t.length by omega]), by omega⟩
 | d + 1, k, acc, h, ha => by
  have hl := g.hl
  have hL := g.hL
  have key : ∃ a2 : List Int, g_n.b0 t L (acc, (k : Int)) = some (.inl (a2, ((k + 1 : Nat) : Int))) ∧ a2.length ≤ k + 1 := by
   unfold g_n.b0
   simp only
   rw [if_pos (decide_eq_true (by omega)), if_pos ⟨by omega, by omega⟩, w64_id (by omega) (by omega)]
   have two : ∀ z : Bool, ∃ a2 : List Int, (Option.bind (Option.bind (some z) fun z32 => (if z32 = true then (if acc.length + ([(k : Int)] : List Int).length < 1000000000 then some (acc ++ ([(k : Int)] : List Int)) else none) else some acc)) fun z18 => some (Sum.inl (z18, (k : Int) + 1))) = some (Sum.inl (a2, ((k + 1 : Nat) : Int)) : (List Int × Int) ⊕ (List Int × Int)) ∧ a2.length ≤ k + 1 := fun z => by
    cases z
    ·exact ⟨acc, rfl, by omega⟩
    ·refine ⟨acc ++ [(k : Int)], ?_, by simp; omega⟩
     rw [Option.bind_some, if_pos rfl, if_pos (by simp; omega)]; rfl
   split
   ·rw [if_pos ⟨by omega, by omega⟩]
    exact two _
   ·exact two _
  obtain ⟨a2, k1, k2⟩ := key
  obtain ⟨acc', h1, h2⟩ := data_iter g d (k + 1) a2 (by omega) k2
  exact ⟨acc', by rw [iter_next k1, h1], h2⟩
theorem data_Mo (g : GG t L) (a : Nat) (ok : Bool) (ha : a ≤ t.length) : ∃ b ok', g_n.f t L (a : Int) ok = some (((b : Nat) : Int), ok') ∧ Mo t L a ok b ok' := by
 have hl := g.hl
 unfold g_n.f g_1h.f
 obtain ⟨acc, h1, h2⟩ := data_iter g.toG0 (t.length - a) a [] (by omega) (by simp)
 rw [begins_f g.toG0, Option.bind_some, Option.bind_some, h1, Option.bind_some]
 simp only
 generalize (ok && nx t L a fun c => isLt c || [40].contains c) = z
 have r : ∀ z2 : Bool, ∃ b ok', (Option.bind (some ((ok && z) && z2)) fun y58 => Option.bind (g_1n.f t L (a : Int) y58) fun y60 => some (y60.1, y60.2)) = some (((b : Nat) : Int), ok') ∧ Mo t L a ok b ok' := fun z2 => by
  obtain ⟨b, o, e, m⟩ := rest_Mo g.toG0 a ha ((ok && z) && z2)
  rw [Option.bind_some, e]
  exact ⟨b, o, rfl, m.le, m.len, (fun h => by have := m.good h; rw [Bool.and_eq_true, Bool.and_eq_true] at this; exact this.1.1), m.ne⟩
 by_cases c0 : 0 < acc.length
 ·rw [if_pos (decide_eq_true c0)]
  by_cases c1 : (acc.length : Int) > 1
  ·rw [if_pos (decide_eq_true c1), if_pos (by rw [w64_id (by omega) (by omega)]; omega)]
   exact r _
  ·rw [if_neg (by simpa using c1)]
   exact r _
 ·rw [if_neg (by simpa using c0), if_neg (by simp; omega)]
  exact r _
theorem wr {x : Option (Int × Bool)} {a : Nat} {ok : Bool} {J : List Int} (hJ : CK t L a J) (h : ∃ b ok', x = some (((b : Nat) : Int), ok') ∧ Mo t L a ok b ok') :
  ∃ b J' ok', (Option.bind x fun y => some (y.1, J, y.2)) = some (((b : Nat) : Int), J', ok') ∧ Mo t L a ok b ok' ∧ CK t L b J' := by
 obtain ⟨b, o, e, m⟩ := h
 exact ⟨b, J, o, by rw [e]; rfl, m, hJ.mono m.le⟩
theorem wr3 {x : Option (Int × List Int × Bool)} {a : Nat} {ok : Bool} (h : ∃ b J' ok', x = some (((b : Nat) : Int), J', ok') ∧ Mo t L a ok b ok' ∧ CK t L b J') :
  ∃ b J' ok', (Option.bind x fun y => some (y.1, y.2.1, y.2.2)) = some (((b : Nat) : Int), J', ok') ∧ Mo t L a ok b ok' ∧ CK t L b J' := by
 obtain ⟨b, J', o, e, m⟩ := h
 exact ⟨b, J', o, by rw [e]; rfl, m⟩
theorem other_Mo (g : GG t L) (a : Nat) (ha : a ≤ t.length) {J : List Int} (hJ : CK t L a J) (ok : Bool) (pT : Int) :
  ∃ b J' ok', g_1l.f t L (a : Int) J ok pT = some (((b : Nat) : Int), J', ok') ∧ Mo t L a ok b ok' ∧ CK t L b J' := by
 have l5 := wr3 (list5_Mo g a ha hJ ok)
 have lp : ∃ b ok', g_1m.f t L (a : Int) ok = some (((b : Nat) : Int), ok') ∧ Mo t L a ok b ok' := by obtain ⟨b, o, e, m, _⟩ := parens_Mo g a ha ok; exact ⟨b, o, e, m⟩
 have le : ∃ b ok', g_r.f t L (a : Int) ok = some (((b : Nat) : Int), ok') ∧ Mo t L a ok b ok' := by obtain ⟨b, o, e, m, _⟩ := expr_Mo g.toG0 a ha ok; exact ⟨b, o, e, m⟩
 have ln : ∃ b ok', g_1i.f t L (a : Int) ok = some (((b : Nat) : Int), ok') ∧ Mo t L a ok b ok' := by obtain ⟨b, o, e, m, _⟩ := name_Mo g.toG0 a ha ok; exact ⟨b, o, e, m⟩
 have self : ∃ b J' ok', (some ((a : Int), J, ok) : Option (Int × List Int × Bool)) = some (((b : Nat) : Int), J', ok') ∧ Mo t L a ok b ok' ∧ CK t L b J' := ⟨a, J, ok, rfl, Mo.self ha id, hJ⟩
 have two : ∀ {c : Option Bool} {X Y : Option (Int × List Int × Bool)}, (∃ z, c = some z) → (∃ b J' ok', X = some (((b : Nat) : Int), J', ok') ∧ Mo t L a ok b ok' ∧ CK t L b J') → (∃ b J' ok', Y = some (((b : Nat) : Int), J', ok') ∧ Mo t L a ok b ok' ∧ CK t L b J') →
   ∃ b J' ok', (Option.bind c fun z => if z = true then X else Y) = some (((b : Nat) : Int), J', ok') ∧ Mo t L a ok b ok' ∧ CK t L b J' := fun hc hx hy => by
  obtain ⟨z, rfl⟩ := hc
  rw [Option.bind_some]
  cases z
  ·rw [if_neg (by decide)]; exact hy
  ·rw [if_pos rfl]; exact hx
 have one : ∀ {c : Prop} [Decidable c] {X Y : Option (Int × List Int × Bool)}, (∃ b J' ok', X = some (((b : Nat) : Int), J', ok') ∧ Mo t L a ok b ok' ∧ CK t L b J') → (∃ b J' ok', Y = some (((b : Nat) : Int), J', ok') ∧ Mo t L a ok b ok' ∧ CK t L b J') →
   ∃ b J' ok', (if c then X else Y) = some (((b : Nat) : Int), J', ok') ∧ Mo t L a ok b ok' ∧ CK t L b J' := fun hx hy => by
  split
  ·exact hx
  ·exact hy
 unfold g_1l.f
 refine one (two ⟨_, isParens_f g.toG0 a ok⟩ (wr hJ (items_Mo g a ok ha)) (wr hJ (item_Mo g a ok ha))) ?_
 refine one (wr hJ (items_Mo g a ok ha)) ?_
 refine one (wr hJ (item_Mo g a ok ha)) ?_
 refine two (by (repeat' split) <;> exact ⟨_, rfl⟩) (wr hJ lp) ?_
 refine two (by (repeat' split) <;> exact ⟨_, rfl⟩) (wr hJ le) ?_
 refine one (wr hJ (list3_Mo g a ok ha)) ?_
 refine one ?_ ?_
 ·rw [begins_f g.toG0, Option.bind_some]
  unfold g_1h.f
  rw [Option.bind_some]
  refine wr hJ ?_
  generalize (ok && nx t L a fun c => isLt c || [47].contains c) = z
  obtain ⟨b, o, e, m⟩ := rest_Mo g.toG0 a ha (ok && z)
  exact ⟨b, o, e, m.le, m.len, (fun h => by have := m.good h; rw [Bool.and_eq_true] at this; exact this.1), m.ne⟩
 refine one (wr hJ (list4_Mo g a ok ha)) ?_
 refine one (wr hJ (data_Mo g a ok ha)) ?_
 refine one ?_ ?_
 ·obtain ⟨is, q, _⟩ := hasWord_Mo g.toG0 a ha ok [78, 79, 78, 69] (by decide)
  refine two ⟨is, q⟩ (one (wr3 ?_) l5) l5
  obtain ⟨b, J', o, e, m, c, _⟩ := word_Mo g.toG0 a ha hJ ok [78, 79, 78, 69] (by decide) (by decide)
  exact ⟨b, J', o, e, m, c⟩
 refine two (by (repeat' split) <;> exact ⟨_, rfl⟩) (wr hJ (list6_Mo g a ok ha)) ?_
 refine one (two ⟨_, isMore_f a ok⟩ (wr hJ (list7_Mo g a ok ha)) self) ?_
 refine one (wr hJ ln) ?_
 exact one (two ⟨_, isMore_f a ok⟩ (wr hJ ln) self) self
end
end Go.Proofs.YtcafgoomipkljaaGreatDoorAi
namespace Go.Proofs.YtcafgoomipkljaaGreatDoorAi
open Go Go.RowKit
set_option linter.unusedVariables false
set_option linter.unusedSimpArgs false
section
variable {t : List UInt8} {L : List Int}
theorem cut_any (g : G0 t L) (b : Nat) (hb : b ≤ t.length) {J : List Int} (hJ : CK t L b J) (ok : Bool) (h : ok = true → 0 < b ∧ CK t L (b - 1) J ∧ L.getD (b - 1) default = 0) :
  ∃ J', g_m.f t (b : Int) J ok = some J' ∧ CK t L b J' := by
 cases ok
 ·exact ⟨J, rfl, hJ⟩
 ·obtain ⟨h1, h2, h3⟩ := h rfl
  have := cut_Mo g (b - 1) (by omega) h2 true (fun _ => h3)
  rw [show b - 1 + 1 = b by omega] at this
  exact this
theorem sign_q (g : G0 t L) (a : Nat) (ha : a ≤ t.length) (ok : Bool) (u : UInt8) :
  ∃ b ok', g_1o.f t L (a : Int) ok u = some (((b : Nat) : Int), ok') ∧ a ≤ b ∧ b ≤ t.length ∧ (ok' = true → ok = true) ∧ (ok' = true → b = a + 1 ∧ L.getD a default = 0 ∧ t.getD a default = u) := by
 rw [sign_f g a ha]
 cases h : (ok && nx t L a (fun c => decide (c = u)))
 ·exact ⟨a, false, rfl, Nat.le_refl _, ha, (fun h => by cases h), (fun h => by cases h)⟩
 ·rw [Bool.and_eq_true, nx_iff, decide_eq_true_eq] at h
  exact ⟨a + 1, true, rfl, by omega, by omega, fun _ => h.1, fun _ => ⟨rfl, h.2.2.1, h.2.2.2⟩⟩
theorem do_Mq (g : GG t L) (a : Nat) (ha : a ≤ t.length) {J : List Int} (hJ : CK t L a J) (ok : Bool) :
  ∃ b J' ok', g_p.f t L (a : Int) J ok = some (((b : Nat) : Int), J', ok') ∧ a ≤ b ∧ b ≤ t.length ∧ (ok' = true → ok = true) ∧ CK t L b J' ∧
   (ok' = true → (∃ e, a ≤ e ∧ e < b ∧ L.getD e default = 0 ∧ t.getD e default = 44) ∧ ∃ e, a ≤ e ∧ e < b ∧ L.getD e default = 0 ∧ t.getD e default = 61) := by
 unfold g_p.f
 have first : ∃ b J' ok', (Option.bind (g_11.f t L (a : Int) ok) fun y6 => (if y6 = true then Option.bind (g_16.f t L (a : Int) ok) fun y9 => Option.bind (g_1r.f t L y9.1 y9.2 44) fun y11 => (if (!y11.1) = true then Option.bind (g_m.f t y11.2 J y9.2) fun y14 => some (y11.2, y14, y9.2) else some (y11.2, J, y9.2)) else some ((a : Int), J, ok))) = some (((b : Nat) : Int), J', ok') ∧ Mo t L a ok b ok' ∧ CK t L b J' := by
  rw [is4_f g.toG0, Option.bind_some]
  cases (ok && nx t L a isDg)
  ·exact ⟨a, J, ok, rfl, Mo.self ha id, hJ⟩
  ·rw [if_pos rfl]
   obtain ⟨b1, o1, e1, m1, f1⟩ := label_Mo g.toG0 a ha ok
   obtain ⟨is, b2, e2, m2, n1, n2⟩ := takes_Mo g.toG0 b1 m1.len o1 (u := 44) (by decide)
   simp only [e1, e2, Option.bind_some]
   cases is
   ·obtain rfl := n2 rfl
    obtain ⟨J', c1, c2⟩ := cut_any g.toG0 b2 m1.len (hJ.mono m1.le) o1 (fun h => by
     obtain ⟨q1, q2, q3, q4⟩ := f1 h
     exact ⟨by omega, hJ.mono (by omega), q4 _ (by omega) (by omega)⟩)
    refine ⟨b2, J', o1, ?_, m1, c2⟩
    rw [c1]; rfl
   ·exact ⟨b2, J, o1, rfl, m1.trans m2, hJ.mono (m1.trans m2).le⟩
 obtain ⟨b1, J1, o1, e1, m1, c1⟩ := first
 rw [e1, Option.bind_some]
 obtain ⟨b2, o2, e2, m2, _⟩ := name_Mo g.toG0 b1 m1.len o1
 obtain ⟨b3, o3, e3, l3, n3, g3, s3⟩ := sign_q g.toG0 b2 m2.len o2 61
 obtain ⟨b4, o4, e4, m4, _⟩ := expr_Mo g.toG0 b3 n3 o3
 obtain ⟨b5, o5, e5, l5, n5, g5, s5⟩ := sign_q g.toG0 b4 m4.len o4 44
 obtain ⟨b6, o6, e6, m6, _⟩ := expr_Mo g.toG0 b5 n5 o5
 obtain ⟨is, b7, e7, m7, _⟩ := takes_Mo g.toG0 b6 m6.len o6 (u := 44) (by decide)
 simp only [e2, e3, e4, e5, e6, e7, Option.bind_some]
 have i1 := m1.le; have i2 := m2.le; have i4 := m4.le; have i6 := m6.le; have i7 := m7.le
 have good : o6 = true → ok = true ∧ (∃ e, a ≤ e ∧ e < b6 ∧ L.getD e default = 0 ∧ t.getD e default = 44) ∧ ∃ e, a ≤ e ∧ e < b6 ∧ L.getD e default = 0 ∧ t.getD e default = 61 := fun h => by
  have h5 := m6.good h
  have h4 := g5 h5
  have h3 := m4.good h4
  have h2 := g3 h3
  obtain ⟨q1, q2, q3⟩ := s5 h5
  obtain ⟨r1, r2, r3⟩ := s3 h3
  exact ⟨m1.good (m2.good h2), ⟨b4, by omega, by omega, q2, q3⟩, b2, by omega, by omega, r2, r3⟩
 cases is
 ·refine ⟨b7, J1, o6, rfl, by omega, m7.len, fun h => (good h).1, c1.mono (by omega), fun h => ?_⟩
  obtain ⟨_, ⟨e, q1, q2, q3⟩, e', r1, r2, r3⟩ := good h
  exact ⟨⟨e, q1, by omega, q3⟩, e', r1, by omega, r3⟩
 ·obtain ⟨b8, o8, e8, m8, _⟩ := expr_Mo g.toG0 b7 m7.len o6
  have i8 := m8.le
  simp only [e8, Option.bind_some, if_true]
  refine ⟨b8, J1, o8, rfl, by omega, m8.len, fun h => (good (m8.good h)).1, c1.mono (by omega), fun h => ?_⟩
  obtain ⟨_, ⟨e, q1, q2, q3⟩, e', r1, r2, r3⟩ := good (m8.good h)
  exact ⟨⟨e, q1, by omega, q3⟩, e', r1, by omega, r3⟩
structure BeF (t : List UInt8) (L : List Int) (a : Nat) (ok : Bool) (pT : Int) (b : Nat) : Prop where
 ne : pT ≠ 11 → NS t L 61 a b ∨ ((pT = 16 ∨ pT = 17) ∧ a < t.length ∧ (t.getD a default = 39 ∨ t.getD a default = 34))
 do' : pT = 11 → (∃ e, a ≤ e ∧ e < b ∧ L.getD e default = 0 ∧ t.getD e default = 44) ∧ ∃ e, a ≤ e ∧ e < b ∧ L.getD e default = 0 ∧ t.getD e default = 61
 go2 : pT = 2 → isDg (t.getD a default) = true
 go3 : pT = 3 → t.getD a default = 40
 go4 : pT = 4 → isLt (t.getD a default) = true
 if5 : pT = 5 → ∃ p : Nat, g_1m.f t L (a : Int) ok = some ((p : Int), true) ∧ isDg (t.getD p default) = true
 if7 : pT = 7 → ∃ p : Nat, g_1m.f t L (a : Int) ok = some ((p : Int), true) ∧ (t.drop p).take 4 = [84, 72, 69, 78] ∧ b = p + 4
 bare : pT = 9 ∨ pT = 43 → b = a
theorem BeF.plain {a : Nat} {ok : Bool} {pT : Int} {b : Nat} (h : pT ≠ 2 ∧ pT ≠ 3 ∧ pT ≠ 4 ∧ pT ≠ 5 ∧ pT ≠ 7 ∧ pT ≠ 9 ∧ pT ≠ 11 ∧ pT ≠ 43) (ne : NS t L 61 a b) : BeF t L a ok pT b := by
 constructor <;> intro q
 ·exact .inl ne
 all_goals omega
theorem behind_Mq (g : GG t L) (a : Nat) (ha : a ≤ t.length) {J : List Int} (hJ : CK t L a J) (ok : Bool) (pT : Int) :
  ∃ b J' ok', g_k.f t L (a : Int) J ok pT = some (((b : Nat) : Int), J', ok') ∧ a ≤ b ∧ b ≤ t.length ∧ (ok' = true → ok = true) ∧ CK t L b J' ∧ (ok' = true → BeF t L a ok pT b) := by
 unfold g_k.f
 by_cases h1 : pT = 1
 ·subst h1
  rw [if_pos (by decide)]
  obtain ⟨b1, o1, e1, m1, f1⟩ := label_Mo g.toG0 a ha ok
  obtain ⟨J1, c1, c2⟩ := cut_any g.toG0 b1 m1.len (hJ.mono m1.le) o1 (fun h => by
   obtain ⟨q1, q2, q3, q4⟩ := f1 h
   exact ⟨by omega, hJ.mono (by omega), q4 _ (by omega) (by omega)⟩)
  obtain ⟨b2, J2, o2, e2, m2, c3, _⟩ := word_Mo g.toG0 b1 m1.len c2 o1 [84, 79] (by decide) (by decide)
  obtain ⟨b3, o3, e3, m3, _⟩ := name_Mo g.toG0 b2 m2.len o2
  simp only [e1, c1, e2, e3, Option.bind_some]
  have m := (m1.trans m2).trans m3
  exact ⟨b3, J2, o3, rfl, m.le, m.len, m.good, c3.mono m3.le, fun _ => BeF.plain (by decide) m.ne⟩
 rw [if_neg (by simpa using h1)]
 by_cases h2 : pT = 2
 ·subst h2
  rw [if_pos (by decide)]
  obtain ⟨b1, o1, e1, m1, f1⟩ := label_Mo g.toG0 a ha ok
  simp only [e1, Option.bind_some]
  exact ⟨b1, J, o1, rfl, m1.le, m1.len, m1.good, hJ.mono m1.le, fun h => ⟨fun _ => .inl m1.ne, by omega, fun _ => (f1 h).2.2.1, by omega, by omega, by omega, by omega, by omega⟩⟩
 rw [if_neg (by simpa using h2)]
 by_cases h3 : pT = 3
 ·subst h3
  rw [if_pos (by decide)]
  obtain ⟨b1, o1, e1, m1, f1⟩ := labels_Mo g a ok ha
  obtain ⟨is, b2, e2, m2, _⟩ := takes_Mo g.toG0 b1 m1.len o1 (u := 44) (by decide)
  obtain ⟨b3, o3, e3, m3, _⟩ := expr_Mo g.toG0 b2 m2.len o1
  simp only [e1, e2, e3, Option.bind_some]
  have m := (m1.trans m2).trans m3
  exact ⟨b3, J, o3, rfl, m.le, m.len, m.good, hJ.mono m.le, fun h => ⟨fun _ => .inl m.ne, by omega, by omega, fun _ => f1 (m3.good h), by omega, by omega, by omega, by omega⟩⟩
 rw [if_neg (by simpa using h3)]
 by_cases h4 : pT = 4
 ·subst h4
  rw [if_pos (by decide)]
  obtain ⟨b1, o1, e1, m1, _, _, f1⟩ := name_Mo g.toG0 a ha ok
  obtain ⟨is, b2, e2, m2, _⟩ := takes_Mo g.toG0 b1 m1.len o1 (u := 44) (by decide)
  simp only [e1, e2, Option.bind_some]
  cases is
  ·have m := m1.trans m2
   exact ⟨b2, J, o1, rfl, m.le, m.len, m.good, hJ.mono m.le, fun h => ⟨fun _ => .inl m.ne, by omega, by omega, by omega, fun _ => (f1 h).2, by omega, by omega, by omega⟩⟩
  ·obtain ⟨b3, o3, e3, m3, _⟩ := labels_Mo g b2 o1 m2.len
   simp only [e3, Option.bind_some, if_true]
   have m := (m1.trans m2).trans m3
   exact ⟨b3, J, o3, rfl, m.le, m.len, m.good, hJ.mono m.le, fun h => ⟨fun _ => .inl m.ne, by omega, by omega, by omega, fun _ => (f1 (m3.good h)).2, by omega, by omega, by omega⟩⟩
 rw [if_neg (by simpa using h4)]
 by_cases h5 : pT = 5
 ·subst h5
  rw [if_pos (by decide)]
  obtain ⟨b0, o0, e0, m0, _⟩ := parens_Mo g a ha ok
  obtain ⟨b1, o1, e1, m1, f1⟩ := label_Mo g.toG0 b0 m0.len o0
  obtain ⟨b2, o2, e2, m2, _⟩ := sign_Mo g.toG0 b1 m1.len o1 (u := 44) (by decide)
  obtain ⟨b3, o3, e3, m3, _⟩ := label_Mo g.toG0 b2 m2.len o2
  obtain ⟨b4, o4, e4, m4, _⟩ := sign_Mo g.toG0 b3 m3.len o3 (u := 44) (by decide)
  obtain ⟨b5, o5, e5, m5, _⟩ := label_Mo g.toG0 b4 m4.len o4
  have it : iter (g_k.b0 t L) ((0 : Int), (b0 : Int), o0) = some ((3 : Int), (b5 : Int), o5) := by
   rw [iter_next (y := ((1 : Int), (b1 : Int), o1)) (by unfold g_k.b0; simp only [e1, Option.bind_some]; rfl),
    iter_next (y := ((2 : Int), (b3 : Int), o3)) (by unfold g_k.b0; simp only [e2, e3, Option.bind_some]; rfl),
    iter_next (y := ((3 : Int), (b5 : Int), o5)) (by unfold g_k.b0; simp only [e4, e5, Option.bind_some]; rfl)]
   exact iter_stop rfl
  simp only [e0, it, Option.bind_some]
  have m' := ((m1.trans m2).trans m3).trans (m4.trans m5)
  have m := m0.trans m'
  refine ⟨b5, J, o5, rfl, m.le, m.len, m.good, hJ.mono m.le, fun h => ⟨fun _ => .inl m.ne, by omega, by omega, by omega, by omega, fun _ => ⟨b0, ?_, ?_⟩, by omega, by omega⟩⟩
  ·rw [m'.good h] at e0; exact e0
  ·exact (f1 (m2.good (m3.good (m4.good (m5.good h))))).2.2.1
 rw [if_neg (by simpa using h5)]
 by_cases h78 : pT = 7 ∨ pT = 8
 ·have hz : (if (pT == 7) = true then some true else some (pT == 8)) = some true := by rcases h78 with rfl | rfl <;> rfl
  rw [hz, Option.bind_some, if_pos rfl]
  obtain ⟨b0, o0, e0, m0, _⟩ := parens_Mo g a ha ok
  obtain ⟨b1, J1, o1, e1, m1, c1, f1⟩ := word_Mo g.toG0 b0 m0.len (hJ.mono m0.le) o0 [84, 72, 69, 78] (by decide) (by decide)
  simp only [e0, e1, Option.bind_some]
  have m := m0.trans m1
  refine ⟨b1, J1, o1, rfl, m.le, m.len, m.good, c1, fun h => ⟨fun _ => .inl m.ne, by omega, by omega, by omega, by omega, by omega, fun _ => ⟨b0, ?_, f1 h⟩, by omega⟩⟩
  rw [m1.good h] at e0; exact e0
 have hz : (if (pT == 7) = true then some true else some (pT == 8)) = some false := by
  rw [if_neg (by simp; omega)]; congr 1; simp; omega
 rw [hz, Option.bind_some, if_neg (by decide)]
 by_cases h11 : pT = 11
 ·subst h11
  rw [if_pos (by decide)]
  obtain ⟨b, J', o, e, l, n, gd, c, f⟩ := do_Mq g a ha hJ ok
  simp only [e, Option.bind_some]
  exact ⟨b, J', o, rfl, l, n, gd, c, fun h => ⟨by omega, fun _ => f h, by omega, by omega, by omega, by omega, by omega, by omega⟩⟩
 rw [if_neg (by simpa using h11)]
 by_cases h14 : pT = 14 ∨ pT = 39 ∨ pT = 41
 ·have hz : (if (pT == 14) = true then some true else (if (pT == 39) = true then some true else some (pT == 41))) = some true := by rcases h14 with rfl | rfl | rfl <;> rfl
  rw [hz, Option.bind_some, if_pos rfl]
  obtain ⟨b1, o1, e1, m1, _⟩ := name_Mo g.toG0 a ha ok
  obtain ⟨b2, o2, e2, m2, _⟩ := maybeParens_Mo g b1 m1.len o1
  simp only [e1, e2, Option.bind_some]
  have m := m1.trans m2
  exact ⟨b2, J, o2, rfl, m.le, m.len, m.good, hJ.mono m.le, fun h => BeF.plain (by omega) m.ne⟩
 have hz : (if (pT == 14) = true then some true else (if (pT == 39) = true then some true else some (pT == 41))) = some false := by
  rw [if_neg (by simp; omega), if_neg (by simp; omega)]; congr 1; simp; omega
 rw [hz, Option.bind_some, if_neg (by decide)]
 by_cases h15 : pT = 15
 ·subst h15
  rw [if_pos (by decide), isMore_f, Option.bind_some]
  cases (ok && decide (a < t.length))
  ·exact ⟨a, J, ok, rfl, Nat.le_refl _, ha, id, hJ, fun h => BeF.plain (by decide) NS.self⟩
  ·obtain ⟨b1, o1, e1, m, _⟩ := expr_Mo g.toG0 a ha ok
   rw [if_pos rfl, e1]
   exact ⟨b1, J, o1, rfl, m.le, m.len, m.good, hJ.mono m.le, fun h => BeF.plain (by decide) m.ne⟩
 rw [if_neg (by simpa using h15)]
 by_cases h16 : pT = 16 ∨ pT = 17
 ·have hz : (if (pT == 16) = true then some true else some (pT == 17)) = some true := by rcases h16 with rfl | rfl <;> rfl
  rw [hz, Option.bind_some, if_pos rfl]
  obtain ⟨b1, o1, e1, l, n, gd, f⟩ := stop_Mo g a ok ha
  rw [e1]
  exact ⟨b1, J, o1, rfl, l, n, gd, hJ.mono l, fun h => ⟨fun _ => by
   rcases f with f | f
   ·exact .inl f
   ·exact .inr ⟨h16, f⟩, by omega, by omega, by omega, by omega, by omega, by omega, by omega⟩⟩
 have hz : (if (pT == 16) = true then some true else some (pT == 17)) = some false := by
  rw [if_neg (by simp; omega)]; congr 1; simp; omega
 rw [hz, Option.bind_some, if_neg (by decide)]
 by_cases h9 : pT = 9 ∨ pT = 43
 ·have ho : g_1l.f t L (a : Int) J ok pT = some ((a : Int), J, ok) := by rcases h9 with rfl | rfl <;> rfl
  rw [ho]
  exact ⟨a, J, ok, rfl, Nat.le_refl _, ha, id, hJ, fun h => ⟨fun _ => .inl NS.self, by omega, by omega, by omega, by omega, by omega, by omega, fun _ => rfl⟩⟩
 ·obtain ⟨b, J', o, e, m, c⟩ := other_Mo g a ha hJ ok pT
  rw [e]
  exact ⟨b, J', o, rfl, m.le, m.len, m.good, c, fun h => BeF.plain (by omega) m.ne⟩
end
end Go.Proofs.YtcafgoomipkljaaGreatDoorAi
namespace Go.Proofs.YtcafgoomipkljaaGreatDoorAi
open Go Go.RowKit
set_option linter.unusedVariables false
set_option linter.unusedSimpArgs false
def WO : List (List UInt8) := [[], [65, 83, 83, 73, 71, 78], [71, 79, 84, 79], [71, 79, 84, 79], [71, 79, 84, 79], [73, 70], [73, 70], [73, 70], [69, 76, 83, 69, 73, 70], [69, 76, 83, 69], [69, 78, 68, 73, 70], [68, 79], [69, 78, 68, 68, 79], [67, 79, 78, 84, 73, 78, 85, 69], [67, 65, 76, 76], [82, 69, 84, 85, 82, 78], [83, 84, 79, 80], [80, 65, 85, 83, 69], [82, 69, 65, 68], [87, 82, 73, 84, 69], [80, 82, 73, 78, 84], [79, 80, 69, 78], [67, 76, 79, 83, 69], [73, 78, 81, 85, 73, 82, 69], [66, 65, 67, 75, 83, 80, 65, 67, 69], [69, 78, 68, 70, 73, 76, 69], [82, 69, 87, 73, 78, 68], [70, 79, 82, 77, 65, 84], [73, 78, 84, 69, 71, 69, 82], [68, 73, 77, 69, 78, 83, 73, 79, 78], [67, 79, 77, 77, 79, 78], [69, 81, 85, 73, 86, 65, 76, 69, 78, 67, 69], [80, 65, 82, 65, 77, 69, 84, 69, 82], [68, 65, 84, 65], [73, 77, 80, 76, 73, 67, 73, 84], [69, 88, 84, 69, 82, 78, 65, 76], [73, 78, 84, 82, 73, 78, 83, 73, 67], [83, 65, 86, 69], [80, 82, 79, 71, 82, 65, 77], [83, 85, 66, 82, 79, 85, 84, 73, 78, 69], [70, 85, 78, 67, 84, 73, 79, 78], [69, 78, 84, 82, 89], [66, 76, 79, 67, 75, 68, 65, 84, 65], [69, 78, 68]]
theorem words_f : g_22.f = some WO := rfl
theorem WO_ok : ∀ k : Fin 44, k.val ≠ 0 → (0 < (WO.getD k.val default).length ∧ (WO.getD k.val default).length < 1000) ∧ (WO.getD k.val default).contains 61 = false := by decide
structure KF (t : List UInt8) (L : List Int) (k : Nat) (b : Nat) : Prop where
 asg : k = 0 → ∃ p e, 0 < p ∧ isLt (t.getD 0 default) = true ∧ (∀ i, i < p → isNm (t.getD i default) = true) ∧ p ≤ e ∧ e < b ∧ NS t L 44 0 b ∧ L.getD e default = 0 ∧ t.getD e default = 61 ∧ (e = p ∨ (t.getD p default = 40 ∧ g_1m.f t L (p : Int) true = some ((e : Int), true)))
 typ : k = 28 → (∃ w ∈ TY, t.take w.length = w) ∧ NS t L 61 0 b
 fnc : k = 40 → ((∃ w ∈ TY, t.take w.length = w) ∨ t.take 8 = [70, 85, 78, 67, 84, 73, 79, 78]) ∧ NS t L 61 0 b
 wrd : k ≠ 0 → k ≠ 28 → k ≠ 40 → t.take (WO.getD k default).length = WO.getD k default ∧ (WO.getD k default).length ≤ b ∧ BeF t L (WO.getD k default).length true k b ∧ NS t L 61 0 (WO.getD k default).length
section
variable {t : List UInt8} {L : List Int}
theorem kind_Mq (g : GG t L) (k : Nat) (hk : k < 44) :
  ∃ b J' ok', g_15.f t L 0 [] true (k : Int) = some (((b : Nat) : Int), J', ok') ∧ b ≤ t.length ∧ CK t L b J' ∧ (ok' = true → KF t L k b) := by
 unfold g_15.f
 rw [words_f, Option.bind_some, if_pos ⟨by omega, by omega, by show (k : Int) < ((44 : Nat) : Int); omega⟩]
 by_cases h0 : k = 0
 ·subst h0
  rw [if_pos (by decide)]
  obtain ⟨b1, o1, e1, m1, c1, f1, s1⟩ := name_Mo g.toG0 0 (Nat.zero_le _) true
  obtain ⟨b2, o2, e2, m2, c2⟩ := maybeParens_Mo g b1 m1.len o1
  obtain ⟨b3, o3, e3, l3, n3, g3, s3⟩ := sign_q g.toG0 b2 m2.len o2 61
  obtain ⟨b4, o4, e4, m4, f4, c4⟩ := expr_Mo g.toG0 b3 n3 o3
  have e1' : g_1i.f t L 0 true = some ((b1 : Int), o1) := e1
  simp only [e1', e2, e3, e4, Option.bind_some]
  refine ⟨b4, [], o4, rfl, m4.len, CK.nil, fun h => ⟨fun _ => ?_, by omega, by omega, by omega⟩⟩
  have g3' := m4.good h
  obtain ⟨q1, q2, q3⟩ := s3 g3'
  have g2' := g3 g3'
  have g1' := m2.good g2'
  have i2 := m2.le
  have i4 := f4 h
  refine ⟨b1, b2, (s1 g1').1, (s1 g1').2, fun i hi => (f1 i (Nat.zero_le _) hi).2, i2, by omega, ?_, q2, q3, ?_⟩
  ·refine (c1.trans c2).trans (NS.trans (b := b3) ?_ c4)
   rw [q1]
   exact NS.one (by rw [q3]; decide)
  ·unfold g_1g.f at e2
   rw [isParens_f g.toG0, Option.bind_some] at e2
   cases hz : (o1 && nx t L b1 fun c => decide (c = 40))
   ·rw [hz, if_neg (by decide)] at e2
    simp only [Option.some.injEq, Prod.mk.injEq] at e2
    exact .inl (by omega)
   ·rw [hz, if_pos rfl] at e2
    rw [Bool.and_eq_true, nx_iff, decide_eq_true_eq] at hz
    refine .inr ⟨hz.2.2.2, ?_⟩
    obtain ⟨b', o', p1, _⟩ := parens_Mo g b1 m1.len o1
    rw [p1, Option.bind_some, g2'] at e2
    rw [g1'] at p1
    rw [p1]; exact e2
 rw [if_neg (by simp; omega)]
 by_cases h28 : k = 28
 ·subst h28
  rw [if_pos (by decide)]
  obtain ⟨is, b1, J1, o1, e1, m1, c1, f1, f2⟩ := oneType_Mo g.toG0 0 (Nat.zero_le _) (J := []) CK.nil true
  have e1' : g_1k.f t L 0 [] true = some (is, (b1 : Int), J1, o1) := e1
  obtain ⟨b2, o2, e2, m2⟩ := list1_Mo g b1 (o1 && is) m1.len
  unfold g_1h.f
  simp only [e1', e2, Option.bind_some]
  refine ⟨b2, J1, o2, rfl, m2.len, c1.mono m2.le, fun h => ⟨by omega, fun _ => ?_, by omega, by omega⟩⟩
  have := m2.good h
  rw [Bool.and_eq_true] at this
  obtain ⟨w, w1, w2, _⟩ := f1 this.2 this.1
  exact ⟨⟨w, w1, w2⟩, m1.ne.trans m2.ne⟩
 rw [if_neg (by simp; omega)]
 by_cases h40 : k = 40
 ·subst h40
  rw [if_pos (by decide)]
  obtain ⟨is, b1, J1, o1, e1, m1, c1, f1, f2⟩ := oneType_Mo g.toG0 0 (Nat.zero_le _) (J := []) CK.nil true
  have e1' : g_1k.f t L 0 [] true = some (is, (b1 : Int), J1, o1) := e1
  obtain ⟨b2, J2, o2, e2, m2, c2, w2⟩ := word_Mo g.toG0 b1 m1.len c1 o1 [70, 85, 78, 67, 84, 73, 79, 78] (by decide) (by decide)
  obtain ⟨b3, o3, e3, m3, _⟩ := name_Mo g.toG0 b2 m2.len o2
  obtain ⟨b4, o4, e4, m4, _⟩ := maybeParens_Mo g b3 m3.len o3
  have ew : gt WO ((40 : Nat) : Int) = [70, 85, 78, 67, 84, 73, 79, 78] := rfl
  simp only [e1', ew, e2, e3, e4, Option.bind_some]
  have m := m3.trans m4
  refine ⟨b4, J2, o4, rfl, m4.len, c2.mono m.le, fun h => ⟨by omega, by omega, fun _ => ⟨?_, (m1.ne.trans m2.ne).trans m.ne⟩, by omega⟩⟩
  have g2 := m.good h
  have g1 := m2.good g2
  cases is
  ·obtain ⟨rfl, _⟩ := f2 rfl
   exact .inr (w2 g2).1
  ·obtain ⟨w, w1, w2, _⟩ := f1 rfl g1
   exact .inl ⟨w, w1, w2⟩
 rw [if_neg (by simp; omega)]
 have hw := WO_ok ⟨k, hk⟩ h0
 simp only at hw
 obtain ⟨b1, J1, o1, e1, m1, c1, w1⟩ := word_Mo g.toG0 0 (Nat.zero_le _) (J := []) CK.nil true (WO.getD k default) hw.1 hw.2
 have e1' : g_1t.f t L 0 [] true (gt WO (k : Int)) = some ((b1 : Int), J1, o1) := e1
 obtain ⟨b2, J2, o2, e2, l2, n2, g2, c2, f2⟩ := behind_Mq g b1 m1.len c1 o1 (k : Int)
 simp only [e1', e2, Option.bind_some]
 refine ⟨b2, J2, o2, rfl, n2, c2, fun h => ⟨by omega, by omega, by omega, fun _ _ _ => ?_⟩⟩
 have g1 := g2 h
 obtain ⟨q1, q2⟩ := w1 g1
 have hb := f2 h
 have hm := m1.ne
 rw [show b1 = (WO.getD k default).length by omega] at hb hm l2
 rw [g1] at hb
 exact ⟨q1, l2, hb, hm⟩
end
end Go.Proofs.YtcafgoomipkljaaGreatDoorAi
namespace Go.Proofs.YtcafgoomipkljaaGreatDoorAi
open Go Go.RowKit
set_option linter.unusedVariables false
set_option linter.unusedSimpArgs false
def cmp (a b : List UInt8) : Bool := decide (a.take b.length = b.take a.length)
theorem cmp_of {t a b : List UInt8} (h1 : t.take a.length = a) (h2 : t.take b.length = b) : cmp a b = true := by
 unfold cmp
 rw [decide_eq_true_eq]
 conv => lhs; rw [← h1]
 conv => rhs; rw [← h2]
 rw [List.take_take, List.take_take, Nat.min_comm]
def FN : List UInt8 := [70, 85, 78, 67, 84, 73, 79, 78]
theorem cmp_ty : ∀ w ∈ FN :: TY, ∀ k : Fin 44, k.val ≠ 0 → k.val ≠ 28 → k.val ≠ 40 → cmp w (WO.getD k.val default) = true → k.val = 11 := by decide +kernel
theorem cmp_wo : ∀ j k : Fin 44, j.val < k.val → j.val ≠ 0 → j.val ≠ 6 → j.val ≠ 28 → j.val ≠ 40 → k.val ≠ 6 → k.val ≠ 28 → k.val ≠ 40 → cmp (WO.getD j.val default) (WO.getD k.val default) = true →
  (j.val, k.val) ∈ [(2, 3), (2, 4), (3, 4), (5, 7), (8, 9), (10, 43), (12, 43), (25, 43)] := by decide +kernel
theorem cmp_if : ∀ k : Fin 44, k.val ≠ 0 → k.val ≠ 6 → k.val ≠ 28 → k.val ≠ 40 → cmp (WO.getD k.val default) [73, 70] = true → k.val = 5 ∨ k.val = 7 := by decide +kernel
theorem cmp_ifty : ∀ w ∈ FN :: TY, cmp w [73, 70] = false := by decide
theorem cmp_then : ∀ k : Fin 44, k.val ≠ 0 → k.val ≠ 28 → k.val ≠ 40 → cmp (WO.getD k.val default) [84, 72, 69, 78] = false := by decide +kernel
theorem wo_letters : ∀ k : Fin 44, k.val ≠ 0 → (WO.getD k.val default).all isLt = true ∧ 0 < (WO.getD k.val default).length := by decide +kernel
theorem take_get {t w : List UInt8} (h : t.take w.length = w) {i : Nat} (hi : i < w.length) : t.getD i default = w.getD i default :=
 (pre_get (t := t) (a := 0) (by simpa using h) (Nat.zero_le i) (by omega)).trans (by simp)
theorem all_get {w : List UInt8} {p : UInt8 → Bool} (h : w.all p = true) {i : Nat} (hi : i < w.length) : p (w.getD i default) = true := by
 rw [List.all_eq_true] at h
 rw [List.getD_eq_getElem?_getD, List.getElem?_eq_getElem hi]
 exact h _ (List.getElem_mem hi)
section
variable {t : List UInt8} {L : List Int}
theorem KF.ne (g : GG t L) {k : Nat} (hk : k < 44) (h : KF t L k t.length) (h0 : k ≠ 0) (h11 : k ≠ 11) : NS t L 61 0 t.length ∨ (∃ q, q < t.length ∧ (∀ i, i < q → isLt (t.getD i default) = true) ∧ (t.getD q default = 39 ∨ t.getD q default = 34)) := by
 by_cases h28 : k = 28
 ·exact .inl (h.typ h28).2
 by_cases h40 : k = 40
 ·exact .inl (h.fnc h40).2
 obtain ⟨w1, w2, w3, w4⟩ := h.wrd h0 h28 h40
 rcases w3.ne (by omega) with q | ⟨_, q2, q3⟩
 ·exact .inl (w4.trans q)
 ·exact .inr ⟨_, q2, fun i hi => by rw [take_get w1 hi]; exact all_get (wo_letters ⟨k, hk⟩ h0).1 hi, q3⟩
theorem isLt_ne {c : UInt8} (h : isLt c = true) : c ≠ 61 ∧ c ≠ 40 ∧ c ≠ 39 ∧ c ≠ 34 ∧ isDg c = false := by
 refine ⟨?_, ?_, ?_, ?_, ?_⟩
 any_goals (rintro rfl; revert h; decide)
 rw [isLt_iff] at h
 rw [Bool.eq_false_iff]
 intro k
 rw [isDg_iff] at k
 omega
theorem uniq (g : GG t L) {j k : Nat} (hjk : j < k) (hk : k < 44) (j6 : j ≠ 6) (k6 : k ≠ 6) (hj : KF t L j t.length) (hk' : KF t L k t.length) : j = 28 ∧ k = 40 := by
 by_cases j0 : j = 0
 ·exfalso
  obtain ⟨p, e, p1, p2, p3, p4, p5, p6, p7, p8, p9⟩ := hj.asg j0
  by_cases k11 : k = 11
  ·obtain ⟨w1, w2, w3, w4⟩ := hk'.wrd (by omega) (by omega) (by omega)
   obtain ⟨⟨c, _, c2, c3, c4⟩, _⟩ := w3.do' (by omega)
   exact p6 c (Nat.zero_le _) c2 ⟨c3, c4⟩
  ·rcases hk'.ne g hk (by omega) k11 with q | ⟨q, q1, q2, q3⟩
   ·exact q e (Nat.zero_le _) p5 ⟨p7, p8⟩
   ·have pc : t.getD p default = 61 ∨ t.getD p default = 40 := by
     rcases p9 with rfl | p9
     ·exact .inl p8
     ·exact .inr p9.1
    rcases Nat.lt_trichotomy p q with h | h | h
    ·have := isLt_ne (q2 p h)
     rcases pc with c | c
     ·exact this.1 c
     ·exact this.2.1 c
    ·rw [h] at pc
     rcases pc with c | c <;> rw [c] at q3 <;> revert q3 <;> decide
    ·have := isNm_ne (p3 q h)
     rcases q3 with c | c
     ·exact this.2.2.2.2.1 c
     ·exact this.2.2.2.2.2 c
 -- Types and functions against DO.
 have ty : ∀ {w : List UInt8} {m : Nat}, w ∈ FN :: TY → t.take w.length = w → m < 44 → m ≠ 0 → m ≠ 28 → m ≠ 40 → KF t L m t.length → NS t L 61 0 t.length → False := by
  intro w m hw ht hm m0 m28 m40 hm' ne
  obtain ⟨w1, w2, w3, w4⟩ := hm'.wrd m0 m28 m40
  have := cmp_ty w hw ⟨m, hm⟩ m0 m28 m40 (cmp_of ht w1)
  simp only at this
  obtain ⟨_, c, _, c2, c3, c4⟩ := w3.do' (by omega)
  exact ne c (Nat.zero_le _) c2 ⟨c3, c4⟩
 have fn : ((∃ w ∈ TY, t.take w.length = w) ∨ t.take 8 = [70, 85, 78, 67, 84, 73, 79, 78]) → ∃ w, w ∈ FN :: TY ∧ t.take w.length = w := by
  rintro (⟨w, w1, w2⟩ | h)
  ·exact ⟨w, List.mem_cons_of_mem _ w1, w2⟩
  ·exact ⟨FN, List.mem_cons_self, h⟩
 by_cases j28 : j = 28
 ·refine ⟨j28, ?_⟩
  refine Decidable.byContradiction fun k40 => ?_
  obtain ⟨⟨w, w1, w2⟩, ne⟩ := hj.typ j28
  exact ty (List.mem_cons_of_mem _ w1) w2 hk (by omega) (by omega) k40 hk' ne
 exfalso
 by_cases j40 : j = 40
 ·obtain ⟨f, ne⟩ := hj.fnc j40
  obtain ⟨w, w1, w2⟩ := fn f
  exact ty w1 w2 hk (by omega) (by omega) (by omega) hk' ne
 by_cases k28 : k = 28
 ·obtain ⟨⟨w, w1, w2⟩, ne⟩ := hk'.typ k28
  exact ty (List.mem_cons_of_mem _ w1) w2 (by omega) j0 j28 j40 hj ne
 by_cases k40 : k = 40
 ·obtain ⟨f, ne⟩ := hk'.fnc k40
  obtain ⟨w, w1, w2⟩ := fn f
  exact ty w1 w2 (by omega) j0 j28 j40 hj ne
 obtain ⟨u1, u2, u3, u4⟩ := hj.wrd j0 j28 j40
 obtain ⟨v1, v2, v3, v4⟩ := hk'.wrd (by omega) k28 k40
 have := cmp_wo ⟨j, by omega⟩ ⟨k, hk⟩ hjk j0 j6 j28 j40 k6 k28 k40 (cmp_of u1 v1)
 simp only [List.mem_cons, Prod.mk.injEq, List.not_mem_nil, or_false] at this
 rcases this with ⟨rfl, rfl⟩ | ⟨rfl, rfl⟩ | ⟨rfl, rfl⟩ | ⟨rfl, rfl⟩ | ⟨rfl, rfl⟩ | ⟨rfl, rfl⟩ | ⟨rfl, rfl⟩ | ⟨rfl, rfl⟩
 ·have a := u3.go2 rfl
  have b := v3.go3 rfl
  have e : (WO.getD 2 default).length = (WO.getD 3 default).length := rfl
  rw [e, b] at a
  revert a; decide
 ·have a := u3.go2 rfl
  have b := v3.go4 rfl
  have e : (WO.getD 2 default).length = (WO.getD 4 default).length := rfl
  rw [e, (isLt_ne b).2.2.2.2] at a
  cases a
 ·have a := u3.go3 rfl
  have b := v3.go4 rfl
  have e : (WO.getD 3 default).length = (WO.getD 4 default).length := rfl
  rw [e] at a
  exact (isLt_ne b).2.1 a
 ·obtain ⟨p, p1, p2⟩ := u3.if5 rfl
  obtain ⟨q, q1, q2, _⟩ := v3.if7 rfl
  have e : (WO.getD 5 default).length = (WO.getD 7 default).length := rfl
  rw [e, q1] at p1
  simp only [Option.some.injEq, Prod.mk.injEq] at p1
  have h0 := pre_get (w := [84, 72, 69, 78]) q2 (Nat.le_refl q) (by show q < q + 4; omega)
  rw [show p = q by omega, h0] at p2
  rw [Nat.sub_self] at p2
  revert p2; decide
 ·have := v3.bare (.inl rfl)
  have e1 : (WO.getD 9 default).length = 4 := rfl
  have e2 : (WO.getD 8 default).length = 6 := rfl
  omega
 ·have := v3.bare (.inr rfl)
  have e1 : (WO.getD 43 default).length = 3 := rfl
  have e2 : (WO.getD 10 default).length = 5 := rfl
  omega
 ·have := v3.bare (.inr rfl)
  have e1 : (WO.getD 43 default).length = 3 := rfl
  have e2 : (WO.getD 12 default).length = 5 := rfl
  omega
 ·have := v3.bare (.inr rfl)
  have e1 : (WO.getD 43 default).length = 3 := rfl
  have e2 : (WO.getD 25 default).length = 7 := rfl
  omega
theorem uniqIf (g : GG t L) {k : Nat} (hk : k < 44) (k6 : k ≠ 6) (hk' : KF t L k t.length) {p : Nat} (hif : t.take 2 = [73, 70]) (hp : g_1m.f t L 2 true = some ((p : Int), true)) (h40 : t.getD 2 default = 40)
  {L' : List Int} {m : Nat} (hm : m ≤ 26) (hm' : KF (t.drop p) L' m (t.drop p).length) : False := by
 have i0 : t.getD 0 default = 73 := take_get (w := [73, 70]) hif (by decide)
 have i1 : t.getD 1 default = 70 := take_get (w := [73, 70]) hif (by decide)
 have e0 : (t.drop p).getD 0 default = t.getD p default := by
  rw [List.getD_eq_getElem?_getD, List.getElem?_drop, List.getD_eq_getElem?_getD]; rfl
 have lt : isLt (t.getD p default) = true := by
  rw [← e0]
  by_cases m0 : m = 0
  ·obtain ⟨_, _, _, q, _⟩ := hm'.asg m0
   exact q
  ·obtain ⟨w1, w2, _⟩ := hm'.wrd m0 (by omega) (by omega)
   have := wo_letters ⟨m, by omega⟩ m0
   rw [take_get w1 this.2]
   exact all_get this.1 this.2
 have ne := isLt_ne lt
 by_cases k0 : k = 0
 ·obtain ⟨q, e, p1, p2, p3, p4, p5, p6, p7, p8, p9⟩ := hk'.asg k0
  have q2 : q = 2 := by
   have h3 : ¬ 2 < q := fun h => (isNm_ne (p3 2 h)).2.2.1 h40
   rcases (show q = 1 ∨ q = 2 by omega) with h | h
   ·exfalso
    rw [h, i1] at p9
    rcases p9 with h9 | h9
    ·rw [h9, i1] at p8; revert p8; decide
    ·exact absurd h9.1 (by decide)
   ·exact h
  rw [q2] at p9
  rcases p9 with h9 | h9
  ·rw [h9, h40] at p8; revert p8; decide
  ·have := hp.symm.trans h9.2
   simp only [Option.some.injEq, Prod.mk.injEq] at this
   rw [show p = e by omega] at ne
   exact ne.1 p8
 have fn : ((∃ w ∈ TY, t.take w.length = w) ∨ t.take 8 = [70, 85, 78, 67, 84, 73, 79, 78]) → False := by
  rintro (⟨w, w1, w2⟩ | h)
  ·have := cmp_of (b := [73, 70]) w2 hif
   rw [cmp_ifty w (List.mem_cons_of_mem _ w1)] at this; cases this
  ·have := cmp_of (a := FN) (b := [73, 70]) h hif
   rw [cmp_ifty FN List.mem_cons_self] at this; cases this
 by_cases k28 : k = 28
 ·exact fn (.inl (hk'.typ k28).1)
 by_cases k40 : k = 40
 ·exact fn (hk'.fnc k40).1
 obtain ⟨u1, u2, u3, u4⟩ := hk'.wrd k0 k28 k40
 rcases cmp_if ⟨k, hk⟩ k0 k6 k28 k40 (cmp_of (b := [73, 70]) u1 hif) with h | h
 ·simp only at h
  subst h
  obtain ⟨q, q1, q2⟩ := u3.if5 rfl
  have := hp.symm.trans q1
  simp only [Option.some.injEq, Prod.mk.injEq] at this
  rw [show p = q by omega, q2] at ne
  exact absurd ne.2.2.2.2 (by decide)
 ·simp only at h
  subst h
  obtain ⟨q, q1, q2, q3⟩ := u3.if7 rfl
  have := hp.symm.trans q1
  simp only [Option.some.injEq, Prod.mk.injEq] at this
  have hpq : p = q := by omega
  subst hpq
  by_cases m0 : m = 0
  ·obtain ⟨_, e, _, _, _, _, p5, _, _, p8, _⟩ := hm'.asg m0
   rw [List.length_drop] at p5
   have h4 : e < 4 := by omega
   have := take_get (t := t.drop p) (w := [84, 72, 69, 78]) q2 (i := e) h4
   have all : ([84, 72, 69, 78] : List UInt8).all isLt = true := by decide
   have h5 := all_get all (i := e) h4
   rw [← this, p8] at h5
   revert h5; decide
  ·obtain ⟨w1, w2, _⟩ := hm'.wrd m0 (by omega) (by omega)
   have := cmp_of (b := [84, 72, 69, 78]) w1 q2
   rw [cmp_then ⟨m, by omega⟩ m0 (by simp; omega) (by simp; omega)] at this
   cases this
end
end Go.Proofs.YtcafgoomipkljaaGreatDoorAi
namespace Go.Proofs.YtcafgoomipkljaaGreatDoorAi
open Go Go.RowKit
set_option linter.unusedVariables false
set_option linter.unusedSimpArgs false
section
variable {t : List UInt8} {L : List Int}
theorem cut_num {x : Int} {J J' : List Int} {ok : Bool} (h : g_m.f t x J ok = some J') : J'.length ≤ J.length + 1 ∧ (gt t x = 40 → J' = J) := by
 unfold g_m.f at h
 rw [isLetter_eq, Option.bind_some, isDigit2_eq, Option.bind_some] at h
 have e1 : isLt 40 = false := by decide
 have e2 : isDg 40 = false := by decide
 repeat' split at h
 all_goals first | (cases h; done) | (simp only [Option.some.injEq] at h; subst h; exact ⟨by simp, fun e => by first | rfl | (exfalso; simp_all)⟩)
theorem word_num (g : G0 t L) {a : Nat} (ha : a ≤ t.length) {J J' : List Int} {ok ok' : Bool} {w : List UInt8} (hw : w.length < 1000) {x : Int} (h : g_1t.f t L (a : Int) J ok w = some (x, J', ok')) : J'.length ≤ J.length + 1 ∧ (gt t x = 40 → J' = J) := by
 unfold g_1t.f g_1h.f at h
 obtain ⟨is, q, _⟩ := hasWord_Mo g a ha ok w hw
 rw [q, Option.bind_some, Option.bind_some] at h
 split at h
 ·cases hc : g_m.f t (w64 ((a : Int) + (w.length : Int))) J (ok && is) with
  | none => rw [hc] at h; cases h
  | some J1 =>
   rw [hc, Option.bind_some] at h
   simp only [Option.some.injEq, Prod.mk.injEq] at h
   obtain ⟨rfl, rfl, _⟩ := h
   exact cut_num hc
 ·simp only [Option.some.injEq, Prod.mk.injEq] at h
  obtain ⟨_, rfl, _⟩ := h
  exact ⟨by omega, fun _ => rfl⟩
theorem oneType_num (g : G0 t L) {a : Nat} (ha : a ≤ t.length) {J J' : List Int} {ok ok' is : Bool} {x : Int} (h : g_1k.f t L (a : Int) J ok = some (is, x, J', ok')) : J'.length ≤ J.length + 1 ∧ (gt t x = 40 → J' = J) := by
 unfold g_1k.f at h
 rw [types_f, Option.bind_some] at h
 cases hi : g_2d.f TY t L (a : Int) ok with
 | none => rw [hi] at h; cases h
 | some i =>
  rw [hi, Option.bind_some, Option.bind_some] at h
  split at h
  ·simp only [Option.some.injEq, Prod.mk.injEq] at h
   obtain ⟨_, _, rfl, _⟩ := h
   exact ⟨by omega, fun _ => rfl⟩
  ·split at h
   ·rename_i hlt
    cases hw : g_1t.f t L (a : Int) J ok (gt TY i) with
    | none => rw [hw] at h; cases h
    | some y =>
     obtain ⟨y1, y2, y3⟩ := y
     rw [hw, Option.bind_some] at h
     simp only [Option.some.injEq, Prod.mk.injEq] at h
     obtain ⟨_, rfl, rfl, _⟩ := h
     refine word_num g ha ?_ hw
     have hk : i.toNat < TY.length := by omega
     show (TY.getD i.toNat default).length < 1000
     rw [List.getD_eq_getElem?_getD, List.getElem?_eq_getElem hk]
     exact (TY_ok _ (List.getElem_mem hk)).1.2
   ·cases h
theorem letters_num (g : GG t L) {a : Nat} (ha : a ≤ t.length) {J J' : List Int} (hJ : CK t L a J) {ok : Bool} {x : Int} (h : g_18.f t L (a : Int) J ok = some (x, J', true)) : J' = J ∧ ok = true := by
 unfold g_18.f g_1h.f at h
 obtain ⟨is, b, J1, o1, e1, m1, c1, _⟩ := oneType_Mo g.toG0 a ha hJ ok
 obtain ⟨b2, o2, e2, m2, _, f2, _⟩ := parens_Mo g b m1.len (o1 && is)
 simp only [e1, e2, Option.bind_some, Option.some.injEq, Prod.mk.injEq] at h
 obtain ⟨_, rfl, rfl⟩ := h
 have := m2.good rfl
 rw [Bool.and_eq_true] at this
 exact ⟨(oneType_num g.toG0 ha e1).2 (f2 rfl).2.2.1, m1.good this.1⟩
theorem list5_num (g : GG t L) : ∀ (d a : Nat) (J : List Int) (ok : Bool), a ≤ t.length → t.length ≤ a + d → CK t L a J → ∀ {x : Int} {J' : List Int}, iter (g_1d.b0 t L) ((a : Int), J, ok) = some (x, J', true) → J' = J ∧ ok = true := by
 intro d
 induction d with
 | zero =>
  intro a J ok ha hd hJ x J' h
  have : iter (g_1d.b0 t L) ((a : Int), J, ok) = some ((a : Int), J, ok) := iter_stop (by
   unfold g_1d.b0
   simp only [takes_f g.toG0 a ha]
   have : nx t L a (fun c => decide (c = 44)) = false := by unfold nx; rw [decide_eq_false (by omega)]; rfl
   rw [this]
   cases ok <;> rfl)
  rw [this] at h
  simp only [Option.some.injEq, Prod.mk.injEq] at h
  exact ⟨h.2.1.symm, h.2.2⟩
 | succ d ih =>
  intro a J ok ha hd hJ x J' h
  cases ok
  ·have : iter (g_1d.b0 t L) ((a : Int), J, false) = some ((a : Int), J, false) := iter_stop rfl
   rw [this] at h
   simp at h
  ·obtain ⟨is, b, h1, h2, h3, h4⟩ := takes_Mo g.toG0 a ha true (u := 44) (by decide)
   cases is
   ·obtain rfl := h4 rfl
    have : iter (g_1d.b0 t L) ((b : Int), J, true) = some ((b : Int), J, true) := iter_stop (by
     unfold g_1d.b0
     simp only [h1, Option.bind_some]
     rfl)
    rw [this] at h
    simp only [Option.some.injEq, Prod.mk.injEq] at h
    exact ⟨h.2.1.symm, rfl⟩
   ·obtain ⟨_, e, _⟩ := h3 rfl
    obtain ⟨b', J1, o1, p1, p2, p3⟩ := letters_Mo g b h2.len (hJ.mono h2.le) true
    rw [iter_next (y := (((b' : Nat) : Int), J1, o1)) (by
     unfold g_1d.b0
     simp only [h1, p1, Option.bind_some]
     rfl)] at h
    obtain ⟨q1, q2⟩ := ih b' J1 o1 p2.len (by have := p2.le; omega) p3 h
    subst q2
    exact ⟨q1.trans (letters_num g h2.len (hJ.mono h2.le) p1).1, rfl⟩
theorem list5f_num (g : GG t L) {a : Nat} (ha : a ≤ t.length) {J J' : List Int} (hJ : CK t L a J) {ok : Bool} {x : Int} (h : g_1d.f t L (a : Int) J ok = some (x, J', true)) : J' = J := by
 unfold g_1d.f at h
 obtain ⟨b, J1, o, h1, h2, h3⟩ := letters_Mo g a ha hJ ok
 obtain ⟨b', J2, o', k1, k2, k3⟩ := list5_iter g t.length b J1 o h2.len (by omega) h3
 simp only [h1, k1, Option.bind_some, Option.some.injEq, Prod.mk.injEq] at h
 obtain ⟨_, rfl, rfl⟩ := h
 obtain ⟨q1, q2⟩ := list5_num g t.length b J1 o h2.len (by omega) h3 k1
 subst q2
 exact q1.trans (letters_num g ha hJ h1).1
end
end Go.Proofs.YtcafgoomipkljaaGreatDoorAi
namespace Go.Proofs.YtcafgoomipkljaaGreatDoorAi
open Go Go.RowKit
set_option linter.unusedVariables false
set_option linter.unusedSimpArgs false
section
variable {t : List UInt8} {L : List Int}
def PN (N : Nat) (v : Option (Int × List Int × Bool)) : Prop := ∀ x J' o, v = some (x, J', o) → o = true → J'.length ≤ N
theorem PN.mono {N M : Nat} {v : Option (Int × List Int × Bool)} (h : PN N v) (k : N ≤ M) : PN M v := fun x J' o e o' => Nat.le_trans (h x J' o e o') k
theorem PN.ite {N : Nat} {c : Prop} [Decidable c] {X Y : Option (Int × List Int × Bool)} (hx : PN N X) (hy : PN N Y) : PN N (if c then X else Y) := by
 split
 ·exact hx
 ·exact hy
theorem PN.bd {N : Nat} {α : Type} {x : Option α} {k : α → Option (Int × List Int × Bool)} (h : ∀ y, x = some y → PN N (k y)) : PN N (Option.bind x k) := by
 cases x with
 | none => intro x J' o e; cases e
 | some y => exact h y rfl
theorem PN.some' {N : Nat} {x : Int} {J : List Int} {o : Bool} (h : J.length ≤ N) : PN N (some (x, J, o)) := fun x' J' o' e _ => by
 simp only [Option.some.injEq, Prod.mk.injEq] at e
 rw [← e.2.1]; exact h
theorem word_cnt {p x : Int} {J J' : List Int} {ok ok' : Bool} {w : List UInt8} (h : g_1t.f t L p J ok w = some (x, J', ok')) : J'.length ≤ J.length + 1 := by
 unfold g_1t.f g_1h.f at h
 cases hq : g_s.f t L p ok w with
 | none => rw [hq] at h; cases h
 | some is =>
  rw [hq, Option.bind_some, Option.bind_some] at h
  split at h
  ·cases hc : g_m.f t (w64 (p + (w.length : Int))) J (ok && is) with
   | none => rw [hc] at h; cases h
   | some J1 =>
    rw [hc, Option.bind_some] at h
    simp only [Option.some.injEq, Prod.mk.injEq] at h
    rw [← h.2.1]
    exact (cut_num hc).1
  ·simp only [Option.some.injEq, Prod.mk.injEq] at h
   rw [← h.2.1]; omega
theorem other_num (g : GG t L) {a : Nat} (ha : a ≤ t.length) {J : List Int} (hJ : CK t L a J) (ok : Bool) (pT : Int) : PN (J.length + 1) (g_1l.f t L (a : Int) J ok pT) := by
 have self : ∀ {x : Int} {o : Bool}, PN (J.length + 1) (some (x, J, o)) := PN.some' (Nat.le_succ _)
 have b1 : ∀ {x : Option (Int × Bool)}, PN (J.length + 1) (Option.bind x fun y => some (y.1, J, y.2)) := PN.bd fun y _ => self
 have l5 : PN (J.length + 1) (Option.bind (g_1d.f t L (a : Int) J ok) fun y => some (y.1, y.2.1, y.2.2)) := PN.bd fun y e x J' o h ho => by
  obtain ⟨y1, y2, y3⟩ := y
  simp only [Option.some.injEq, Prod.mk.injEq] at h
  obtain ⟨_, rfl, rfl⟩ := h
  rw [ho] at e
  rw [list5f_num g ha hJ e]; omega
 unfold g_1l.f
 refine PN.ite (PN.bd fun _ _ => PN.ite b1 b1) ?_
 refine PN.ite b1 ?_
 refine PN.ite b1 ?_
 refine PN.bd fun _ _ => PN.ite b1 ?_
 refine PN.bd fun _ _ => PN.ite b1 ?_
 refine PN.ite b1 ?_
 refine PN.ite (PN.bd fun _ _ => PN.bd fun _ _ => b1) ?_
 refine PN.ite b1 ?_
 refine PN.ite b1 ?_
 refine PN.ite (PN.bd fun _ _ => PN.ite (PN.ite (PN.bd fun y e => PN.some' (word_cnt e)) l5) l5) ?_
 refine PN.bd fun _ _ => PN.ite b1 ?_
 refine PN.ite (PN.bd fun _ _ => PN.ite b1 self) ?_
 refine PN.ite b1 ?_
 exact PN.ite (PN.bd fun _ _ => PN.ite b1 self) self
theorem do_num {p : Int} {J : List Int} {ok : Bool} : PN (J.length + 1) (g_p.f t L p J ok) := by
 unfold g_p.f
 refine PN.bd fun z1 e => ?_
 have h1 : z1.2.1.length ≤ J.length + 1 := by
  cases h4 : g_11.f t L p ok with
  | none => rw [h4] at e; cases e
  | some y6 =>
   rw [h4, Option.bind_some] at e
   split at e
   ·cases h5 : g_16.f t L p ok with
    | none => rw [h5] at e; cases e
    | some y9 =>
     rw [h5, Option.bind_some] at e
     cases h6 : g_1r.f t L y9.1 y9.2 44 with
     | none => rw [h6] at e; cases e
     | some y11 =>
      rw [h6, Option.bind_some] at e
      split at e
      ·cases h7 : g_m.f t y11.2 J y9.2 with
       | none => rw [h7] at e; cases e
       | some y14 =>
        rw [h7, Option.bind_some] at e
        simp only [Option.some.injEq] at e
        rw [← e]
        exact (cut_num h7).1
      ·simp only [Option.some.injEq] at e
       rw [← e]; simp
   ·simp only [Option.some.injEq] at e
    rw [← e]; simp
 refine PN.bd fun _ _ => PN.bd fun _ _ => PN.bd fun _ _ => PN.bd fun _ _ => PN.bd fun _ _ => PN.bd fun _ _ => PN.ite (PN.bd fun _ _ => PN.some' h1) (PN.some' h1)
theorem behind_num (g : GG t L) {a : Nat} (ha : a ≤ t.length) {J : List Int} (hJ : CK t L a J) (ok : Bool) (pT : Int) : PN (J.length + 2) (g_k.f t L (a : Int) J ok pT) := by
 have self : ∀ {x : Int} {o : Bool}, PN (J.length + 2) (some (x, J, o)) := PN.some' (by omega)
 have b1 : ∀ {x : Option (Int × Bool)}, PN (J.length + 2) (Option.bind x fun y => some (y.1, J, y.2)) := PN.bd fun y _ => self
 have re : ∀ {x : Option (Int × List Int × Bool)}, PN (J.length + 1) x → PN (J.length + 2) (Option.bind x fun y => some (y.1, y.2.1, y.2.2)) := fun hx => PN.bd fun y e x J' o h ho => by
  obtain ⟨y1, y2, y3⟩ := y
  simp only [Option.some.injEq, Prod.mk.injEq] at h
  obtain ⟨_, rfl, rfl⟩ := h
  have := hx _ _ _ e ho
  omega
 unfold g_k.f
 refine PN.ite (PN.bd fun _ _ => PN.bd fun y4 e4 => PN.bd fun y10 e10 => PN.bd fun _ _ => PN.some' ?_) ?_
 ·have h1 := (cut_num e4).1
  have h2 := word_cnt (x := y10.1) (J' := y10.2.1) (ok' := y10.2.2) e10
  omega
 refine PN.ite b1 ?_
 refine PN.ite (PN.bd fun _ _ => PN.bd fun _ _ => b1) ?_
 refine PN.ite (PN.bd fun _ _ => PN.bd fun _ _ => PN.ite b1 self) ?_
 refine PN.ite (PN.bd fun _ _ => PN.bd fun _ _ => self) ?_
 refine PN.bd fun _ _ => PN.ite (PN.bd fun _ _ => PN.bd fun y e => PN.some' ?_) ?_
 ·have := word_cnt (x := y.1) (J' := y.2.1) (ok' := y.2.2) e
  omega
 refine PN.ite (re do_num) ?_
 refine PN.bd fun _ _ => PN.ite (PN.bd fun _ _ => b1) ?_
 refine PN.ite (PN.bd fun _ _ => PN.ite b1 self) ?_
 refine PN.bd fun _ _ => PN.ite b1 ?_
 exact re (other_num g ha hJ ok pT)
theorem kind_num (g : GG t L) (k : Nat) (hk : k < 44) : PN 3 (g_15.f t L 0 [] true (k : Int)) := by
 unfold g_15.f
 rw [words_f, Option.bind_some, if_pos ⟨by omega, by omega, by show (k : Int) < ((44 : Nat) : Int); omega⟩]
 by_cases h0 : k = 0
 ·subst h0
  rw [if_pos (by decide)]
  exact PN.bd fun _ _ => PN.bd fun _ _ => PN.bd fun _ _ => PN.bd fun _ _ => PN.some' (by simp)
 rw [if_neg (by simp; omega)]
 refine PN.ite (PN.bd fun y e => PN.bd fun _ _ => PN.bd fun _ _ => PN.some' ?_) ?_
 ·have := (oneType_num (a := 0) g.toG0 (Nat.zero_le _) (is := y.1) (x := y.2.1) (J' := y.2.2.1) (ok' := y.2.2.2) e).1
  simp at this; omega
 refine PN.ite (PN.bd fun y e => PN.bd fun z e' => PN.bd fun _ _ => PN.bd fun _ _ => PN.some' ?_) ?_
 ·have h1 := (oneType_num (a := 0) g.toG0 (Nat.zero_le _) (is := y.1) (x := y.2.1) (J' := y.2.2.1) (ok' := y.2.2.2) e).1
  have h2 := word_cnt (x := z.1) (J' := z.2.1) (ok' := z.2.2) e'
  simp at h1; omega
 have hw := WO_ok ⟨k, hk⟩ h0
 simp only at hw
 obtain ⟨b1, J1, o1, e1, m1, c1, _⟩ := word_Mo g.toG0 0 (Nat.zero_le _) (J := []) CK.nil true (WO.getD k default) hw.1 hw.2
 have e1' : g_1t.f t L 0 [] true (gt WO (k : Int)) = some ((b1 : Int), J1, o1) := e1
 rw [e1', Option.bind_some]
 have n1 := word_cnt e1'
 have n2 := behind_num g m1.len c1 o1 (k : Int)
 refine PN.bd fun y e => ?_
 intro x J' o h ho
 obtain ⟨y1, y2, y3⟩ := y
 simp only [Option.some.injEq, Prod.mk.injEq] at h
 obtain ⟨_, rfl, rfl⟩ := h
 have := n2 _ _ _ e ho
 simp at n1
 omega
end
end Go.Proofs.YtcafgoomipkljaaGreatDoorAi
namespace Go.Proofs.YtcafgoomipkljaaGreatDoorAi
open Go Go.RowKit
set_option linter.unusedVariables false
set_option linter.unusedSimpArgs false
theorem getD_l {α : Type} {P l : List α} {d : α} {p k : Nat} (hP : P.length = p) (h : k < p) : (P ++ l).getD k d = P.getD k d := by
 rw [List.getD_eq_getElem?_getD, List.getElem?_append_left (by omega), List.getD_eq_getElem?_getD]
theorem getD_r {α : Type} {P l : List α} {d : α} {p k : Nat} (hP : P.length = p) : (P ++ l).getD (p + k) d = l.getD k d := by
 rw [List.getD_eq_getElem?_getD, List.getElem?_append_right (by omega), List.getD_eq_getElem?_getD, show p + k - P.length = k by omega]
structure Pre (P : List UInt8) (Po : List Bool) (p : Nat) : Prop where
 hP : P.length = p
 hPo : Po.length = p
 h0 : 0 < p
 h41 : P.getD (p - 1) default = 41
 hw : Po.getD (p - 1) default = false
section
variable {P out : List UInt8} {Po own : List Bool} {p : Nat}
theorem dg_shift (h : Pre P Po p) : ∀ n, dg (pD (P ++ out) (Po ++ own)) (p + n) = p + dg (pD out own) n
 | 0 => by
  obtain ⟨q, rfl⟩ : ∃ q, p = q + 1 := ⟨p - 1, by have := h.h0; omega⟩
  show dg _ (q + 1) = q + 1
  unfold dg
  have e : pD (P ++ out) (Po ++ own) q = false := by
   unfold pD
   rw [getD_l h.hP (by omega), getD_l h.hPo (by omega)]
   have a := h.h41; have b := h.hw
   simp only [Nat.add_sub_cancel] at a b
   rw [a, b]; rfl
  rw [e, if_neg (by decide)]
 | n + 1 => by
  show dg _ (p + n + 1) = _
  unfold dg
  have e : pD (P ++ out) (Po ++ own) (p + n) = pD out own n := by
   unfold pD
   rw [getD_r h.hP, getD_r h.hPo]
  rw [e, dg_shift h n]
  split <;> rfl
theorem isB_shift (h : Pre P Po p) (sg : List UInt8) (hs : sg.contains 41 = false) : ∀ n, isB (P ++ out) (Po ++ own) (p + n) sg = isB out own n sg
 | 0 => by
  obtain ⟨q, rfl⟩ : ∃ q, p = q + 1 := ⟨p - 1, by have := h.h0; omega⟩
  unfold isB
  show (!((Po ++ own).getD q default) && sg.contains ((P ++ out).getD q default)) = false
  rw [getD_l h.hP (by omega), getD_l h.hPo (by omega)]
  have a := h.h41; have b := h.hw
  simp only [Nat.add_sub_cancel] at a b
  rw [a, b, hs]; rfl
 | n + 1 => by
  show (!((Po ++ own).getD (p + n) default) && sg.contains ((P ++ out).getD (p + n) default)) = (!(own.getD n default) && sg.contains (out.getD n default))
  rw [getD_r h.hP, getD_r h.hPo]
theorem hol_shift (h : Pre P Po p) : hol (P ++ out) (Po ++ own) = (hol out own).map (fun b => p + b) := by
 unfold hol
 simp only
 rw [List.length_append, h.hP, dg_shift h]
 generalize hb : dg (pD out own) out.length = b
 rw [isB_shift h _ (by decide), isB_shift h _ (by decide)]
 by_cases c1 : b = out.length
 ·rw [if_pos (by omega), if_pos c1]; rfl
 rw [if_neg (by omega), if_neg c1]
 cases h1 : isB out own b [40, 44, 47, 61]
 ·simp only [Bool.false_eq_true, if_false]
  cases h2 : isB out own b [42]
  ·simp only [Bool.false_eq_true, if_false]; rfl
  ·simp only [if_true]
   have b0 : 0 < b := by
    rcases Nat.eq_zero_or_pos b with r | r
    ·rw [r] at h2; cases h2
    ·exact r
   rw [show p + b - 1 = p + (b - 1) by omega, dg_shift h, isB_shift h _ (by decide)]
   by_cases c2 : dg (pD out own) (b - 1) < b - 1 ∧ isB out own (dg (pD out own) (b - 1)) [40, 44, 47, 61] = true
   ·rw [if_pos ⟨by omega, c2.2⟩, if_pos c2]; rfl
   ·rw [if_neg (fun k => c2 ⟨by omega, k.2⟩), if_neg c2]; rfl
 ·simp only [if_true]; rfl
def shC (p : Nat) (c : Int × Int) : Int × Int := (c.1 + p, c.2 + p)
def sh1 (p : Nat) (x : Int) : Int := x + p
def shR (p : Nat) : Except Int (Nat × List UInt8 × List Bool × List (Int × Int)) → Except Int (Nat × List UInt8 × List Bool × List (Int × Int))
 | .error e => .error e
 | .ok (a', o, w, c) => .ok (p + a', o, w, c.map (shC p))
theorem drop_get (t : List UInt8) (p a : Nat) : (t.drop p).getD a default = t.getD (p + a) default := by
 rw [List.getD_eq_getElem?_getD, List.getElem?_drop, List.getD_eq_getElem?_getD]
theorem stp_shift (h : Pre P Po p) {t : List UInt8} (hp : p ≤ t.length) (a : Nat) {Pf frm : List Int} (hf : Pf.length = p) (ho : frm.length = out.length) :
  stp t (p + a) (P ++ out) (Po ++ own) (Pf ++ frm.map (sh1 p)) = shR p (stp (t.drop p) a out own frm) := by
 unfold stp
 simp only
 rw [drop_get, hol_shift h, List.drop_drop, show p + (a + 1) = p + a + 1 by omega]
 by_cases c1 : t.getD (p + a) default = 39 ∨ t.getD (p + a) default = 34
 ·rw [if_pos c1, if_pos c1]
  cases hx : List.findIdx? (fun x => x == t.getD (p + a) default) (t.drop (p + a + 1)) with
  | none => rfl
  | some n =>
   simp only [shR, Except.ok.injEq, Prod.mk.injEq]
   refine ⟨by omega, ?_, trivial, ?_⟩
   ·unfold piece; rw [List.drop_drop]
   ·simp only [List.map_cons, List.map_nil, shC, List.cons.injEq, Prod.mk.injEq, and_true]
    exact ⟨by omega, by omega⟩
 ·rw [if_neg c1, if_neg c1]
  have e : (if upC (t.getD (p + a) default) = 72 then (hol out own).map (fun b => p + b) else none) = (if upC (t.getD (p + a) default) = 72 then hol out own else none).map (fun b => p + b) := by split <;> rfl
  rw [e]
  have hb : ∀ b, (if upC (t.getD (p + a) default) = 72 then hol out own else none) = some b → b < out.length := fun b hb => by
   split at hb
   ·exact (hol_some hb).1
   ·cases hb
  cases hx : (if upC (t.getD (p + a) default) = 72 then hol out own else none) with
  | none =>
   simp only [Option.map_none]
   split
   ·simp only [shR, List.map_nil, Except.ok.injEq, Prod.mk.injEq]
    first | trivial | exact ⟨by omega, trivial, trivial, trivial⟩
   ·simp only [shR, List.map_nil, Except.ok.injEq, Prod.mk.injEq]
    first | trivial | exact ⟨by omega, trivial, trivial, trivial⟩
  | some b =>
   have hb := hb b hx
   simp only [Option.map_some]
   have ed : (P ++ out).drop (p + b) = out.drop b := by
    rw [List.drop_append, List.drop_eq_nil_of_le (by have := h.hP; omega), List.nil_append, h.hP, show p + b - p = b by omega]
   rw [ed, List.length_drop, getD_r hf]
   have eg : (frm.map (sh1 p)).getD b default = sh1 p (frm.getD b default) := by
    rw [List.getD_eq_getElem?_getD, List.getElem?_map, List.getD_eq_getElem?_getD, List.getElem?_eq_getElem (by omega)]; rfl
   rw [eg]
   generalize valL 0 (out.drop b) = n
   by_cases c2 : t.length < p + a + 1 + n
   ·rw [if_pos c2, if_pos (c := t.length - p < a + 1 + n) (by omega)]; rfl
   ·rw [if_neg c2, if_neg (c := t.length - p < a + 1 + n) (by omega)]
    split
    ·rfl
    ·simp only [shR, Except.ok.injEq, Prod.mk.injEq]
     refine ⟨by omega, ?_, trivial, ?_⟩
     ·unfold piece; rw [List.drop_drop, show p + (a + 1) = p + a + 1 by omega]
     ·simp only [List.map_cons, List.map_nil, shC, sh1, List.cons.injEq, Prod.mk.injEq, and_true, true_and]
      omega
def shQ (P : List UInt8) (Pf : List Int) (Po : List Bool) (C : List (Int × Int)) (p : Nat) : Except Int (List UInt8 × List Int × List Bool × List (Int × Int)) → Except Int (List UInt8 × List Int × List Bool × List (Int × Int))
 | .error e => .error e
 | .ok r => .ok (P ++ r.1, Pf ++ r.2.1.map (sh1 p), Po ++ r.2.2.1, C ++ r.2.2.2.map (shC p))
theorem rng_map (p : Nat) : ∀ (n a : Nat), rng (p + a) n = (rng a n).map (sh1 p)
 | 0, a => rfl
 | n + 1, a => by
  simp only [rng, List.map_cons]
  rw [show p + a + 1 = p + (a + 1) by omega, rng_map p n (a + 1)]
  congr 1
  unfold sh1; omega
end
theorem sqz_shift {P : List UInt8} {Po : List Bool} {p : Nat} (h : Pre P Po p) {t : List UInt8} (hp : p ≤ t.length) (ht : t.length < 10000) {Pf : List Int} (hf : Pf.length = p) (C : List (Int × Int)) : ∀ (n a : Nat) (out : List UInt8) (frm : List Int) (own : List Bool) (cs : List (Int × Int)),
  Fine (t.drop p) a out frm own cs → sqz t n (p + a) (P ++ out) (Pf ++ frm.map (sh1 p)) (Po ++ own) (C ++ cs.map (shC p)) = shQ P Pf Po C p (sqz (t.drop p) n a out frm own cs)
 | 0, a, out, frm, own, cs, hF => rfl
 | n + 1, a, out, frm, own, cs, hF => by
  unfold sqz
  by_cases c : p + a < t.length
  ·have c' : a < (t.drop p).length := by rw [List.length_drop]; omega
   rw [if_pos c, if_pos c', stp_shift h hp a hf hF.lf]
   cases hs : stp (t.drop p) a out own frm with
   | error e => rfl
   | ok r =>
    obtain ⟨a', o, w, c⟩ := r
    simp only [shR]
    have := sqz_shift h hp ht hf C n a' (out ++ o) (frm ++ rng a o.length) (own ++ w) (cs ++ c) (stp_fine hF c' hs).2.1
    rw [← this, List.map_append, List.map_append, ← rng_map]
    simp only [List.append_assoc]
  ·rw [if_neg c, if_neg (by rw [List.length_drop]; omega)]
   rfl
theorem sqz_fuel {t : List UInt8} : ∀ (n m a : Nat) (out : List UInt8) (frm : List Int) (own : List Bool) (cs : List (Int × Int)), Fine t a out frm own cs → t.length < a + n → t.length < a + m → sqz t n a out frm own cs = sqz t m a out frm own cs
 | 0, m, a, out, frm, own, cs, h, hn, hm => absurd h.la (by omega)
 | n + 1, 0, a, out, frm, own, cs, h, hn, hm => absurd h.la (by omega)
 | n + 1, m + 1, a, out, frm, own, cs, h, hn, hm => by
  unfold sqz
  by_cases c : a < t.length
  ·rw [if_pos c, if_pos c]
   cases hs : stp t a out own frm with
   | error e => rfl
   | ok r =>
    obtain ⟨a', o, w, c'⟩ := r
    obtain ⟨k1, k2, _⟩ := stp_fine h c hs
    exact sqz_fuel n m a' _ _ _ _ k2 (by omega) (by omega)
  ·rw [if_neg c, if_neg c]
end Go.Proofs.YtcafgoomipkljaaGreatDoorAi
namespace Go.Proofs.YtcafgoomipkljaaGreatDoorAi
open Go Go.RowKit
set_option linter.unusedVariables false
set_option linter.unusedSimpArgs false
theorem stp_two {t : List UInt8} {a : Nat} {out : List UInt8} {frm : List Int} {own : List Bool} {cs : List (Int × Int)} (h : Fine t a out frm own cs) (hl : LtA a frm) (ha : a < t.length) {a' : Nat} {o : List UInt8} {w : List Bool} {c : List (Int × Int)} (hs : stp t a out own frm = .ok (a', o, w, c)) :
  (∃ i : Nat, i ≤ a ∧ c = [((i : Int), (a' : Int))]) ∨ (a' = a + 1 ∧ c = [] ∧ ((o = [upC (t.getD a default)] ∧ w = [false]) ∨ (o = [] ∧ w = []))) := by
 obtain ⟨h1, h2, h3, h4, h5, h6⟩ := h
 unfold stp at hs
 simp only at hs
 split at hs
 ·split at hs
  ·cases hs
  ·simp only [Except.ok.injEq, Prod.mk.injEq] at hs
   obtain ⟨rfl, rfl, rfl, rfl⟩ := hs
   exact .inl ⟨a, Nat.le_refl _, rfl⟩
 ·split at hs
  ·rename_i b hb
   have hb' : hol out own = some b := by
    split at hb
    ·exact hb
    ·cases hb
   obtain ⟨k1, _, _⟩ := hol_some hb'
   split at hs
   ·cases hs
   ·split at hs
    ·cases hs
    ·simp only [Except.ok.injEq, Prod.mk.injEq] at hs
     obtain ⟨rfl, rfl, rfl, rfl⟩ := hs
     have hm : frm.getD b default ∈ frm := by
      rw [List.getD_eq_getElem?_getD, List.getElem?_eq_getElem (by omega)]
      exact List.getElem_mem _
     obtain ⟨i, e1, e2⟩ := hl _ hm
     exact .inl ⟨i, by omega, by rw [e1]⟩
  ·split at hs
   ·simp only [Except.ok.injEq, Prod.mk.injEq] at hs
    obtain ⟨rfl, rfl, rfl, rfl⟩ := hs
    exact .inr ⟨rfl, rfl, .inr ⟨rfl, rfl⟩⟩
   ·simp only [Except.ok.injEq, Prod.mk.injEq] at hs
    obtain ⟨rfl, rfl, rfl, rfl⟩ := hs
    exact .inr ⟨rfl, rfl, .inl ⟨rfl, rfl⟩⟩
theorem sqz_more {t : List UInt8} : ∀ (n a : Nat) (out : List UInt8) (frm : List Int) (own : List Bool) (cs : List (Int × Int)) (r : List UInt8 × List Int × List Bool × List (Int × Int)), Fine t a out frm own cs → LtA a frm → sqz t n a out frm own cs = .ok r → (∃ y, r.2.2.2 = cs ++ y) ∧ r.1.length + a ≤ out.length + t.length
 | 0, a, out, frm, own, cs, r, h, hl, hs => by
  simp only [sqz, Except.ok.injEq] at hs
  subst hs
  exact ⟨⟨[], by simp⟩, by have := h.la; simp only; omega⟩
 | n + 1, a, out, frm, own, cs, r, h, hl, hs => by
  unfold sqz at hs
  split at hs
  ·rename_i ha
   split at hs
   ·cases hs
   ·rename_i a' o w c hst
    obtain ⟨k1, k2⟩ := stp_in h hl ha hst
    obtain ⟨k3, k4, _⟩ := stp_fine h ha hst
    obtain ⟨⟨y, q1⟩, q2⟩ := sqz_more n a' _ _ _ _ r k4 ((hl.mono (by omega)).app (LtA_rng o.length k2)) hs
    rw [List.length_append] at q2
    exact ⟨⟨c ++ y, by rw [q1, List.append_assoc]⟩, by omega⟩
  ·simp only [Except.ok.injEq] at hs
   subst hs
   exact ⟨⟨[], by simp⟩, by have := h.la; simp only; omega⟩
theorem sqz_at {t : List UInt8} {p : Nat} (hp : p ≤ t.length) (h41 : t.getD (p - 1) default = 41) : ∀ (n a : Nat) (out : List UInt8) (frm : List Int) (own : List Bool) (cs : List (Int × Int)) (r : List UInt8 × List Int × List Bool × List (Int × Int)),
  Fine t a out frm own cs → LtA a frm → InT a cs → a < p → out.length = a → t.length < a + n → sqz t n a out frm own cs = .ok r → r.1.length = t.length → (∀ c ∈ r.2.2.2, ¬ (c.1 ≤ ((p - 1 : Nat) : Int) ∧ ((p - 1 : Nat) : Int) < c.2)) →
  ∃ m out1 frm1 own1 C1, Fine t p out1 frm1 own1 C1 ∧ out1.length = p ∧ own1.getD (p - 1) default = false ∧ out1.getD (p - 1) default = 41 ∧ InT p C1 ∧ t.length < p + m ∧ sqz t m p out1 frm1 own1 C1 = .ok r
 | 0, a, out, frm, own, cs, r, h, hl, hi, hap, ho, hn, hs, hr, hc => absurd h.la (by omega)
 | n + 1, a, out, frm, own, cs, r, h, hl, hi, hap, ho, hn, hs, hr, hc => by
  unfold sqz at hs
  rw [if_pos (by omega)] at hs
  split at hs
  ·cases hs
  ·rename_i a' o w c hst
   obtain ⟨k1, k2⟩ := stp_in h hl (by omega) hst
   obtain ⟨k3, k4, k5⟩ := stp_fine h (by omega) hst
   have hl' := (hl.mono (Nat.le_of_lt k3)).app (LtA_rng o.length k2)
   obtain ⟨⟨y, q1⟩, q2⟩ := sqz_more n a' _ _ _ _ r k4 hl' hs
   rw [List.length_append] at q2
   have eo : o.length = a' - a := by omega
   have hi' : InT a' (cs ++ c) := by
    refine InT.app (fun x hx => ?_) (fun x hx => ?_)
    ·obtain ⟨i, m, e1, e2⟩ := hi x hx
     exact ⟨i, m, e1, by omega⟩
    ·rcases stp_two h hl (by omega) hst with ⟨i, i1, rfl⟩ | ⟨_, rfl, _⟩
     ·rw [List.mem_singleton] at hx
      exact ⟨i, a' - i, by rw [hx, show i + (a' - i) = a' by omega], by omega⟩
     ·cases hx
   by_cases hlt : a' < p
   ·exact sqz_at hp h41 n a' _ _ _ _ r k4 hl' hi' hlt (by rw [List.length_append]; omega) (by omega) hs hr hc
   ·rcases stp_two h hl (by omega) hst with ⟨i, i1, rfl⟩ | ⟨e1, rfl, e2⟩
    ·exfalso
     refine hc _ (by rw [q1]; simp only [List.mem_append, List.mem_singleton]; exact .inl (.inr rfl)) ⟨?_, ?_⟩
     ·simp only; omega
     ·simp only; omega
    ·obtain rfl : p = a + 1 := by omega
     subst e1
     simp only [Nat.add_sub_cancel] at h41
     rcases e2 with ⟨rfl, rfl⟩ | ⟨rfl, rfl⟩
     ·refine ⟨n, _, _, _, _, k4, by rw [List.length_append]; simp; omega, ?_, ?_, hi', by omega, hs⟩
      ·simp only [Nat.add_sub_cancel]
       have := getD_r (P := own) (l := [false]) (d := default) (p := a) (k := 0) (by have := h.lw; omega)
       rw [Nat.add_zero] at this
       rw [this]; rfl
      ·simp only [Nat.add_sub_cancel]
       have := getD_r (P := out) (l := [upC (t.getD a default)]) (d := default) (p := a) (k := 0) ho
       rw [Nat.add_zero] at this
       rw [this, h41]; rfl
     ·simp at eo
theorem mark1_true : ∀ (n i q : Nat) (l : List Bool), (i ≤ q ∧ q < i + n ∧ q < l.length) ∨ l.getD q default = true → (mark1 l i n).getD q default = true
 | 0, i, q, l, h => by
  rcases h with h | h
  ·omega
  ·exact h
 | n + 1, i, q, l, h => by
  unfold mark1
  apply mark1_true n
  rcases h with h | h
  ·by_cases e : q = i
   ·right
    rw [List.getD_eq_getElem?_getD, e, List.getElem?_set_self (by omega)]; rfl
   ·left
    rw [List.length_set]; omega
  ·right
   by_cases e : q = i
   ·have hq : q < l.length := by
     apply Decidable.byContradiction
     intro hq
     rw [List.getD_eq_getElem?_getD, List.getElem?_eq_none (by omega)] at h
     cases h
    rw [List.getD_eq_getElem?_getD, e, List.getElem?_set_self (by omega)]; rfl
   ·rw [List.getD_eq_getElem?_getD, List.getElem?_set_ne (by omega), ← List.getD_eq_getElem?_getD]; exact h
theorem mks_true : ∀ (cs : List (Int × Int)) (q : Nat) (l : List Bool), q < l.length → (l.getD q default = true ∨ ∃ c ∈ cs, 0 ≤ c.1 ∧ c.1 ≤ (q : Int) ∧ (q : Int) < c.2) → (mks cs l).getD q default = true
 | [], q, l, hq, h => by
  rcases h with h | ⟨c, hc, _⟩
  ·exact h
  ·cases hc
 | c :: cs, q, l, hq, h => by
  unfold mks
  apply mks_true cs q _ (by rw [mark1_len]; exact hq)
  rcases h with h | ⟨x, hx, h1, h2, h3⟩
  ·exact .inl (mark1_true _ _ _ _ (.inr h))
  ·rcases List.mem_cons.1 hx with rfl | hx
   ·exact .inl (mark1_true _ _ _ _ (.inl ⟨by omega, by omega, hq⟩))
   ·exact .inr ⟨x, hx, h1, h2, h3⟩
theorem mark1_lo (p : Nat) : ∀ (n i : Nat) (l : List Bool), i + n ≤ p → (mark1 l i n).drop p = l.drop p
 | 0, _, _, _ => rfl
 | n + 1, i, l, h => by
  unfold mark1
  rw [mark1_lo p n (i + 1) _ (by omega), List.drop_set, if_pos (by omega)]
theorem mark1_hi (p : Nat) : ∀ (n i : Nat) (l : List Bool), (mark1 l (p + i) n).drop p = mark1 (l.drop p) i n
 | 0, _, _ => rfl
 | n + 1, i, l => by
  unfold mark1
  rw [Nat.add_assoc, mark1_hi p n (i + 1), List.drop_set, if_neg (by omega), show p + i - p = i by omega]
theorem mks_lo {p : Nat} : ∀ (cs : List (Int × Int)) (l : List Bool), InT p cs → (mks cs l).drop p = l.drop p
 | [], _, _ => rfl
 | c :: cs, l, h => by
  unfold mks
  rw [mks_lo cs _ (fun x hx => h x (List.mem_cons_of_mem _ hx))]
  obtain ⟨i, n, e1, e2⟩ := h c List.mem_cons_self
  rw [mark1_lo p _ _ _ (by rw [e1]; simp only; omega)]
theorem mks_hi {p len : Nat} : ∀ (cs : List (Int × Int)) (l : List Bool), InT len cs → (mks (cs.map (shC p)) l).drop p = mks cs (l.drop p)
 | [], _, _ => rfl
 | c :: cs, l, h => by
  simp only [List.map_cons]
  unfold mks
  rw [mks_hi cs _ (fun x hx => h x (List.mem_cons_of_mem _ hx))]
  obtain ⟨i, n, e1, e2⟩ := h c List.mem_cons_self
  have a1 : (shC p c).1.toNat = p + i := by rw [e1]; unfold shC; simp only; omega
  have a2 : ((shC p c).2 - (shC p c).1).toNat = n := by rw [e1]; unfold shC; simp only; omega
  have a3 : c.1.toNat = i := by rw [e1]; simp only; omega
  have a4 : (c.2 - c.1).toNat = n := by rw [e1]; simp only; omega
  rw [a1, a2, a3, a4, mark1_hi]
theorem mks_cons (c : Int × Int) (cs : List (Int × Int)) (l : List Bool) : mks (c :: cs) l = mks cs (mark1 l c.1.toNat (c.2 - c.1).toNat) := rfl
theorem mks_app : ∀ (a b : List (Int × Int)) (l : List Bool), mks (a ++ b) l = mks b (mks a l)
 | [], _, _ => rfl
 | c :: a, b, l => by
  rw [List.cons_append, mks_cons, mks_cons]
  exact mks_app a b _
def cnt : List (Bool × UInt8) → Int → Int
 | [], n => n
 | (m, c) :: r, n => if m = true then cnt r n else cnt r (if c = 40 then (if c = 41 then n - 1 else n) + 1 else (if c = 41 then n - 1 else n))
theorem lvl_cons (m : Bool) (c : UInt8) (r : List (Bool × UInt8)) (n : Int) : lvl ((m, c) :: r) n = if m = true then -1 :: lvl r n else (if c = 41 then n - 1 else n) :: lvl r (if c = 40 then (if c = 41 then n - 1 else n) + 1 else (if c = 41 then n - 1 else n)) := rfl
theorem cnt_cons (m : Bool) (c : UInt8) (r : List (Bool × UInt8)) (n : Int) : cnt ((m, c) :: r) n = if m = true then cnt r n else cnt r (if c = 40 then (if c = 41 then n - 1 else n) + 1 else (if c = 41 then n - 1 else n)) := rfl
theorem lvl_app : ∀ (a b : List (Bool × UInt8)) (n : Int), lvl (a ++ b) n = lvl a n ++ lvl b (cnt a n)
 | [], _, _ => rfl
 | (m, c) :: a, b, n => by
  rw [List.cons_append, lvl_cons, lvl_cons, cnt_cons]
  split
  ·rw [lvl_app a b]; rfl
  ·rw [lvl_app a b]; rfl
theorem cnt_app : ∀ (a b : List (Bool × UInt8)) (n : Int), cnt (a ++ b) n = cnt b (cnt a n)
 | [], _, _ => rfl
 | (m, c) :: a, b, n => by
  rw [List.cons_append, cnt_cons, cnt_cons]
  split
  ·exact cnt_app a b _
  ·exact cnt_app a b _
theorem chk_cnt : ∀ (z : List (Bool × UInt8)) (k : Nat) (o o' : List Int), chk z k o = .inr o' → cnt z (o.length : Int) = (o'.length : Int)
 | [], k, o, o', h => by
  simp only [chk, Sum.inr.injEq] at h
  rw [h]; rfl
 | (m, c) :: r, k, o, o', h => by
  unfold chk at h
  unfold cnt
  split at h
  ·rename_i hm
   rw [if_pos hm]
   exact chk_cnt r _ o o' h
  ·rename_i hm
   rw [if_neg hm]
   split at h
   ·rename_i hc
    rw [if_pos hc, if_neg (by rw [hc]; decide)]
    have := chk_cnt r _ _ o' h
    rw [List.length_append] at this
    rw [← this]; rfl
   ·rename_i hc
    rw [if_neg hc]
    split at h
    ·rename_i hd
     rw [if_pos hd]
     split at h
     ·cases h
     ·rename_i ho
      have := chk_cnt r _ _ o' h
      rw [List.length_dropLast] at this
      have h0 : 0 < o.length := List.length_pos_iff.2 ho
      rw [show (o.length : Int) - 1 = ((o.length - 1 : Nat) : Int) by omega]
      exact this
    ·rename_i hd
     rw [if_neg hd]
     exact chk_cnt r _ o o' h
theorem close_ex : ∀ (z : List (Bool × UInt8)) (n : Int), 1 ≤ n → cnt z n = 0 → ∃ j, j < z.length ∧ (lvl z n).getD j default = 0 ∧ (z.getD j default).2 = 41 ∧ ∀ k, k < j → (lvl z n).getD k default ≠ 0
 | [], n, h1, h2 => by
  simp only [cnt] at h2
  omega
 | (m, c) :: r, n, h1, h2 => by
  have go : ∀ (x n' : Int), x ≠ 0 → 1 ≤ n' → cnt r n' = 0 → ∃ j, j < ((m, c) :: r).length ∧ (x :: lvl r n').getD j default = 0 ∧ (((m, c) :: r).getD j default).2 = 41 ∧ ∀ k, k < j → (x :: lvl r n').getD k default ≠ 0 := fun x n' hx hn' hc => by
   obtain ⟨j, j1, j2, j3, j4⟩ := close_ex r n' hn' hc
   refine ⟨j + 1, by simp only [List.length_cons]; omega, j2, j3, fun k hk => ?_⟩
   cases k with
   | zero => exact hx
   | succ k => exact j4 k (by omega)
  unfold cnt at h2
  unfold lvl
  split at h2
  ·rename_i hm
   rw [if_pos hm]
   exact go _ _ (by decide) h1 h2
  ·rename_i hm
   rw [if_neg hm]
   by_cases hd : c = 41
   ·have h40 : c ≠ 40 := by rw [hd]; decide
    rw [if_pos hd, if_neg h40] at h2 ⊢
    by_cases h1' : n = 1
    ·refine ⟨0, by simp, ?_, hd, fun k hk => by omega⟩
     rw [h1']; rfl
    ·exact go _ _ (by omega) (by omega) h2
   ·rw [if_neg hd] at h2 ⊢
    refine go _ _ (by omega) ?_ h2
    split <;> omega
structure Vd (t : List UInt8) : Prop where
 sq : ∃ r, SQ t = .ok r ∧ r.1 = t
 bal : cnt (ZZ t) 0 = 0
theorem Vd.of {t : List UInt8} (h : (CT t).2 = 0) : Vd t := by
 unfold CT at h
 cases hs : SQ t with
 | error e => rw [hs] at h; exact absurd h (SQ_err hs)
 | ok r =>
  rw [hs] at h
  simp only at h
  split at h
  ·cases h
  ·split at h
   ·cases h
   ·rename_i h1 h2
    refine ⟨⟨r, hs, Decidable.byContradiction h2⟩, ?_⟩
    split at h
    ·cases h
    ·rename_i o ho
     split at h
     ·rename_i ho'
      have := chk_cnt _ _ _ _ ho
      rw [ho'] at this
      exact this
     ·cases h
theorem Vd.len {t : List UInt8} (h : Vd t) : t.length < 10000 := by
 obtain ⟨r, h1, _⟩ := h.sq
 have := SQ_len h1
 omega
theorem getD_r0 {α : Type} {P l : List α} {d : α} {p : Nat} (hP : P.length = p) : (P ++ l).getD p d = l.getD 0 d := by
 rw [List.getD_eq_getElem?_getD, List.getElem?_append_right (by omega), List.getD_eq_getElem?_getD, show p - P.length = 0 by omega]
theorem split_at {t : List UInt8} {i : Nat} (hi : i < t.length) : ZZ t = (ZZ t).take i ++ ((MK t).getD i default, t.getD i default) :: (ZZ t).drop (i + 1) := by
 rw [← ZZ_drop hi, List.take_append_drop]
theorem LV_at {t : List UInt8} {i : Nat} (hi : i < t.length) : LV t = lvl ((ZZ t).take i) 0 ++ lvl (((MK t).getD i default, t.getD i default) :: (ZZ t).drop (i + 1)) (cnt ((ZZ t).take i) 0) := by
 unfold LV
 conv => lhs; rw [split_at hi]
 rw [lvl_app]
theorem pre_len {t : List UInt8} {i : Nat} (hi : i < t.length) : (lvl ((ZZ t).take i) 0).length = i := by
 rw [lvl_len, List.length_take, ZZ_len]; omega
theorem zero_mark {t : List UInt8} {i : Nat} (hi : i < t.length) (h : (LV t).getD i default = 0) : (MK t).getD i default = false := by
 cases hm : (MK t).getD i default
 ·rfl
 ·exfalso
  rw [LV_at hi] at h
  rw [getD_r0 (pre_len hi), hm, lvl_cons, if_pos rfl] at h
  have h : (-1 : Int) = 0 := h
  omega
theorem Vd.par {t : List UInt8} (h : Vd t) : GG t (LV t) := by
 refine ⟨⟨h.len, LV_len t⟩, fun i hi h0 h40 => ?_⟩
 have hm := zero_mark hi h0
 have hb := h.bal
 rw [split_at hi, cnt_app, hm, h40] at hb
 rw [LV_at hi, hm, h40] at h0
 rw [getD_r0 (pre_len hi)] at h0
 rw [lvl_cons] at h0
 rw [cnt_cons] at hb
 rw [if_neg (by decide), if_neg (by decide)] at h0
 rw [if_neg (by decide), if_pos rfl, if_neg (by decide)] at hb
 have hc : cnt ((ZZ t).take i) 0 = 0 := h0
 rw [hc] at hb
 obtain ⟨j, j1, j2, j3, j4⟩ := close_ex _ _ (by decide) hb
 have eL : LV t = (lvl ((ZZ t).take i) 0 ++ [0]) ++ lvl ((ZZ t).drop (i + 1)) (0 + 1) := by
  rw [LV_at hi, hm, h40, hc, List.append_assoc]
  rfl
 have pl : (lvl ((ZZ t).take i) 0 ++ [(0 : Int)]).length = i + 1 := by rw [List.length_append, pre_len hi]; rfl
 rw [List.length_drop, ZZ_len] at j1
 have at' : ∀ k, (LV t).getD (i + 1 + k) default = (lvl ((ZZ t).drop (i + 1)) (0 + 1)).getD k default := fun k => by rw [eL, getD_r pl]
 refine ⟨i + 1 + j, by omega, by omega, by rw [at']; exact j2, ?_, fun k k1 k2 => ?_⟩
 ·rw [drop_getZ (by omega)] at j3
  exact j3
 ·have := j4 (k - (i + 1)) (by omega)
  rw [← at', show i + 1 + (k - (i + 1)) = k by omega] at this
  exact this
where
 drop_getZ {t : List UInt8} {i j : Nat} (h : i + j < t.length) : ((ZZ t).drop i).getD j default = ((MK t).getD (i + j) default, t.getD (i + j) default) := by
  have e : ((ZZ t).drop (i + j))[0]? = some ((MK t).getD (i + j) default, t.getD (i + j) default) := by rw [ZZ_drop h]; rfl
  rw [List.getElem?_drop] at e
  rw [List.getD_eq_getElem?_getD, List.getElem?_drop]
  exact (congrArg (fun o => Option.getD o default) e)
end Go.Proofs.YtcafgoomipkljaaGreatDoorAi
namespace Go.Proofs.YtcafgoomipkljaaGreatDoorAi
open Go Go.RowKit
set_option linter.unusedVariables false
set_option linter.unusedSimpArgs false
theorem tErr_drop {t : List UInt8} (h : tErr t = 0) (p : Nat) : tErr (t.drop p) = 0 := by
 unfold tErr at h ⊢
 split at h
 ·cases h
 ·rename_i h1
  split at h
  ·rename_i h2
   rw [if_neg (by rw [List.length_drop]; omega), if_pos]
   rw [List.all_eq_true] at h2 ⊢
   exact fun x hx => h2 x (List.mem_of_mem_drop hx)
  ·cases h
theorem Vd.drop2 {t : List UInt8} (h : Vd t) {p : Nat} (h0 : 0 < p) (hp : p < t.length) (hL : (LV t).getD (p - 1) default = 0) (h41 : t.getD (p - 1) default = 41) : Vd (t.drop p) ∧ LV (t.drop p) = (LV t).drop p := by
 have hlen := h.len
 have hm := zero_mark (by omega) hL
 obtain ⟨r, hs, hr⟩ := h.sq
 have hcs : CS t = r.2.2.2 := by unfold CS; rw [hs]
 have hin := SQ_in hs
 have hs' := hs
 unfold SQ at hs'
 split at hs'
 ·cases hs'
 ·rename_i he
  have he : tErr t = 0 := Decidable.byContradiction he
  obtain ⟨m, P, Pf, Po, C, hF, hP, hw, h41', hC, hmm, hq⟩ := sqz_at (p := p) (by omega) h41 (t.length + 1) 0 [] [] [] [] r ⟨by omega, Nat.zero_le _, Nat.le_refl _, rfl, rfl, Nat.le_refl _⟩ (fun x hx => by cases hx) (fun x hx => by cases hx) h0 rfl (by omega) hs' (by rw [hr]) (fun c hc hx => by
   have : (MK t).getD (p - 1) default = true := mks_true _ _ _ (by rw [List.length_replicate]; omega) (.inr ⟨c, by rw [hcs]; exact hc, by
    obtain ⟨i, n, e1, _⟩ := hin c hc
    rw [e1]; simp only; omega, hx.1, hx.2⟩)
   rw [hm] at this; cases this)
  have pre : Pre P Po p := ⟨hP, by rw [← hP]; exact hF.lw, h0, h41', hw⟩
  have hPf : Pf.length = p := by rw [← hP]; exact hF.lf
  have hf0 : Fine (t.drop p) 0 [] [] [] [] := ⟨by rw [List.length_drop]; omega, Nat.zero_le _, Nat.le_refl _, rfl, rfl, Nat.le_refl _⟩
  have sh := sqz_shift pre (t := t) (by omega) hlen hPf C m 0 [] [] [] [] hf0
  rw [Nat.add_zero, List.append_nil, List.map_nil, List.append_nil, List.append_nil, List.map_nil, List.append_nil, hq] at sh
  have fuel := sqz_fuel (t := t.drop p) m ((t.drop p).length + 1) 0 [] [] [] [] hf0 (by rw [List.length_drop]; omega) (by omega)
  rw [fuel] at sh
  have hsq : SQ (t.drop p) = sqz (t.drop p) ((t.drop p).length + 1) 0 [] [] [] [] := by
   unfold SQ
   rw [if_neg (by rw [tErr_drop he]; decide)]
  rw [← hsq] at sh
  cases hz : SQ (t.drop p) with
  | error e => rw [hz] at sh; cases sh
  | ok r' =>
   rw [hz] at sh
   simp only [shQ, Except.ok.injEq] at sh
   have e1 : r.1 = P ++ r'.1 := by rw [sh]
   have e2 : r.2.2.2 = C ++ r'.2.2.2.map (shC p) := by rw [sh]
   have hr' : r'.1 = t.drop p := by
    rw [← hr, e1, List.drop_append, List.drop_eq_nil_of_le (by omega), List.nil_append, hP, Nat.sub_self, List.drop_zero]
   have hcs' : CS (t.drop p) = r'.2.2.2 := by unfold CS; rw [hz]
   have mk : MK (t.drop p) = (MK t).drop p := by
    unfold MK
    rw [hcs, hcs', e2, mks_app, mks_hi (len := (t.drop p).length) _ _ (SQ_in hz), mks_lo C _ hC, List.drop_replicate, List.length_drop]
   have zz : ZZ (t.drop p) = (ZZ t).drop p := by
    unfold ZZ
    rw [mk]
    exact (List.drop_zipWith (f := Prod.mk) (l := MK t) (l' := t) (i := p)).symm
   have hb := h.bal
   rw [← List.take_append_drop p (ZZ t), cnt_app] at hb
   have c0 : cnt ((ZZ t).take p) 0 = 0 := by
    obtain ⟨q, rfl⟩ : ∃ q, p = q + 1 := ⟨p - 1, by omega⟩
    simp only [Nat.add_sub_cancel] at hL h41 hm
    have hq' : q < t.length := by omega
    rw [LV_at hq', getD_r0 (pre_len hq'), hm, h41, lvl_cons, if_neg (by decide), if_pos rfl] at hL
    have hL : cnt ((ZZ t).take q) 0 - 1 = 0 := hL
    have et : (ZZ t).take (q + 1) = (ZZ t).take q ++ [((MK t).getD q default, t.getD q default)] := by
     conv => lhs; rw [split_at hq']
     rw [List.take_append, List.take_of_length_le (by rw [List.length_take, ZZ_len]; omega), List.length_take, ZZ_len, show q + 1 - min q t.length = 1 by omega]
     rfl
    rw [et, cnt_app, hm, h41, cnt_cons, if_neg (by decide), if_neg (by decide), if_pos rfl]
    exact hL
   rw [c0] at hb
   refine ⟨⟨⟨r', hz, hr'⟩, by rw [zz]; exact hb⟩, ?_⟩
   have e : LV t = lvl ((ZZ t).take p) 0 ++ lvl ((ZZ t).drop p) 0 := by
    unfold LV
    conv => lhs; rw [← List.take_append_drop p (ZZ t)]
    rw [lvl_app, c0]
   have pl : (lvl ((ZZ t).take p) 0).length = p := by rw [lvl_len, List.length_take, ZZ_len]; omega
   rw [e, List.drop_left' pl]
   unfold LV
   rw [zz]
theorem Vd.drop {t : List UInt8} (h : Vd t) {p : Nat} (h0 : 0 < p) (hp : p < t.length) (hL : (LV t).getD (p - 1) default = 0) (h41 : t.getD (p - 1) default = 41) : Vd (t.drop p) := (h.drop2 h0 hp hL h41).1
end Go.Proofs.YtcafgoomipkljaaGreatDoorAi
namespace Go.Proofs.YtcafgoomipkljaaGreatDoorAi
open Go Go.RowKit
set_option linter.unusedVariables false
set_option linter.unusedSimpArgs false
abbrev RD : Type := Int × Int × List Int
theorem inner_f {t : List UInt8} (h : Vd t) : ∃ (a : Nat) (is : Bool), g_c.f t = some ((a : Int), is) ∧ (is = true → t.take 2 = [73, 70] ∧ g_1m.f t (LV t) 2 true = some ((a : Int), true) ∧ t.getD 2 default = 40 ∧ 3 < a ∧ a < t.length ∧ (LV t).getD (a - 1) default = 0 ∧ t.getD (a - 1) default = 41) := by
 have g := h.par
 unfold g_c.f
 rw [newMatch_f h.len, Option.bind_some]
 obtain ⟨b, J, o, e1, m1, c1, w1⟩ := word_Mo g.toG0 0 (Nat.zero_le _) (J := []) CK.nil true [73, 70] (by decide) (by decide)
 have e1' : g_1t.f t (LV t) 0 [] true [73, 70] = some ((b : Int), J, o) := e1
 obtain ⟨a, o2, e2, m2, _, f2, _⟩ := parens_Mo g b m1.len o
 simp only [e1', e2, Option.bind_some]
 cases o2
 ·exact ⟨a, false, rfl, (fun h => by cases h)⟩
 ·have o1 := m2.good rfl
  obtain ⟨w2, w3⟩ := w1 o1
  obtain ⟨p1, p2, p3, p4, p5⟩ := f2 rfl
  have hb : b = 2 := by rw [w3]; rfl
  subst hb
  rw [o1] at e2
  refine ⟨a, decide (a < t.length), ?_, fun hd => ?_⟩
  ·rw [if_pos rfl]
   congr 2
   exact decide_eq_decide.2 (by omega)
  ·rw [decide_eq_true_eq] at hd
   exact ⟨w2, e2, p3, by omega, hd, p4, p5⟩
def inK (k : Int) : Bool := (decide (0 ≤ k) && decide (k ≤ 26) && (k != 6)) && !(decide (7 ≤ k) && decide (k ≤ 12))
theorem mayBeInner_f (k : Int) : g_1u.f k = some (inK k) := by
 unfold g_1u.f g_21.f inK
 rw [Option.bind_some]
 cases (decide ((0 : Int) ≤ k) && decide (k ≤ 26) && (k != 6))
 ·rfl
 ·rfl
def CC (t : List UInt8) (J : List Int) : Prop := CK t (LV t) t.length J ∧ J.length ≤ 3
theorem CC.small {t : List UInt8} {J : List Int} (h : CC t J) (hl : t.length < 10000) : ∀ x ∈ J, ∃ n : Nat, x = (n : Int) ∧ n < 10000 := fun x hx => by
 obtain ⟨n, n1, n2, n3, _⟩ := h.1.at1 x hx
 exact ⟨n + 1, n1, by omega⟩
theorem CC.shift {t : List UInt8} {a : Nat} (ha : a ≤ t.length) (hL : LV (t.drop a) = (LV t).drop a) {J : List Int} (h : CC (t.drop a) J) : CC t (J.map (sh1 a)) := by
 refine ⟨⟨?_, fun c hc => ?_, ?_⟩, by rw [List.length_map]; exact h.2⟩
 ·rw [List.pairwise_map]
  exact h.1.asc.imp (fun hxy => by unfold sh1; omega)
 ·obtain ⟨x, hx, rfl⟩ := List.mem_map.1 hc
  obtain ⟨n, n1, n2, n3, n4⟩ := h.1.at1 x hx
  rw [List.length_drop] at n2 n3
  refine ⟨n + a, by unfold sh1; omega, by omega, by omega, ?_⟩
  rw [hL, List.getD_eq_getElem?_getD, List.getElem?_drop, show a + n = n + a by omega] at n4
  rw [List.getD_eq_getElem?_getD]; exact n4
 ·have := h.1.num
  rw [List.length_drop] at this
  rw [List.length_map]; omega
theorem inCuts_iter {a : Nat} (ha : a < 10000) (bo : Bool) (y7 : List RD) (x15 : List RD × Int) {c : List Int} (hc : (gt y7 x15.2).2.2 = c) (hl : c.length < 100000) (hr : ∀ x ∈ c, ∃ n : Nat, x = (n : Int) ∧ n < 10000) : ∀ (d k : Nat) (acc : List Int), k + d = c.length → acc.length ≤ k →
  iter (g_g.b1 ((a : Int), bo) y7 x15) ((k : Int), acc) = some ((c.length : Int), acc ++ (c.drop k).map (sh1 a))
 | 0, k, acc, h, ha' => by
  rw [List.drop_eq_nil_of_le (by omega), List.map_nil, List.append_nil]
  exact iter_stop (by
   unfold g_g.b1
   rw [hc]
   simp only
   rw [if_neg (by simp; omega), show k = c.length by omega])
 | d + 1, k, acc, h, ha' => by
  have hk : k < c.length := by omega
  have ek : c.drop k = c.getD k default :: c.drop (k + 1) := by
   rw [List.drop_eq_getElem_cons hk, List.getD_eq_getElem?_getD, List.getElem?_eq_getElem hk]; rfl
  obtain ⟨n, n1, n2⟩ := hr (c.getD k default) (by rw [List.getD_eq_getElem?_getD, List.getElem?_eq_getElem hk]; exact List.getElem_mem hk)
  have h1 := inCuts_iter ha bo y7 x15 hc hl hr d (k + 1) (acc ++ [sh1 a (c.getD k default)]) (by omega) (by simp; omega)
  rw [iter_next (y := (((k + 1 : Nat) : Int), acc ++ [sh1 a (c.getD k default)])) ?_, h1, ek, List.map_cons, List.append_assoc]
  ·rfl
  unfold g_g.b1
  rw [hc]
  simp only
  rw [if_pos (decide_eq_true (by omega)), if_pos ⟨by omega, by omega⟩, if_pos (by simp; omega), w64_id (by omega) (by omega), gt_nat, w64_id (by rw [n1]; omega) (by rw [n1]; omega)]
  rfl
theorem inStep {a : Nat} (hA : a < 10000) (bo : Bool) (y7 : List RD) {i : Nat} (hi : i < y7.length) (hl : y7.length < 1000) (hc : (y7.getD i default).2.2.length < 100000) (hr : ∀ x ∈ (y7.getD i default).2.2, ∃ n : Nat, x = (n : Int) ∧ n < 10000) {acc : List RD} (ha : acc.length < 1000) :
  g_g.b0 ((a : Int), bo) y7 (acc, (i : Int)) = some (.inl (if inK (y7.getD i default).1 = true then acc ++ [(6, (y7.getD i default).1, (y7.getD i default).2.2.map (sh1 a))] else acc, ((i + 1 : Nat) : Int))) := by
 have c1 := inCuts_iter hA bo y7 (acc, (i : Int)) (c := (y7.getD i default).2.2) rfl hc hr _ 0 [] (Nat.zero_add _) (Nat.zero_le _)
 unfold g_g.b0
 simp only
 rw [if_pos (decide_eq_true (by omega)), if_pos ⟨by omega, by omega⟩, gt_nat, mayBeInner_f, Option.bind_some, w64_id (by omega) (by omega)]
 cases inK (y7.getD i default).1
 ·rfl
 ·rw [if_neg (by decide)]
  have c1' : iter (g_g.b1 ((a : Int), bo) y7 (acc, (i : Int))) (0, []) = some (((y7.getD i default).2.2.length : Int), (y7.getD i default).2.2.map (sh1 a)) := c1
  rw [c1', Option.bind_some, if_pos (by simp; omega)]
  rfl
structure RL (t : List UInt8) (l : List RD) : Prop where
 each : ∀ x ∈ l, ∃ j : Nat, j < 44 ∧ x.1 = (j : Int) ∧ CC t x.2.2 ∧ (j ≠ 6 → KF t (LV t) j t.length)
 two : l.length ≤ 1 ∨ ∃ a b, l = [a, b] ∧ a.1 = 28 ∧ b.1 = 40
def LG (t : List UInt8) : Prop := ∃ (p : Nat) (m : Nat) (L' : List Int), t.take 2 = [73, 70] ∧ g_1m.f t (LV t) 2 true = some ((p : Int), true) ∧ t.getD 2 default = 40 ∧ m ≤ 26 ∧ KF (t.drop p) L' m (t.drop p).length
theorem logical_f {t : List UInt8} (h : Vd t) (self : List UInt8 → Option (List RD)) (hs : ∀ s, Vd s → s.length < t.length → ∃ l, self s = some l ∧ RL s l) :
  ∃ y : List RD, g_g.F self t = some y ∧ y.length ≤ 1 ∧ ∀ x ∈ y, x.1 = 6 ∧ CC t x.2.2 ∧ LG t := by
 have hlen := h.len
 unfold g_g.F
 obtain ⟨a, is, e1, f1⟩ := inner_f h
 rw [e1, Option.bind_some]
 cases is
 ·exact ⟨[], rfl, by decide, fun x hx => by cases hx⟩
 ·obtain ⟨q1, q2, q3, q4, q5, q6, q7⟩ := f1 rfl
  obtain ⟨hv, hLV⟩ := h.drop2 (p := a) (by omega) q5 q6 q7
  obtain ⟨l, e2, rl⟩ := hs _ hv (by rw [List.length_drop]; omega)
  rw [if_neg (by simp), if_pos ⟨by omega, by omega, by omega⟩, mid_all, e2, Option.bind_some]
  have cut : ∀ x ∈ l, CC (t.drop a) x.2.2 := fun x hx => by
   obtain ⟨j, _, _, j3, _⟩ := rl.each x hx
   exact j3
  have sm : ∀ x ∈ l, ∀ z ∈ x.2.2, ∃ n : Nat, z = (n : Int) ∧ n < 10000 := fun x hx => (cut x hx).small hv.len
  have sl : ∀ x ∈ l, x.2.2.length < 100000 := fun x hx => by have := (cut x hx).2; omega
  have stop : ∀ acc : List RD, g_g.b0 ((a : Int), true) l (acc, (l.length : Int)) = some (.inr (acc, (l.length : Int))) := fun acc => by
   unfold g_g.b0
   rw [if_neg (by simp)]
  rcases rl.two with h1 | ⟨x, y, rfl, hx, hy⟩
  ·cases l with
   | nil =>
    refine ⟨[], ?_, by decide, fun x hx => by cases hx⟩
    have := iter_stop (stop [])
    have e : (([] : List RD), (0 : Int)) = (([] : List RD), ((([] : List RD).length : Nat) : Int)) := rfl
    rw [e, this]; rfl
   | cons x l' =>
    obtain rfl : l' = [] := by
     cases l' with
     | nil => rfl
     | cons _ _ => simp at h1
    have c2 := inStep (a := a) (by omega) true [x] (i := 0) (by simp) (by simp) (sl x List.mem_cons_self) (sm x List.mem_cons_self) (acc := []) (by simp)
    have c2 : g_g.b0 ((a : Int), true) [x] (([] : List RD), (0 : Int)) = some (.inl (if inK x.1 = true then ([] : List RD) ++ [(6, x.1, x.2.2.map (sh1 a))] else [], (([x].length : Nat) : Int))) := c2
    refine ⟨if inK x.1 = true then ([] : List RD) ++ [(6, x.1, x.2.2.map (sh1 a))] else [], ?_, by split <;> simp, fun z hz => ?_⟩
    ·rw [iter_next c2, iter_stop (stop _)]; rfl
    ·split at hz
     ·rename_i hin
      rw [List.nil_append, List.mem_singleton] at hz
      subst hz
      obtain ⟨j, j1, j2, j3, j4⟩ := rl.each x List.mem_cons_self
      unfold inK at hin
      simp only [Bool.and_eq_true, decide_eq_true_eq, bne_iff_ne, ne_eq] at hin
      exact ⟨rfl, (cut x List.mem_cons_self).shift (by omega) hLV, a, j, _, q1, q2, q3, by omega, j4 (by omega)⟩
     ·cases hz
  ·have c2 := inStep (a := a) (by omega) true [x, y] (i := 0) (by simp) (by simp) (sl x List.mem_cons_self) (sm x List.mem_cons_self) (acc := []) (by simp)
   have d2 := inStep (a := a) (by omega) true [x, y] (i := 1) (by simp) (by simp) (sl y (List.mem_cons_of_mem _ List.mem_cons_self)) (sm y (List.mem_cons_of_mem _ List.mem_cons_self)) (acc := []) (by simp)
   have c2 : g_g.b0 ((a : Int), true) [x, y] (([] : List RD), (0 : Int)) = some (.inl (if inK x.1 = true then ([] : List RD) ++ [(6, x.1, x.2.2.map (sh1 a))] else [], (1 : Int))) := c2
   have d2 : g_g.b0 ((a : Int), true) [x, y] (([] : List RD), (1 : Int)) = some (.inl (if inK y.1 = true then ([] : List RD) ++ [(6, y.1, y.2.2.map (sh1 a))] else [], (([x, y].length : Nat) : Int))) := d2
   rw [hx, show inK 28 = false from rfl, if_neg (by decide)] at c2
   rw [hy, show inK 40 = false from rfl, if_neg (by decide)] at d2
   refine ⟨[], ?_, by decide, fun x hx => by cases hx⟩
   rw [iter_next c2, iter_next d2, iter_stop (stop _)]; rfl
structure RI (t : List UInt8) (k : Nat) (l : List RD) : Prop where
 each : ∀ x ∈ l, ∃ j : Nat, j < k ∧ x.1 = (j : Int) ∧ CC t x.2.2 ∧ (j ≠ 6 → KF t (LV t) j t.length) ∧ (j = 6 → LG t)
 two : l.length ≤ 1 ∨ ∃ a b, l = [a, b] ∧ a.1 = 28 ∧ b.1 = 40
theorem RI.mono {t : List UInt8} {k k' : Nat} {l : List RD} (h : RI t k l) (hk : k ≤ k') : RI t k' l :=
 ⟨fun x hx => by obtain ⟨j, j1, j2⟩ := h.each x hx; exact ⟨j, by omega, j2⟩, h.two⟩
theorem LG.no {t : List UInt8} (g : GG t (LV t)) (h : LG t) {k : Nat} (hk : k < 44) (k6 : k ≠ 6) (hk' : KF t (LV t) k t.length) : False := by
 obtain ⟨p, m, L', q1, q2, q3, q4, q5⟩ := h
 exact uniqIf g hk k6 hk' q1 q2 q3 q4 q5
theorem RI.one {t : List UInt8} (g : GG t (LV t)) {k : Nat} (hk : k < 44) {l : List RD} (h : RI t k l) {z : RD} (hz : z.1 = (k : Int)) (hc : CC t z.2.2) (hK : k ≠ 6 → KF t (LV t) k t.length) (hG : k = 6 → LG t) : RI t (k + 1) (l ++ [z]) := by
 have no : ∀ x ∈ l, x.1 = 28 ∧ k = 40 := fun x hx => by
  obtain ⟨j, j1, j2, _, j3, j4⟩ := h.each x hx
  by_cases k6 : k = 6
  ·exact ((hG k6).no g (k := j) (by omega) (by omega) (j3 (by omega))).elim
  ·by_cases j6 : j = 6
   ·exact ((j4 j6).no g hk k6 (hK k6)).elim
   ·obtain ⟨a, b⟩ := uniq g j1 hk j6 k6 (j3 j6) (hK k6)
    exact ⟨by omega, b⟩
 refine ⟨fun x hx => ?_, ?_⟩
 ·rcases List.mem_append.1 hx with q | q
  ·exact (h.mono (Nat.le_succ k)).each x q
  ·rw [List.mem_singleton] at q
   subst q
   exact ⟨k, by omega, hz, hc, hK, hG⟩
 ·rcases h.two with h1 | ⟨a, b, rfl, ha, hb⟩
  ·cases l with
   | nil => exact .inl (by simp)
   | cons x l' =>
    obtain rfl : l' = [] := by
     cases l' with
     | nil => rfl
     | cons _ _ => simp at h1
    obtain ⟨q1, q2⟩ := no x List.mem_cons_self
    exact .inr ⟨x, z, rfl, q1, by omega⟩
  ·have := (no b (List.mem_cons_of_mem _ List.mem_cons_self)).1
   omega
theorem readings_step {t : List UInt8} (h : Vd t) (self : List UInt8 → Option (List RD)) (hs : ∀ s, Vd s → s.length < t.length → ∃ l, self s = some l ∧ RL s l) {k : Nat} (hk : k < 44) {acc : List RD} (hI : RI t k acc) :
  ∃ acc', g_1y.b0 t self (acc, (k : Int)) = some (.inl (acc', ((k + 1 : Nat) : Int))) ∧ RI t (k + 1) acc' := by
 have g := h.par
 have hlen := h.len
 have hal : acc.length ≤ 2 := by
  rcases hI.two with q | ⟨a, b, rfl, _⟩
  ·omega
  ·simp
 unfold g_1y.b0
 simp only
 rw [if_pos (decide_eq_true (by omega)), w64_id (by omega) (by omega)]
 by_cases k6 : k = 6
 ·rw [if_pos (by rw [k6]; decide)]
  obtain ⟨y, e, y1, y2⟩ := logical_f h self hs
  rw [e, Option.bind_some, if_pos (by omega)]
  refine ⟨acc ++ y, rfl, ?_⟩
  cases y with
  | nil => rw [List.append_nil]; exact hI.mono (Nat.le_succ k)
  | cons z y' =>
   obtain rfl : y' = [] := by
    cases y' with
    | nil => rfl
    | cons _ _ => simp at y1
   obtain ⟨z1, z2, z3⟩ := y2 z List.mem_cons_self
   exact hI.one g hk (by rw [z1, k6]; rfl) z2 (fun q => absurd k6 q) (fun _ => z3)
 ·rw [if_neg (by simp; omega), newMatch_f hlen, Option.bind_some]
  obtain ⟨b, J, o, e, b1, c, f⟩ := kind_Mq g k hk
  simp only [e, Option.bind_some, whole_f]
  cases ho : (o && decide (b = t.length))
  ·exact ⟨acc, rfl, hI.mono (Nat.le_succ k)⟩
  ·rw [Bool.and_eq_true, decide_eq_true_eq] at ho
   have hf := f ho.1
   rw [ho.2] at hf
   rw [if_pos rfl, if_pos (by simp; omega)]
   exact ⟨_, rfl, hI.one g hk rfl ⟨c.mono b1, kind_num g k hk _ _ _ e ho.1⟩ (fun _ => hf) (fun q => absurd q k6)⟩
theorem readings_iter {t : List UInt8} (h : Vd t) (self : List UInt8 → Option (List RD)) (hs : ∀ s, Vd s → s.length < t.length → ∃ l, self s = some l ∧ RL s l) : ∀ (d k : Nat) (acc : List RD), k + d = 44 → RI t k acc →
  ∃ acc', iter (g_1y.b0 t self) (acc, (k : Int)) = some (acc', (44 : Int)) ∧ RI t 44 acc'
 | 0, k, acc, hk, hI => by
  obtain rfl : k = 44 := by omega
  exact ⟨acc, iter_stop rfl, hI⟩
 | d + 1, k, acc, hk, hI => by
  obtain ⟨a1, e1, r1⟩ := readings_step h self hs (k := k) (by omega) hI
  obtain ⟨a2, e2, r2⟩ := readings_iter h self hs d (k + 1) a1 (by omega) r1
  exact ⟨a2, by rw [iter_next e1, e2], r2⟩
theorem readingsF {self : List UInt8 → Option (List RD)} {t : List UInt8} {l : List RD} {k : Int} (e : iter (g_1y.b0 t self) (([] : List RD), (0 : Int)) = some (l, k)) : g_1y.F self t = some l := by
 unfold g_1y.F
 rw [e]; rfl
theorem fixO_at {X R : Type} {body : (X → Option R) → X → Option R} {x : X} {r : R} (h : fixN body 100000 x = some r) : fixO body x = some r := by
 unfold fixO
 rw [h]
theorem readings_fix : ∀ (n : Nat) (t : List UInt8), Vd t → t.length < n → ∃ l, fixN (fun self (x : List UInt8) => g_1y.F self x) n t = some l ∧ RL t l
 | 0, t, h, hn => absurd hn (by omega)
 | n + 1, t, h, hn => by
  obtain ⟨l, e, r⟩ := readings_iter h (fixN (fun self (x : List UInt8) => g_1y.F self x) n) (fun s hs hl => readings_fix n s hs (by omega)) 44 0 [] (by omega) ⟨(fun x hx => by cases hx), .inl (by simp)⟩
  have e' : iter (g_1y.b0 t (fixN (fun self (x : List UInt8) => g_1y.F self x) n)) (([] : List RD), (0 : Int)) = some (l, 44) := e
  refine ⟨l, ?_, ⟨fun x hx => ?_, r.two⟩⟩
  ·exact readingsF e'
  ·obtain ⟨j, j1, j2, j3, j4, _⟩ := r.each x hx
   exact ⟨j, j1, j2, j3, j4⟩
theorem readings_f {t : List UInt8} (h : Vd t) : ∃ l, g_1y.f t = some l ∧ RL t l := by
 obtain ⟨l, e, r⟩ := readings_fix 100000 t h (by have := h.len; omega)
 refine ⟨l, ?_, r⟩
 unfold g_1y.f
 exact fixO_at e
end Go.Proofs.YtcafgoomipkljaaGreatDoorAi
namespace Go.Proofs.YtcafgoomipkljaaGreatDoorAi
open Go Go.RowKit
set_option linter.unusedVariables false
set_option linter.unusedSimpArgs false
theorem ReadingsOf_f {t : List UInt8} (ht : t.length < 10000) : ((CT t).2 ≠ 0 ∧ g_7.f t = some ([], (CT t).2)) ∨ (Vd t ∧ ∃ l, g_7.f t = some (l, 0) ∧ RL t l) := by
 unfold g_7.f
 rw [ctErr_f ht, Option.bind_some]
 by_cases h : (CT t).2 = 0
 ·right
  obtain ⟨l, e, r⟩ := readings_f (Vd.of h)
  rw [h, if_neg (by decide), e]
  exact ⟨Vd.of h, l, rfl, r⟩
 ·left
  exact ⟨h, by rw [if_pos (by simpa using h)]⟩
end Go.Proofs.YtcafgoomipkljaaGreatDoorAi
namespace Go.Proofs.YtcafgoomipkljaaGreatDoorAi
open Go Go.RowKit
set_option linter.unusedVariables false
set_option linter.unusedSimpArgs false
def spl (C : Nat → Bool) : Nat → List UInt8 → List UInt8
 | _, [] => []
 | a, c :: l => if C a = true then 32 :: c :: spl C (a + 1) l else c :: spl C (a + 1) l
theorem spl_run (C : Nat → Bool) : ∀ (k a : Nat) (l : List UInt8), k ≤ l.length → (∀ i, a ≤ i → i < a + k → C i = false) → spl C a l = l.take k ++ spl C (a + k) (l.drop k)
 | 0, a, l, h, hn => by simp
 | k + 1, a, [], h, hn => by simp at h
 | k + 1, a, c :: l, h, hn => by
  rw [List.take_succ_cons, List.drop_succ_cons, List.cons_append]
  have := spl_run C k (a + 1) l (by simpa using h) (fun i h1 h2 => hn i (by omega) (by omega))
  conv => lhs; unfold spl
  rw [if_neg (by rw [hn a (Nat.le_refl _) (by omega)]; decide), this, show a + 1 + k = a + (k + 1) by omega]
theorem spl_cons {C : Nat → Bool} {t : List UInt8} {a : Nat} (ha : a < t.length) : spl C a (t.drop a) = if C a = true then 32 :: t.getD a default :: spl C (a + 1) (t.drop (a + 1)) else t.getD a default :: spl C (a + 1) (t.drop (a + 1)) := by
 rw [drop_getD ha]; rfl
theorem stp_blank {s : List UInt8} {q : Nat} (h : s.getD q default = 32) (out : List UInt8) (own : List Bool) (frm : List Int) : stp s q out own frm = .ok (q + 1, [], [], []) := by
 unfold stp
 simp only
 rw [h, if_neg (by decide), if_neg (by decide)]
 simp only
 rw [if_pos (by decide)]
theorem drop_head {s x : List UInt8} {c : UInt8} {q : Nat} (h : s.drop q = c :: x) : q < s.length ∧ s.getD q default = c ∧ s.drop (q + 1) = x := by
 have hq : q < s.length := by
  apply Decidable.byContradiction
  intro k
  rw [List.drop_eq_nil_of_le (by omega)] at h
  cases h
 rw [drop_getD hq] at h
 simp only [List.cons.injEq] at h
 exact ⟨hq, h.1, h.2⟩
theorem findIdx_app {p : UInt8 → Bool} : ∀ (l x : List UInt8) (n : Nat), l.findIdx? p = some n → ∀ k, n < k → (l.take k ++ x).findIdx? p = some n
 | [], x, n, h, k, hk => by simp at h
 | c :: l, x, n, h, 0, hk => by omega
 | c :: l, x, n, h, k + 1, hk => by
  rw [List.take_succ_cons, List.cons_append, List.findIdx?_cons]
  rw [List.findIdx?_cons] at h
  split at h
  ·rename_i hc
   rw [if_pos hc]; exact h
  ·rename_i hc
   rw [if_neg hc]
   cases hf : List.findIdx? p l with
   | none => rw [hf] at h; cases h
   | some m =>
    rw [hf] at h
    simp only [Option.map_some, Option.some.injEq] at h
    rw [findIdx_app l x m hf k (by omega)]
    simp only [Option.map_some, Option.some.injEq]; exact h
theorem sqz_blank {t : List UInt8} {C : Nat → Bool} : ∀ (n a : Nat) (out : List UInt8) (frm : List Int) (own : List Bool) (cs : List (Int × Int)) (r : List UInt8 × List Int × List Bool × List (Int × Int)),
  Fine t a out frm own cs → LtA a frm → t.length < a + n → sqz t n a out frm own cs = .ok r → (∀ c ∈ r.2.2.2, ∀ i : Nat, c.1 ≤ (i : Int) → (i : Int) < c.2 → C (i + 1) = false) →
  ∀ (s : List UInt8) (q : Nat), s.drop q = spl C a (t.drop a) → ∀ (m : Nat) (frm' : List Int) (cs' : List (Int × Int)), s.length < q + m → q ≤ s.length → ∃ r', sqz s m q out frm' own cs' = .ok r' ∧ r'.1 = r.1
 | 0, a, out, frm, own, cs, r, h, hl, hn, hs, hc, s, q, hd, m, frm', cs', hm, hq => absurd h.la (by omega)
 | n + 1, a, out, frm, own, cs, r, h, hl, hn, hs, hc, s, q, hd, m, frm', cs', hm, hq => by
  unfold sqz at hs
  by_cases ha : a < t.length
  ·rw [if_pos ha] at hs
   -- The character itself, when its blank is past.
   have char : ∀ (q : Nat) (m : Nat) (frm' : List Int) (cs' : List (Int × Int)), s.drop q = t.getD a default :: spl C (a + 1) (t.drop (a + 1)) → s.length < q + m → ∃ r', sqz s m q out frm' own cs' = .ok r' ∧ r'.1 = r.1 := by
    intro q m frm' cs' hd hm
    obtain ⟨d1, d2, d3⟩ := drop_head hd
    obtain ⟨m, rfl⟩ : ∃ k, m = k + 1 := ⟨m - 1, by omega⟩
    unfold sqz
    rw [if_pos d1]
    cases hst : stp t a out own frm with
    | error e => rw [hst] at hs; cases hs
    | ok x =>
     obtain ⟨a', o, w, c⟩ := x
     rw [hst] at hs
     simp only at hs
     obtain ⟨k3, k4, k5⟩ := stp_fine h ha hst
     obtain ⟨k1, k2⟩ := stp_in h hl ha hst
     have hl' := (hl.mono (Nat.le_of_lt k3)).app (LtA_rng o.length k2)
     obtain ⟨⟨y, q1⟩, _⟩ := sqz_more n a' _ _ _ _ r k4 hl' hs
     have la' := k4.la
     -- No cuts in the step.
     have nocut : ∀ i, a + 1 ≤ i → i < a' → C i = false := by
      intro i i1 i2
      rcases stp_two h hl ha hst with ⟨j, j1, rfl⟩ | ⟨e1, _⟩
      ·have := hc ((j : Int), (a' : Int)) (by rw [q1]; simp) (i - 1) (by simp only; omega) (by simp only; omega)
       rw [show i - 1 + 1 = i by omega] at this
       exact this
      ·omega
     have run := spl_run C (a' - (a + 1)) (a + 1) (t.drop (a + 1)) (by rw [List.length_drop]; omega) (fun i i1 i2 => nocut i i1 (by omega))
     rw [List.drop_drop, show a + 1 + (a' - (a + 1)) = a' by omega] at run
     have ds : s.drop (q + 1) = (t.drop (a + 1)).take (a' - (a + 1)) ++ spl C a' (t.drop a') := by rw [d3, run]
     -- The step of the other text.
     have step : ∃ c', stp s q out own frm' = .ok (q + (a' - a), o, w, c') := by
      unfold stp at hst ⊢
      simp only at hst ⊢
      rw [d2]
      by_cases c1 : t.getD a default = 39 ∨ t.getD a default = 34
      ·rw [if_pos c1] at hst ⊢
       cases hx : List.findIdx? (fun x => x == t.getD a default) (t.drop (a + 1)) with
       | none => rw [hx] at hst; cases hst
       | some k =>
        rw [hx] at hst
        simp only [Except.ok.injEq, Prod.mk.injEq] at hst
        obtain ⟨rfl, rfl, rfl, _⟩ := hst
        have hx' : List.findIdx? (fun x => x == t.getD a default) (s.drop (q + 1)) = some k := by
         rw [ds]; exact findIdx_app _ _ _ hx _ (by omega)
        rw [hx']
        simp only [Except.ok.injEq, Prod.mk.injEq]
        refine ⟨_, by omega, ?_, by trivial, rfl⟩
        unfold piece
        rw [drop_getD d1, drop_getD ha, d2, ds, List.take_succ_cons, List.take_succ_cons, List.take_append_of_le_length (by rw [List.length_take, List.length_drop]; omega), List.take_take]
        congr 2
        omega
      ·rw [if_neg c1] at hst ⊢
       cases hx : (if upC (t.getD a default) = 72 then hol out own else none) with
       | none =>
        rw [hx] at hst
        simp only at hst ⊢
        split at hst
        ·rename_i c2
         simp only [Except.ok.injEq, Prod.mk.injEq] at hst
         obtain ⟨rfl, rfl, rfl, _⟩ := hst
         rw [if_pos c2, show q + (a + 1 - a) = q + 1 by omega]
         exact ⟨_, rfl⟩
        ·rename_i c2
         simp only [Except.ok.injEq, Prod.mk.injEq] at hst
         obtain ⟨rfl, rfl, rfl, _⟩ := hst
         rw [if_neg c2, show q + (a + 1 - a) = q + 1 by omega]
         exact ⟨_, rfl⟩
       | some b =>
        rw [hx] at hst
        simp only at hst ⊢
        generalize valL 0 (out.drop b) = v at hst ⊢
        split at hst
        ·cases hst
        ·split at hst
         ·cases hst
         ·rename_i c2 c3
          simp only [Except.ok.injEq, Prod.mk.injEq] at hst
          obtain ⟨rfl, rfl, rfl, _⟩ := hst
          have lens := congrArg List.length ds
          rw [List.length_drop, List.length_append, List.length_take, List.length_drop] at lens
          rw [if_neg (by omega), if_neg c3]
          simp only [Except.ok.injEq, Prod.mk.injEq]
          refine ⟨_, by omega, ?_, by trivial, rfl⟩
          congr 1
          unfold piece
          rw [ds, List.take_append_of_le_length (by rw [List.length_take, List.length_drop]; omega), List.take_take]
          congr 1
          omega
     obtain ⟨c', st⟩ := step
     rw [st]
     have lens := congrArg List.length ds
     rw [List.length_drop, List.length_append, List.length_take, List.length_drop] at lens
     refine sqz_blank n a' (out ++ o) (frm ++ rng a o.length) (own ++ w) (cs ++ c) r k4 hl' (by omega) hs hc s (q + (a' - a)) ?_ m _ _ (by omega) (by omega)
     rw [show q + (a' - a) = q + 1 + (a' - (a + 1)) by omega, ← List.drop_drop, ds, List.drop_append, List.drop_eq_nil_of_le (by rw [List.length_take]; omega), List.nil_append, List.length_take, List.length_drop, show a' - (a + 1) - min (a' - (a + 1)) (t.length - (a + 1)) = 0 by omega, List.drop_zero]
   rw [spl_cons ha] at hd
   by_cases hC : C a = true
   ·rw [if_pos hC] at hd
    obtain ⟨d1, d2, d3⟩ := drop_head hd
    obtain ⟨m, rfl⟩ : ∃ k, m = k + 1 := ⟨m - 1, by omega⟩
    unfold sqz
    rw [if_pos d1, stp_blank d2]
    simp only [List.append_nil]
    exact char (q + 1) m _ _ d3 (by omega)
   ·rw [if_neg hC] at hd
    exact char q m frm' cs' hd hm
  ·rw [if_neg ha] at hs
   simp only [Except.ok.injEq] at hs
   subst hs
   have e : t.drop a = [] := List.drop_eq_nil_of_le (by omega)
   rw [e] at hd
   have : s.length ≤ q := by
    have := congrArg List.length hd
    rw [List.length_drop] at this
    simp only [spl, List.length_nil] at this
    omega
   refine ⟨(out, frm', own, cs'), ?_, rfl⟩
   cases m with
   | zero => rfl
   | succ m => unfold sqz; rw [if_neg (by omega)]
end Go.Proofs.YtcafgoomipkljaaGreatDoorAi
namespace Go.Proofs.YtcafgoomipkljaaGreatDoorAi
open Go Go.RowKit
set_option linter.unusedVariables false
set_option linter.unusedSimpArgs false
theorem spl_congr {C C' : Nat → Bool} : ∀ (l : List UInt8) (a : Nat), (∀ p, a ≤ p → C p = C' p) → spl C a l = spl C' a l
 | [], a, h => rfl
 | c :: l, a, h => by
  unfold spl
  rw [h a (Nat.le_refl _), spl_congr l (a + 1) (fun p hp => h p (by omega))]
theorem spl_none {C : Nat → Bool} (l : List UInt8) (a : Nat) (h : ∀ p, a ≤ p → C p = false) : spl C a l = l := by
 have := spl_run C l.length a l (Nat.le_refl _) (fun i h1 _ => h i h1)
 rw [this, List.take_length, List.drop_length]
 simp [spl]
theorem spl_mem {C : Nat → Bool} : ∀ (l : List UInt8) (a : Nat) (x : UInt8), x ∈ spl C a l → x = 32 ∨ x ∈ l
 | [], a, x, h => by simp [spl] at h
 | c :: l, a, x, h => by
  unfold spl at h
  have ih := spl_mem (C := C) l (a + 1) x
  split at h
  ·simp only [List.mem_cons] at h ⊢
   rcases h with h | h | h
   ·exact .inl h
   ·exact .inr (.inl h)
   ·rcases ih h with q | q
    ·exact .inl q
    ·exact .inr (.inr q)
  ·simp only [List.mem_cons] at h ⊢
   rcases h with h | h
   ·exact .inr (.inl h)
   ·rcases ih h with q | q
    ·exact .inl q
    ·exact .inr (.inr q)
def inC (J : List Int) (p : Nat) : Bool := decide ((p : Int) ∈ J)
theorem equal_iter (c : List Int) (hl : c.length < 100000) : ∀ (d k : Nat), k + d = c.length → iter (g_29.b0 c c) (k : Int) = some (.inl (c.length : Int))
 | 0, k, h => iter_stop (by
   unfold g_29.b0
   rw [if_neg (by simp; omega), show k = c.length by omega])
 | d + 1, k, h => by
  rw [iter_next (y := ((k + 1 : Nat) : Int)) ?_]
  ·exact equal_iter c hl d (k + 1) (by omega)
  unfold g_29.b0
  rw [if_pos (decide_eq_true (by omega)), if_pos ⟨by omega, by omega⟩, if_pos ⟨by omega, by omega⟩, if_neg (by simp), w64_id (by omega) (by omega)]
  rfl
theorem equal_self (c : List Int) (hl : c.length < 100000) : g_29.f c c = some true := by
 unfold g_29.f
 rw [if_neg (by simp)]
 have := equal_iter c hl c.length 0 (by omega)
 have e : iter (g_29.b0 c c) 0 = some (.inl (c.length : Int)) := this
 rw [e]; rfl
theorem spaced_iter {t : List UInt8} (ht : t.length < 10000) {J : List Int} (hJ : J.length < 1000) : ∀ (d i a : Nat) (f : Bool) (out : List UInt8), i + d = J.length → a ≤ t.length → out.length ≤ 20000 + 20000 * i → (J.drop i).Pairwise (· < ·) → (∀ c ∈ J.drop i, ∃ n : Nat, c = (n : Int) ∧ a < n ∧ n < t.length) →
  ∃ (a' : Nat) (f' : Bool) (out' : List UInt8), iter (g_a.b0 t J) ((a : Int), (i : Int), f, out) = some ((a' : Int), (J.length : Int), f', out') ∧ a' ≤ t.length ∧ out'.length ≤ 20000 + 20000 * J.length ∧ out' ++ t.drop a' = out ++ spl (inC (J.drop i)) a (t.drop a) ∧ out'.length + (t.length - a') = out.length + (t.length - a) + d
 | 0, i, a, f, out, h, ha, ho, hp, hc => by
  have e : J.drop i = [] := List.drop_eq_nil_of_le (by omega)
  refine ⟨a, f, out, iter_stop (by
   unfold g_a.b0
   simp only
   rw [if_neg (by simp; omega), show i = J.length by omega]), ha, by rw [show J.length = i by omega]; exact ho, ?_, by omega⟩
  rw [e, spl_none _ _ (fun p _ => by simp [inC])]
 | d + 1, i, a, f, out, h, ha, ho, hp, hc => by
  have hk : i < J.length := by omega
  have ek : J.drop i = J.getD i default :: J.drop (i + 1) := by
   rw [List.drop_eq_getElem_cons hk, List.getD_eq_getElem?_getD, List.getElem?_eq_getElem hk]; rfl
  rw [ek] at hp hc
  obtain ⟨n, n1, n2, n3⟩ := hc _ List.mem_cons_self
  rw [List.pairwise_cons] at hp
  have hc' : ∀ c ∈ J.drop (i + 1), ∃ m : Nat, c = (m : Int) ∧ n < m ∧ m < t.length := fun c hcm => by
   obtain ⟨m, m1, _, m3⟩ := hc c (List.mem_cons_of_mem _ hcm)
   have := hp.1 c hcm
   exact ⟨m, m1, by omega, m3⟩
  have hmid : mid t (a : Int) (n : Int) = (t.drop a).take (n - a) := by
   rw [mid_to, List.drop_take]
  have hml : ((t.drop a).take (n - a)).length = n - a := by rw [List.length_take, List.length_drop]; omega
  have step : g_a.b0 t J ((a : Int), (i : Int), f, out) = some (.inl ((n : Int), ((i + 1 : Nat) : Int), true, out ++ ((t.drop a).take (n - a) ++ [32]))) := by
   unfold g_a.b0 g_2w.f g_copyCheck.f
   simp only
   rw [if_pos (decide_eq_true (by omega)), if_pos ⟨by omega, by omega⟩, gt_nat, n1, if_pos ⟨by omega, by omega, by omega⟩, hmid, if_pos (by rw [hml]; simp; omega), Option.bind_some, if_pos (by rw [List.length_append, hml]; simp; omega), Option.bind_some, w64_id (by omega) (by omega)]
   rfl
  obtain ⟨a', f', out', q1, q2, q3, q4, q5⟩ := spaced_iter ht hJ d (i + 1) n true (out ++ ((t.drop a).take (n - a) ++ [32])) (by omega) (by omega) (by rw [List.length_append, List.length_append, hml]; simp; omega) hp.2 hc'
  refine ⟨a', f', out', by rw [iter_next step, q1], q2, q3, ?_, by rw [q5, List.length_append, List.length_append, hml]; simp; omega⟩
  rw [q4]
  have run := spl_run (inC (J.drop i)) (n - a) a (t.drop a) (by rw [List.length_drop]; omega) (fun p h1 h2 => by
   unfold inC
   rw [ek]
   refine decide_eq_false (fun hm => ?_)
   rcases List.mem_cons.1 hm with q | q
   ·omega
   ·obtain ⟨m, m1, m2, _⟩ := hc' _ q
    omega)
  have hd : spl (inC (J.drop i)) n (t.drop n) = 32 :: t.getD n default :: spl (inC (J.drop i)) (n + 1) (t.drop (n + 1)) := by
   rw [spl_cons n3, if_pos (by unfold inC; rw [ek]; exact decide_eq_true (List.mem_cons.2 (.inl n1.symm)))]
  rw [run, List.drop_drop, show a + (n - a) = n by omega, hd]
  have tl : spl (inC (J.drop (i + 1))) n (t.drop n) = t.getD n default :: spl (inC (J.drop i)) (n + 1) (t.drop (n + 1)) := by
   rw [spl_cons n3, if_neg (by
    unfold inC
    rw [decide_eq_true_eq]
    intro hm
    obtain ⟨m, m1, m2, _⟩ := hc' _ hm
    omega)]
   congr 1
   refine spl_congr _ _ (fun p hp' => ?_)
   unfold inC
   rw [ek]
   refine decide_eq_decide.2 ⟨fun hm => List.mem_cons_of_mem _ hm, fun hm => ?_⟩
   rcases List.mem_cons.1 hm with q | q
   ·omega
   ·exact q
  rw [tl]
  simp only [List.append_assoc, List.cons_append, List.nil_append]
end Go.Proofs.YtcafgoomipkljaaGreatDoorAi
namespace Go.Proofs.YtcafgoomipkljaaGreatDoorAi
open Go Go.RowKit
set_option linter.unusedVariables false
set_option linter.unusedSimpArgs false
theorem chk1_self (x : RD) (h : x.2.2.length < 100000) : g_4.f x.1 x.2.1 x.2.2 x.1 x.2.1 x.2.2 = some true := by
 unfold g_4.f
 rw [if_pos (by simp), equal_self _ h]
 rfl
theorem idx_self {l : List RD} {i : Nat} (hi : i < l.length) (h : (l.getD i default).2.2.length < 100000) : g_2b.b0 l (l.getD i default).1 (l.getD i default).2.1 (l.getD i default).2.2 (i : Int) = some (.inr (.inr (i : Int))) := by
 unfold g_2b.b0
 rw [if_pos (decide_eq_true (by omega)), if_pos ⟨by omega, by omega⟩, gt_nat, chk1_self _ h]
 rfl
theorem check_f {t : List UInt8} {l : List RD} (rl : RL t l) (e : g_7.f t = some (l, 0)) {i : Nat} (hi : i < l.length) : g_3.f t (l.getD i default).1 (l.getD i default).2.1 (l.getD i default).2.2 = some 0 := by
 have hm : l.getD i default ∈ l := by
  rw [List.getD_eq_getElem?_getD, List.getElem?_eq_getElem hi]; exact List.getElem_mem hi
 obtain ⟨j, j1, j2, j3, _⟩ := rl.each _ hm
 have hlen : (l.getD i default).2.2.length < 100000 := by have := j3.2; omega
 have cont : g_27.f l (l.getD i default).1 (l.getD i default).2.1 (l.getD i default).2.2 = some true := by
  unfold g_27.f g_2b.f
  have it : iter (g_2b.b0 l (l.getD i default).1 (l.getD i default).2.1 (l.getD i default).2.2) 0 = some (.inr (i : Int)) := by
   have self := iter_stop (idx_self hi hlen)
   rcases rl.two with h1 | ⟨a, b, rfl, ha, hb⟩
   ·obtain rfl : i = 0 := by omega
    exact self
   ·rcases (show i = 0 ∨ i = 1 by simp at hi; omega) with rfl | rfl
    ·exact self
    ·refine Eq.trans (iter_next (y := (1 : Int)) ?_) self
     have e1 : (gt [a, b] (0 : Int)).1 = 28 := ha
     have e2 : (([a, b] : List RD).getD 1 default).1 = 40 := hb
     unfold g_2b.b0 g_4.f
     rw [e1, e2]
     rfl
  rw [it]
  show Option.bind (some (i : Int)) _ = _
  rw [Option.bind_some, decide_eq_true (by omega)]
 unfold g_3.f g_21.f
 rw [e, Option.bind_some]
 simp only
 rw [if_neg (by decide), Option.bind_some, if_neg (by rw [j2]; simp; omega), cont]
 rfl
theorem spaced_f {t : List UInt8} (h : Vd t) {l : List RD} (rl : RL t l) (e : g_7.f t = some (l, 0)) {i : Nat} (hi : i < l.length) :
  g_a.f t (l.getD i default).1 (l.getD i default).2.1 (l.getD i default).2.2 = some (spl (inC (l.getD i default).2.2) 0 t, 0) ∧ (spl (inC (l.getD i default).2.2) 0 t).length = t.length + (l.getD i default).2.2.length := by
 have hm : l.getD i default ∈ l := by
  rw [List.getD_eq_getElem?_getD, List.getElem?_eq_getElem hi]; exact List.getElem_mem hi
 obtain ⟨j, j1, j2, j3, _⟩ := rl.each _ hm
 have hlen := h.len
 unfold g_a.f
 rw [check_f rl e hi, Option.bind_some, if_neg (by decide)]
 generalize (l.getD i default).2.2 = J at j3
 obtain ⟨a', f', out', q1, q2, q3, q4, q5⟩ := spaced_iter hlen (J := J) (by have := j3.2; omega) J.length 0 0 false [] (by omega) (by omega) (by simp) j3.1.asc (fun c hc => by
  obtain ⟨n, n1, n2, n3, _⟩ := j3.1.at1 c hc
  exact ⟨n + 1, n1, by omega, n3⟩)
 have q1' : iter (g_a.b0 t J) (0, 0, false, ([] : List UInt8)) = some ((a' : Int), (J.length : Int), f', out') := q1
 have q4' : out' ++ t.drop a' = spl (inC J) 0 t := q4
 have j4 := j3.2
 rw [q1', Option.bind_some]
 unfold g_BString.f
 simp only
 rw [if_pos (by omega), Option.bind_some, if_pos ⟨by omega, by omega, by omega⟩, mid_all, if_pos (by rw [List.length_drop]; omega), q4']
 refine ⟨rfl, ?_⟩
 rw [← q4', List.length_append, List.length_drop, q5]
 simp
theorem squeezed_spaced {t : List UInt8} (h : Vd t) (ht : t.length ≤ 1200) {J : List Int} (hJ : CC t J) (hl : (spl (inC J) 0 t).length = t.length + J.length) : ∃ ix, g_2f.f (spl (inC J) 0 t) = some (t, ix, 0) := by
 obtain ⟨r, hs, hr⟩ := h.sq
 have hcs : CS t = r.2.2.2 := by unfold CS; rw [hs]
 have hin := SQ_in hs
 have hs' := hs
 unfold SQ at hs'
 split at hs'
 ·cases hs'
 ·rename_i he
  have he : tErr t = 0 := Decidable.byContradiction he
  have hJ3 := hJ.2
  have nocut : ∀ c ∈ r.2.2.2, ∀ i : Nat, c.1 ≤ (i : Int) → (i : Int) < c.2 → inC J (i + 1) = false := by
   intro c hc i i1 i2
   unfold inC
   refine decide_eq_false (fun hm => ?_)
   obtain ⟨n, n1, n2, n3, n4⟩ := hJ.1.at1 _ hm
   obtain rfl : n = i := by omega
   have hm1 := zero_mark (t := t) (i := n) (by omega) n4
   have : (MK t).getD n default = true := mks_true _ _ _ (by rw [List.length_replicate]; omega) (.inr ⟨c, by rw [hcs]; exact hc, by
    obtain ⟨i, m, e1, _⟩ := hin c hc
    rw [e1]; simp only; omega, i1, i2⟩)
   rw [hm1] at this; cases this
  obtain ⟨r', q1, q2⟩ := sqz_blank (C := inC J) (t.length + 1) 0 [] [] [] [] r ⟨by omega, Nat.zero_le _, Nat.le_refl _, rfl, rfl, Nat.le_refl _⟩ (fun x hx => by cases hx) (by omega) hs' nocut (spl (inC J) 0 t) 0 rfl ((spl (inC J) 0 t).length + 1) [] [] (by omega) (Nat.zero_le _)
  have te : tErr (spl (inC J) 0 t) = 0 := by
   unfold tErr at he ⊢
   rw [if_neg (by omega)] at he ⊢
   split at he
   ·rename_i h2
    rw [if_pos]
    rw [List.all_eq_true] at h2 ⊢
    intro x hx
    rcases spl_mem _ _ _ hx with q | q
    ·rw [q]; decide
    ·exact h2 x q
   ·cases he
  have sq : SQ (spl (inC J) 0 t) = .ok r' := by
   unfold SQ
   rw [if_neg (by rw [te]; decide)]
   exact q1
  refine ⟨r'.2.1, ?_⟩
  rw [Squeezed_f, sq]
  simp only
  rw [q2, hr]
theorem blanks_in {t : List UInt8} (ht : t.length ≤ 1200) {l : List RD} {i : Nat} (hi : i < l.length) (hi' : i < 1000) {J : List Int} (hJ : (l.getD i default).2.2 = J) (hC : CC t J) : ∀ (d k : Nat), k + d = J.length →
  iter (g_25.b1 t (l, 0) (i : Int)) (k : Int) = some (.inl (J.length : Int))
 | 0, k, h => iter_stop (by
   unfold g_25.b1
   simp only
   rw [if_pos ⟨by omega, by omega⟩, gt_nat, hJ, if_neg (by simp; omega), show k = J.length by omega])
 | d + 1, k, h => by
  have hk : k < J.length := by omega
  have h3 := hC.2
  have mem : ∀ m, m < J.length → J.getD m default ∈ J := fun m hm => by
   rw [List.getD_eq_getElem?_getD, List.getElem?_eq_getElem hm]; exact List.getElem_mem hm
  obtain ⟨n, n1, n2, n3, _⟩ := hC.1.at1 _ (mem k hk)
  rw [iter_next (y := ((k + 1 : Nat) : Int)) ?_]
  ·exact blanks_in ht hi hi' hJ hC d (k + 1) (by omega)
  have wi : g_2.f (J.getD k default) 1 (w64 ((t.length : Int) - 1)) = some true := by
   unfold g_2.f
   rw [w64_id (by omega) (by omega), n1, decide_eq_false (show ¬ ((n + 1 : Nat) : Int) < 1 by omega), decide_eq_false (show ¬ ((n + 1 : Nat) : Int) > (t.length : Int) - 1 by omega)]
   rfl
  unfold g_25.b1
  simp only
  rw [if_pos ⟨by omega, by omega⟩, gt_nat, hJ, if_pos (decide_eq_true (by omega)), if_pos ⟨by omega, by omega⟩, if_pos ⟨by omega, by omega⟩, gt_nat, wi, Option.bind_some, if_neg (by decide), w64_id (x := (k : Int) + 1) (by omega) (by omega)]
  by_cases h0 : k = 0
  ·rw [if_neg (by simp; omega)]; rfl
  ·obtain ⟨q, rfl⟩ : ∃ q, k = q + 1 := ⟨k - 1, by omega⟩
   have lt : J.getD q default < J.getD (q + 1) default := by
    have := List.pairwise_iff_getElem.1 hC.1.asc q (q + 1) (by omega) hk (by omega)
    rw [List.getD_eq_getElem?_getD, List.getD_eq_getElem?_getD, List.getElem?_eq_getElem hk, List.getElem?_eq_getElem (show q < J.length by omega)]
    exact this
   rw [if_pos (decide_eq_true (by omega)), if_pos ⟨by omega, by omega⟩, if_pos ⟨by omega, by omega⟩, if_pos ⟨by omega, by omega⟩, w64_id (by omega) (by omega), show ((q + 1 : Nat) : Int) - 1 = (q : Int) by omega, if_pos ⟨by omega, by omega⟩, gt_nat, if_neg (by rw [decide_eq_true_eq]; omega)]
   rfl
theorem blanks_iter {t : List UInt8} (h : Vd t) (ht : t.length ≤ 1200) {l : List RD} (rl : RL t l) (e : g_7.f t = some (l, 0)) (hl : l.length ≤ 2) : ∀ (d i : Nat), i + d = l.length →
  iter (g_25.b0 t (l, 0)) (i : Int) = some (.inl (l.length : Int))
 | 0, i, hi => iter_stop (by
   unfold g_25.b0
   simp only
   rw [if_neg (by simp; omega), show i = l.length by omega])
 | d + 1, i, hi => by
  have hi2 : i < l.length := by omega
  have hm : l.getD i default ∈ l := by
   rw [List.getD_eq_getElem?_getD, List.getElem?_eq_getElem hi2]; exact List.getElem_mem hi2
  obtain ⟨j, j1, j2, j3, _⟩ := rl.each _ hm
  obtain ⟨s1, s2⟩ := spaced_f h rl e hi2
  obtain ⟨ix, s3⟩ := squeezed_spaced h ht j3 s2
  have hin := blanks_in ht hi2 (by omega) rfl j3 (l.getD i default).2.2.length 0 (by omega)
  have hin' : iter (g_25.b1 t (l, 0) (i : Int)) 0 = some (.inl (((l.getD i default).2.2.length : Nat) : Int)) := hin
  have h3 := j3.2
  rw [iter_next (y := ((i + 1 : Nat) : Int)) ?_]
  ·exact blanks_iter h ht rl e hl d (i + 1) (by omega)
  unfold g_25.b0
  simp only
  rw [if_pos (decide_eq_true (by omega)), if_pos ⟨by omega, by omega⟩, gt_nat, s1, Option.bind_some]
  simp only
  rw [s3, Option.bind_some]
  simp only
  rw [if_neg (by simp), if_pos ⟨by omega, by omega⟩, Option.bind_some, s2, w64_id (by omega) (by omega), if_neg (by simp), hin', Option.bind_some, w64_id (by omega) (by omega)]
  rfl
theorem law5 (t : List UInt8) : g_25.f t = some true := by
 unfold g_25.f
 rw [awake_t, Option.bind_some, if_neg (by decide)]
 by_cases h : 1200 < t.length
 ·rw [if_pos (decide_eq_true (by omega))]
 ·rw [if_neg (by simp; omega)]
  rcases ReadingsOf_f (t := t) (by omega) with ⟨q, e⟩ | ⟨v, l, e, r⟩
  ·rw [e, Option.bind_some, if_pos (by simpa using q)]
  ·have hl : l.length ≤ 2 := by
    rcases r.two with q | ⟨a, b, rfl, _⟩
    ·omega
    ·simp
   have it : iter (g_25.b0 t (l, 0)) 0 = some (.inl (l.length : Int)) := blanks_iter v (by omega) r e hl l.length 0 (by omega)
   rw [e, Option.bind_some]
   simp only
   rw [if_neg (by decide), it]
   rfl
end Go.Proofs.YtcafgoomipkljaaGreatDoorAi
namespace Go.Proofs.YtcafgoomipkljaaGreatDoorAi
open Go Go.RowKit
theorem str_back (s : ByteArray) : strV s.data.toList = .string s := by
 show Value.string ⟨s.data.toList.toArray⟩ = _
 rw [Array.toArray_toList]
theorem law5_calls (s : ByteArray) (_hs : s.size ≤ 140737488351232) (w : World) (hG : Gd w) : Calls Tryz.prog 5 #[.string s] w fun e w' => e = .returned (.bool true) ∧ Below w.heap.size w w' := by
 have h := calls_of (g := 5) (args := [strV s.data.toList]) Tryz.func5 rfl (fun _ _ => rfl) rfl (v := .bool true) rfl ((g_25.ok (F := F0) (law5 s.data.toList) gl0).mono fun v S' F' q => q.2.1) w hG
 rw [str_back] at h
 exact h
end Go.Proofs.YtcafgoomipkljaaGreatDoorAi
