/-
strings.IndexAny(s, "ED"), strings.Cut, strconv.Atoi at this seat.
-/
import Derived.Test.YtgejpojdnmogcaaGreatDoorLibR
import Derived.Lib.OthersKept
import Derived.Lib.AtoiErrMem
import Derived.Shelf.Strings.IndexAnyAll
namespace Go.Proofs.YtgejpojdnmogcaaGreatDoor
open Go Go.RowKit Go.Lib
theorem noAny_add {s chars : List UInt8} {i : Nat} (h : NoAny s chars i) : ∀ k, (∀ j, j < k → ∃ x, s[i + j]? = some x ∧ chars.contains x = false) → NoAny s chars (i + k)
  | 0, _ => h
  | k + 1, hk => by
    obtain ⟨x, hx, hc⟩ := hk k (by omega)
    exact (noAny_add h k fun j hj => hk j (by omega)).succ hx hc
theorem decode_bytes (s : ByteArray) (pos : Nat) (h : pos < s.size) (ha : 128 ≤ (s[pos]'h).toNat) : ∀ j, j < (Utf8.decode s pos).2 → pos + j < s.size ∧ 128 ≤ (s.get! (pos + j)).toNat := by
  have hn : ¬ (s[pos]'h).toNat < 128 := by omega
  have h0 : 128 ≤ (s.get! (pos + 0)).toNat := by rw [get_at s pos h]; exact ha
  have z : ∀ j, j < 1 → pos + j < s.size ∧ 128 ≤ (s.get! (pos + j)).toNat := fun j hj => by
    obtain rfl : j = 0 := by omega
    exact ⟨by omega, h0⟩
  have c : ∀ k, (decide (pos + k < s.size) && (s.get! (pos + k)).toNat / 64 == 2) = true → pos + k < s.size ∧ 128 ≤ (s.get! (pos + k)).toNat := fun k hk => by
    rw [Bool.and_eq_true] at hk
    have h1 := of_decide_eq_true hk.1
    have h2 : (s.get! (pos + k)).toNat / 64 = 2 := by simpa using hk.2
    exact ⟨h1, by omega⟩
  simp only [Utf8.decode, get_at s pos h, hn, if_false]
  split
  · rename_i q
    rw [Bool.and_eq_true] at q
    have q1 := c 1 q.2
    split
    · intro j hj
      have hj2 : j < 2 := hj
      have : j = 0 ∨ j = 1 := by omega
      rcases this with rfl | rfl
      · exact z 0 (by omega)
      · exact q1
    · exact z
  · split
    · rename_i q
      rw [Bool.and_eq_true, Bool.and_eq_true] at q
      have q1 := c 1 q.1.2
      have q2 := c 2 q.2
      split
      · intro j hj
        have hj2 : j < 3 := hj
        have : j = 0 ∨ j = 1 ∨ j = 2 := by omega
        rcases this with rfl | rfl | rfl
        · exact z 0 (by omega)
        · exact q1
        · exact q2
      · exact z
    · split
      · rename_i q
        rw [Bool.and_eq_true, Bool.and_eq_true, Bool.and_eq_true] at q
        have q1 := c 1 q.1.1.2
        have q2 := c 2 q.1.2
        have q3 := c 3 q.2
        split
        · intro j hj
          have hj2 : j < 4 := hj
          have : j = 0 ∨ j = 1 ∨ j = 2 ∨ j = 3 := by omega
          rcases this with rfl | rfl | rfl | rfl
          · exact z 0 (by omega)
          · exact q1
          · exact q2
          · exact q3
        · exact z
      · exact z
theorem data_get (s : ByteArray) (i : Nat) (h : i < s.size) : s.data.toList[i]? = some (s.get! i) := by
  rw [Lib.data_getElem? s i h]
  congr 1
  show _ = s.get! i
  simp [ByteArray.get!, getElem!_pos, h]
  rfl
/-- A fact laid aside. -/
structure Keep (p : Prop) : Prop where
  out : p
set_option maxHeartbeats 8000000 in
set_option maxRecDepth 1000000 in
/-- s of at most 8 bytes: rune by rune. -/
theorem indexAny_ed_short (s : ByteArray) (w : World) (h8 : s.size ≤ 8) :
    Calls Tryz.prog 99 #[.string s, .string ⟨#[69, 68]⟩] w fun e w' => e = .returned (.int .i64 (Lib.indexAny s.data.toList [69, 68])) ∧ Below w.heap.size w w' := by
  have h8z : decide ((8 : Int) < (s.size : Int)) = false := decide_eq_false (by omega)
  go_enter Tryz.func99, Tryz.ntmps99
  go_wp2_with (go_at_call 137; refine (Tryz.strings_shouldUseASCIISet _ _).mono ?_; rintro e w' ⟨rfl, hw⟩; rw [hw, h8z])
  go_loopg [9, 10] s.size (fun g _ _ wx => ∃ i : Nat, i ≤ s.size ∧ s.size ≤ i + g ∧ wx.heap[w.heap.size]? = some (.stringIter s i) ∧ Keep (Below w.heap.size w wx) ∧ Keep (Lib.NoAny s.data.toList [69, 68] i))
  case atStart => exact ⟨0, by omega, by omega, World.iter_heap w s 0, ⟨(Below.refl _ _).alloc (Nat.le_refl _) _⟩, ⟨Lib.NoAny.zero _ _⟩⟩
  case round =>
    obtain ⟨i, hi1, hig, hit, HBW, HN⟩ := hrel
    by_cases hi : i < s.size
    · obtain ⟨g, rfl⟩ : ∃ g, gk = g + 1 := ⟨gk - 1, by omega⟩
      have hnx := fun ty => run_next_any_at (P := Tryz.prog) wr w.heap.size s i ty hit hi
      have hlt : w.heap.size < wr.heap.size := (Array.getElem?_eq_some_iff.1 hit).1
      have HI := Keep.mk (fun p => iterAt_heap wr w.heap.size s i p hit)
      have HB2 := Keep.mk (fun p => below_iterAt HBW.out (Nat.le_refl _) s p)
      have HS := Keep.mk hlt
      clear hlt hit
      by_cases hx : (s[i]'hi).toNat < 128
      · have hd := decode_ascii s i hi hx
        rw [hd] at hnx
        obtain ⟨x, hxe⟩ : ∃ x : UInt8, s[i]'hi = x := ⟨_, rfl⟩
        have hxl : s.data.toList[i]? = some x := by rw [← hxe]; exact Lib.data_getElem? s i hi
        rw [hxe] at hx hnx
        have Hx := Keep.mk hxl
        clear hxl hxe hd
        have hcon := Lib.contains_iff_indexByte [69, 68] x
        have hback : ((x.toNat : Int)).toNat.toUInt8 = x := by simp
        cases hin : ([69, 68] : List UInt8).contains x
        · rw [hin] at hcon
          have hlt : ¬ ((0 : Int) ≤ Lib.indexByte [69, 68] x) := of_decide_eq_false hcon.symm
          clear hcon
          go_wp2_with (go_at_call 136; refine (Tryz.strings_IndexRune_ascii _ _ _ (by omega) (by omega)).mono ?_; rintro e w' ⟨rfl, hw⟩; rw [hw, hback])
          go_roundg g
          case measure => omega
          case rel => exact ⟨i + 1, by omega, by omega, HI.out _, ⟨HB2.out _⟩, ⟨HN.out.succ Hx.out hin⟩⟩
        · rw [hin] at hcon
          have hge : (0 : Int) ≤ Lib.indexByte [69, 68] x := of_decide_eq_true hcon.symm
          clear hcon
          go_wp2_with (go_at_call 136; refine (Tryz.strings_IndexRune_ascii _ _ _ (by omega) (by omega)).mono ?_; rintro e w' ⟨rfl, hw⟩; rw [hw, hback])
          go_ret
          exact ⟨by rw [Lib.indexAny_hit HN.out Hx.out hin]; rfl, HB2.out _⟩
      · have hh := decode_high s i hi (by omega)
        have hb := decode_bytes s i hi (by omega)
        obtain ⟨k, hk⟩ : ∃ k, (Utf8.decode s i).2 = k := ⟨_, rfl⟩
        obtain ⟨r, hr⟩ : ∃ r, (Utf8.decode s i).1 = r := ⟨_, rfl⟩
        rw [hk, hr] at hh hnx
        rw [hk] at hb
        clear hk hr
        have HB := Keep.mk hb
        clear hb
        have hik : i + k ≤ s.size := by have := (HB.out (k - 1) (by omega)).1; omega
        have hno2 : Lib.NoAny s.data.toList [69, 68] (i + k) := noAny_add HN.out k fun j hj => by
          obtain ⟨q1, q2⟩ := HB.out j hj
          refine ⟨_, data_get s (i + j) q1, ?_⟩
          generalize s.get! (i + j) = y at q2
          have y1 : (y == 69) = false := beq_eq_false_iff_ne.2 (fun q => by rw [q] at q2; exact absurd q2 (by decide))
          have y2 : (y == 68) = false := beq_eq_false_iff_ne.2 (fun q => by rw [q] at q2; exact absurd q2 (by decide))
          simp [List.contains, List.elem, y1, y2]
        have HN2 := Keep.mk hno2
        clear hno2
        go_wp2_with (go_at_call 136; refine (indexRune_ed _ _ (by omega)).mono ?_; rintro e w' ⟨rfl, hbw⟩)
        go_roundg g
        case measure => omega
        case rel => exact ⟨i + k, by omega, by omega, by rw [hbw.block _ (by rw [iterAt_size]; exact HS.out)]; exact HI.out _, ⟨(HB2.out _).trans (hbw.mono (by rw [iterAt_size]; have := HS.out; omega))⟩, ⟨HN2.out⟩⟩
    · obtain rfl : i = s.size := by omega
      have hnx := fun ty => run_next_end_at (P := Tryz.prog) wr w.heap.size s s.size ty hit (by omega)
      go_wp2
      go_ret
      exact ⟨by rw [Lib.indexAny_none (by rw [← Lib.size_eq]; exact HN.out)]; rfl, HBW.out⟩
/-- Every s. -/
theorem indexAny_ed (s : ByteArray) (w : World) (hs : s.size < 4294967281) :
    Calls Tryz.prog 99 #[.string s, .string ⟨#[69, 68]⟩] w fun e w' => e = .returned (.int .i64 (Lib.indexAny s.data.toList [69, 68])) ∧ Below w.heap.size w w' := by
  by_cases h8 : s.size ≤ 8
  · exact indexAny_ed_short s w h8
  · have hz : (Tryz.prog.info? 148).map (fun i => (i.zero, i.size)) = some (some (.agg (Array.replicate 256 (.bool false))), 256) := by kernel_rfl
    refine (Tryz.strings_IndexAny_long (zero_of_info hz).1 s ⟨#[69, 68]⟩ w (by decide) (by omega) hs (by decide) (ascii_of_all (by decide))).mono ?_
    rintro e w' ⟨rfl, rfl⟩
    exact ⟨rfl, ((Below.refl _ _).alloc (Nat.le_refl _) _).alloc (by simp) _⟩
/-- What DecimalStrings asks of the world: beside Gd, that internal/bytealg.MaxLen holds an int. -/
structure GdS (w : World) : Prop where
  base : Gd w
  len : ∃ m, w.cell? ⟨1, 0, none⟩ = some (.int .i64 m)
theorem GdS.below {w w' : World} (h : GdS w) (hb : Below w.heap.size w w') : GdS w' := by
  obtain ⟨h1, m, h2⟩ := h
  exact ⟨h1.below hb, m, (hb.cell (World.block_lt_of_cell? w _ h2)).trans h2⟩
theorem cut_any (s sep : ByteArray) (w : World) (hs : s.size < 4294967281) (hG : GdS w) :
    Calls Tryz.prog 101 #[.string s, .string sep] w fun e w' => e = .returned (.tuple #[.string ⟨(Lib.cut s.data.toList sep.data.toList).1.toArray⟩, .string ⟨(Lib.cut s.data.toList sep.data.toList).2.1.toArray⟩, .bool (Lib.cut s.data.toList sep.data.toList).2.2]) ∧ Below w.heap.size w w' := by
  obtain ⟨m, hm⟩ := hG.len
  refine (Tryz.strings_Cut s sep m w hs hm).mono ?_
  rintro e w' ⟨rfl, n, rfl⟩
  exact ⟨rfl, Joins.below_draws _ _ _⟩
theorem atoi_ok (s : ByteArray) (hmax : s.size ≤ 9223372036854775806) (v : Int) (h : Lib.atoiAll s.data.toList = .ok v) (w : World) :
    Calls Tryz.prog 100 #[.string s] w fun e w' => e = .returned (.tuple #[.int .i64 v, .nilIface]) ∧ Below w.heap.size w w' := by
  refine (Tryz.strconv_Atoi_ok s hmax v h w).mono ?_
  rintro e w' ⟨rfl, rfl | ⟨t, rfl⟩⟩
  · exact ⟨rfl, Below.refl _ _⟩
  · exact ⟨rfl, Lib.bytesWorld_below _ _ _⟩
#print axioms indexAny_ed
end Go.Proofs.YtgejpojdnmogcaaGreatDoor
