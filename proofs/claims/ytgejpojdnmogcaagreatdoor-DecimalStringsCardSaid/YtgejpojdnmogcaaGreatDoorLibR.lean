/-
strings.IndexAny(s, "ED") at every string: over the shelf's contracts, and by hand where the shelf asks for ASCII.
-/
import Derived.Test.YtgejpojdnmogcaaGreatDoorLibT
import Derived.Test.YtgejpojdnmogcaaGreatDoorShelfB
import Derived.Laws.RangeAny
import Derived.WalkMore
import Derived.RegionTactic
import Derived.ChangeAlike
import Derived.Deep.RegionHeld3
import Derived.BigQuiet
import Derived.Laws.Runes
import Derived.Lib.IndexAny
import Derived.Laws.Strings3
import Derived.Deep.LoopGhost
namespace Go.Proofs.YtgejpojdnmogcaaGreatDoor
open Go Go.RowKit Go.Lib
theorem enc_cases (r : Int) (h0 : 128 ≤ r) : (∃ a b : UInt8, Utf8.encode r = ⟨#[a, b]⟩ ∧ 128 ≤ b.toNat) ∨ (∃ a b c : UInt8, Utf8.encode r = ⟨#[a, b, c]⟩) ∨ (∃ a b c d : UInt8, Utf8.encode r = ⟨#[a, b, c, d]⟩) := by
  unfold Utf8.encode
  have hc : 128 ≤ (if Utf8.valid r then r.toNat else Utf8.runeError) := by
    split
    · omega
    · decide
  generalize (if Utf8.valid r then r.toNat else Utf8.runeError) = c at hc
  simp only
  split
  · omega
  · split
    · exact Or.inl ⟨_, _, rfl, by rw [UInt8.toNat_ofNat']; omega⟩
    · split
      · exact Or.inr (Or.inl ⟨_, _, _, rfl⟩)
      · exact Or.inr (Or.inr ⟨_, _, _, _, rfl⟩)
set_option maxHeartbeats 8000000 in
set_option maxRecDepth 1000000 in
theorem indexRune_ed (r : Int) (w : World) (h0 : 128 ≤ r) :
    Calls Tryz.prog 136 #[.string ⟨#[69, 68]⟩, .int .i32 r] w fun e w' => e = .returned (.int .i64 (-1)) ∧ Below w.heap.size w w' := by
  have u21 : (Tryz.prog.underlying 21).isSome = true := by rw [Tryz.underlying21]; rfl
  have u9 := Tryz.underlying9
  have d0 : decide ((0 : Int) ≤ r) = true := decide_eq_true (by omega)
  have d1 : decide (r < 128) = false := decide_eq_false (by omega)
  by_cases he : r = 65533
  · subst he
    go_enter Tryz.func136, Tryz.ntmps136
    go_wp2
    go_loopg [5, 6] 2 (fun g _ _ wx => ∃ i : Nat, i + g = 2 ∧ wx = w.iter ⟨#[69, 68]⟩ i)
    case atStart => exact ⟨0, by omega, rfl⟩
    case round =>
      obtain ⟨i, hig, rfl⟩ := hrel
      cases gk with
      | zero =>
        obtain rfl : i = 2 := by omega
        have hnx := fun ty => run_next_end (P := Tryz.prog) w ⟨#[69, 68]⟩ 2 ty (by decide)
        go_wp2
        go_ret
        exact ⟨rfl, (Below.refl _ _).alloc (Nat.le_refl _) _⟩
      | succ g =>
        obtain ⟨x, hx, hlt⟩ : ∃ x : Int, (Instr.next (.pointer (some ⟨w.heap.size, 0, none⟩)) true 0).run Tryz.prog (w.iter ⟨#[69, 68]⟩ i) = .ok (.tuple #[.bool true, .int .i64 i, .int .i32 x]) (w.iter ⟨#[69, 68]⟩ (i + 1)) ∧ x < 128 := by
          have hc : i = 0 ∨ i = 1 := by omega
          rcases hc with rfl | rfl
          · exact ⟨_, run_next_ascii w ⟨#[69, 68]⟩ 0 0 (by decide) (by decide), by decide⟩
          · exact ⟨_, run_next_ascii w ⟨#[69, 68]⟩ 1 0 (by decide) (by decide), by decide⟩
        have hne : (x == 65533) = false := beq_eq_false_iff_ne.2 (by omega)
        go_wp2
        go_roundg g
        case measure => omega
        case rel => exact ⟨i + 1, by omega, rfl⟩
  · have d2 : (r == 65533) = false := beq_eq_false_iff_ne.2 he
    cases hv : Lib.validRune r
    · go_enter Tryz.func136, Tryz.ntmps136
      go_wp2_with (go_at_call 162; refine (Tryz.utf8_ValidRune r _).mono ?_; rintro e w' ⟨rfl, hw⟩; rw [hw, hv])
      go_ret
      exact ⟨rfl, Below.refl _ _⟩
    · rcases enc_cases r h0 with ⟨a, b, e, hb⟩ | ⟨a, b, c, e⟩ | ⟨a, b, c, d, e⟩
      · go_enter Tryz.func136, Tryz.ntmps136
        go_wp2_with (go_at_call 162; refine (Tryz.utf8_ValidRune r _).mono ?_; rintro e w' ⟨rfl, hw⟩; rw [hw, hv])
        go_step3
        go_wp2
        go_loopg [9] 1 (fun g p wx => p = .int .i64 1 ∧ wx = w)
        case atStart => exact ⟨rfl, rfl⟩
        case round =>
          obtain ⟨rfl, rfl⟩ := hrel
          have ix1 : ∀ w, (Instr.index 9 (.string ⟨#[69, 68]⟩) (.int .i64 1)).run Tryz.prog w = .ok (.int .u8 68) w := fun w => by
            rw [run_index_string w 9 _ _ _ Tryz.underlying9, dif_pos (by decide)]; rfl
          have ix2 : ∀ w, (Instr.index 9 (.string ⟨#[a, b]⟩) (.int .i64 1)).run Tryz.prog w = .ok (.int .u8 b.toNat) w := fun w => by
            rw [run_index_string w 9 _ _ _ Tryz.underlying9, dif_pos (by constructor; decide; show (1 : Int) < ((#[a, b] : Array UInt8).size : Int); simp)]; rfl
          have hib : Lib.indexByte [] b = -1 := rfl
          have hib2 : Lib.indexByte [] ((b.toNat : Int)).toNat.toUInt8 = -1 := rfl
          have hbn : (((68 : Int)) != (b.toNat : Int)) = true := bne_iff_ne.mpr (by omega)
          go_wp2
          go_step3
          go_wp2
          go_region
          go_wp2
          go_region_with (go_at_call 161; refine (Tryz.strings_IndexByte _ _ _).mono ?_; rintro e w' ⟨rfl, hw⟩; rw [hw])
          all_goals (go_wp2; simp only [Exit.noGoto, Exit.inBlock, Exit.then]; go_ret; exact ⟨rfl, by repeat (first | exact Below.refl _ _ | apply Below.drew)⟩)
      · go_enter Tryz.func136, Tryz.ntmps136
        go_wp2_with (go_at_call 162; refine (Tryz.utf8_ValidRune r _).mono ?_; rintro e w' ⟨rfl, hw⟩; rw [hw, hv])
        go_step3
        go_wp2
        go_loopg [9] 1 (fun g p wx => p = .int .i64 2 ∧ wx = w)
        case atStart => exact ⟨rfl, rfl⟩
        case round =>
          obtain ⟨rfl, rfl⟩ := hrel
          go_wp2
          rw [Exit.noGoto_ret]
          go_ret
          exact ⟨rfl, Below.refl _ _⟩
      · go_enter Tryz.func136, Tryz.ntmps136
        go_wp2_with (go_at_call 162; refine (Tryz.utf8_ValidRune r _).mono ?_; rintro e w' ⟨rfl, hw⟩; rw [hw, hv])
        go_step3
        go_wp2
        go_loopg [9] 1 (fun g p wx => p = .int .i64 3 ∧ wx = w)
        case atStart => exact ⟨rfl, rfl⟩
        case round =>
          obtain ⟨rfl, rfl⟩ := hrel
          go_wp2
          rw [Exit.noGoto_ret]
          go_ret
          exact ⟨rfl, Below.refl _ _⟩
end Go.Proofs.YtgejpojdnmogcaaGreatDoor
