/-
What the library's functions do at this seat (over the shelf's contracts), and what of the world the calls lean on.
-/
import Derived.Test.YtgejpojdnmogcaaGreatDoorShelf
import Derived.Test.YtgejpojdnmogcaaGreatDoorAiAwake9
import Derived.Test.YtgejpojdnmogcaaGreatDoorRows
import Derived.Shelf.Strings.SlTrimAscii
import Derived.Lib.SmallJoins
import Derived.Lib.AppendIntMem
import Derived.Lib.LaidTab
import Derived.OpenShut
import Derived.LaidLaws
import Derived.Stop.LaidErr
namespace Go.Proofs.YtgejpojdnmogcaaGreatDoor
open Go Go.RowKit

/-- What is asked of the world: the rows that awake reads, and the table of powers of ten. -/
structure Gd (w : World) : Prop where
  rows : YtgejpojdnmogcaaGreatDoorAi.Rows9 w
  tab : Lib.TabIs Tryz.prog w "internal/strconv.uint64pow10" .u64 Lib.pow10Tab
theorem Gd.below {w w' : World} (h : Gd w) (hb : Below w.heap.size w w') : Gd w' :=
  ⟨h.rows.below hb, Joins.tab_stays (g := 6) (by kernel_rfl) h.tab hb (Nat.le_refl _)⟩

/-- strings.Trim at an ASCII cutset. -/
theorem trim_any (s c : ByteArray) (w : World) (hs : s.size ≤ 9223372036854775807) (hc : c.size < 4294967281) (ha : c.data.toList.all (fun b => decide (b.toNat < 128)) = true) :
    Calls Tryz.prog 126 #[.string s, .string c] w fun e w' => e = .returned (.string ⟨(Lib.trimS s.data.toList c.data.toList).toArray⟩) ∧ Below w.heap.size w w' :=
  Any.strings_Trim_laid Tryz.lays160 (by kernel_rfl) s c w hs hc (ascii_of_all ha)
theorem itoa_any (n : Int) (h0 : -9223372036854775808 ≤ n) (h1 : n ≤ 9223372036854775807) (w : World) (hG : Gd w) :
    Calls Tryz.prog 103 #[.int .i64 n] w fun e w' => e = .returned (.string ⟨(Lib.itoa n).toArray⟩) ∧ Below w.heap.size w w' := by
  refine (Tryz.strconv_Itoa n h0 h1 w hG.tab).mono ?_
  rintro e w' ⟨rfl, k, os, rfl⟩
  exact ⟨rfl, Lib.below_grow _ _ (Nat.le_refl _) _ _⟩
end Go.Proofs.YtgejpojdnmogcaaGreatDoor
