/-
What the library's functions do at this seat (over the shelf's contracts), and what of the world their contracts lean on.
-/
import Derived.Test.YtgmlihjopinagaaDoorShelf
import Derived.Test.YtgmlihjopinagaaDoorRows
import Derived.Stop.LaidErr
import Derived.Lib.LaidTab
import Derived.OpenShut
import Derived.Shelf.Strings.SlTrimAscii
import Derived.Lib.SmallJoins
import Derived.Lib.AtoiErrMem
import Derived.Lib.AppendIntMem
namespace Go.Proofs.YtgmlihjopinagaaDoor
open Go Go.RowKit

/-- What is asked of the world: strconv.ErrRange holds an error, the table of powers of ten is laid. -/
def Gd (w : World) : Prop := (∃ te pe, w.cell? ⟨1, 0, none⟩ = some (.iface te pe)) ∧ Lib.TabIs Tryd.prog w "internal/strconv.uint64pow10" .u64 Lib.pow10Tab
theorem Gd.below {w w' : World} (h : Gd w) (hb : Below w.heap.size w w') : Gd w' := by
  obtain ⟨⟨te, pe, h1⟩, h2⟩ := h
  exact ⟨⟨te, pe, (hb.cell (World.block_lt_of_cell? w _ h1)).trans h1⟩, Joins.tab_stays (g := Tryd.laysM171_ren.g 17) (by kernel_rfl) h2 hb (Nat.le_refl _)⟩
theorem Gd.belowB {B : Nat} {w w' : World} (h : Gd w) (hb : Below B w w') (hB : w.heap.size ≤ B) : Gd w' := h.below (hb.mono hB)

/-- The decimal digits. -/
def digs : List UInt8 := [48, 49, 50, 51, 52, 53, 54, 55, 56, 57]
theorem trim_digits (s : ByteArray) (w : World) (hs : s.size ≤ 9223372036854775807) :
    Calls Tryd.prog 22 #[.string s, .string { data := #[48, 49, 50, 51, 52, 53, 54, 55, 56, 57] }] w fun e w' => e = .returned (.string ⟨(Lib.trimS s.data.toList digs).toArray⟩) ∧ Below w.heap.size w w' :=
  Any.strings_Trim_laid Tryd.lays160 (by kernel_rfl) s _ w hs (by decide) (ascii_of_all (by decide))
theorem trimPrefix_any (s p : ByteArray) (w : World) :
    Calls Tryd.prog 21 #[.string s, .string p] w fun e w' => e = .returned (.string ⟨(Lib.trimPrefix s.data.toList p.data.toList).toArray⟩) ∧ w' = w := Tryd.strings_TrimPrefix s p w

/-- strconv.Atoi: the number, or an error. -/
theorem atoi_ok (s : ByteArray) (hmax : s.size ≤ 9223372036854775806) (v : Int) (h : Lib.atoiAll s.data.toList = .ok v) (w : World) :
    Calls Tryd.prog 25 #[.string s] w fun e w' => e = .returned (.tuple #[.int .i64 v, .nilIface]) ∧ Below w.heap.size w w' := by
  refine (Tryd.strconv_Atoi_ok s hmax v h w).mono ?_
  rintro e w' ⟨rfl, rfl | ⟨t, rfl⟩⟩
  · exact ⟨rfl, Below.refl _ _⟩
  · exact ⟨rfl, Lib.bytesWorld_below _ _ _⟩
theorem atoi_range (s : ByteArray) (hlim : s.size ≤ 281474976710656) (h : Lib.atoiAll s.data.toList = .range) (w : World) (hG : Gd w) :
    Calls Tryd.prog 25 #[.string s] w fun e w' => (∃ n t p, e = .returned (.tuple #[.int .i64 n, .iface t (.pointer (some p))])) ∧ Below w.heap.size w w' := by
  obtain ⟨⟨te, pe, h1⟩, _⟩ := hG
  refine (Tryd.strconv_Atoi_range s hlim h (.iface te pe) w h1 (.inr ⟨te, pe, rfl⟩)).mono ?_
  rintro e w' ⟨N, rfl, _, _, hb⟩
  exact ⟨⟨_, _, _, rfl⟩, hb⟩
/-- strconv.Itoa: the numeral. -/
theorem itoa_any (n : Int) (h0 : -9223372036854775808 ≤ n) (h1 : n ≤ 9223372036854775807) (w : World) (hG : Gd w) :
    Calls Tryd.prog 30 #[.int .i64 n] w fun e w' => e = .returned (.string ⟨(Lib.itoa n).toArray⟩) ∧ Below w.heap.size w w' := by
  refine (Tryd.strconv_Itoa n h0 h1 w hG.2).mono ?_
  rintro e w' ⟨rfl, k, os, rfl⟩
  exact ⟨rfl, Lib.below_grow _ _ (Nat.le_refl _) _ _⟩
open Go.ChangeShapes in
theorem row132 (u : TypeId) (h : Tryd.prog.typeName? 3 u = some "*errors.errorString") : u = 132 :=
  typeName_ptr_named (nm := "errors.errorString") (by rw [show "*" ++ "errors.errorString" = "*errors.errorString" by decide]; kernel_rfl) (by kernel_rfl) (by decide) u (by rw [show "*" ++ "errors.errorString" = "*errors.errorString" by decide]; exact h)
theorem pow10_data : (Rows.laid_internal_strconv_uint64pow10 : DataW Unit) = Lib.tabData .u64 Lib.pow10Tab := by kernel_rfl
/-- What the row lists is what is asked. -/
theorem gd_of_laid {W : World} (h : laidMet Tryd.prog Rows.integersStringsRow.laid W) : Gd W := by
  have h3 := h.tail.tail
  have h5 := h3.tail.tail
  refine ⟨?_, ?_⟩
  · obtain ⟨a0, s0, hv, _⟩ := laid_sentinel h5 (g := 1) (by kernel_rfl) (by kernel_rfl) Tryd.underlying56 row132 Tryd.underlying132 Tryd.underlying134 rfl rfl Tryd.underlying9 (by kernel_rfl) (by kernel_rfl)
    have hc := World.var?_cell (g := 1) (by kernel_rfl) hv 0
    exact ⟨_, _, hc⟩
  · rw [pow10_data] at h3
    exact Lib.tabIs_of_head (g := Tryd.laysM171_ren.g 17) (by kernel_rfl) (by kernel_rfl) Tryd.underlying136 Tryd.underlying22 (by kernel_rfl) (by kernel_rfl) h3
#print axioms gd_of_laid
end Go.Proofs.YtgmlihjopinagaaDoor
