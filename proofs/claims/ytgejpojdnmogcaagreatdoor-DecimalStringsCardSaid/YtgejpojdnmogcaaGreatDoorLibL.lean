/-
What the row lists as laid is what is asked of the world.
-/
import Derived.Test.YtgejpojdnmogcaaGreatDoorLibS
import Derived.Deep.Strs
namespace Go.Proofs.YtgejpojdnmogcaaGreatDoor
open Go Go.RowKit
theorem heap_of_var {P : Program} {w : World} {n : String} {g : Nat} {cs : Array Value} (hg : P.globalNamed n = some g) (h : w.var? P n = some cs) : ∃ t fz, w.heap[g]? = some (.cells cs t fz) := by
  simp only [World.var?, hg, Option.bind_some] at h
  split at h
  · rename_i c t fz e
    obtain rfl := Option.some.inj h
    exact ⟨_, _, e⟩
  · cases h
theorem trod_float {H : Type} {enc : TypeId × Value → H} {P : Program} {w : World} {base : Nat} {sp : Nat → Bool} {held : Bool} {fuel : Nat} {t : TypeId} {k : FloatKind} {cs : List Value} {x : DataW H × List MemPlace}
    (ht : P.underlying t = some (.float k)) (h : DataW.trod enc P w base sp held fuel t cs = some x) : ∃ n, cs = [.float k n] ∧ x = (.lit (.float k n), []) := by
  cases fuel with
  | zero => simp [DataW.trod] at h
  | succ n =>
    unfold DataW.trod at h
    rw [ht] at h
    split at h <;> simp_all
theorem head_at {P : Program} {W : World} {name : String} {d : DataW Unit} {rest : List (String × DataW Unit)} {g : Nat} {t : TypeId}
    (hg : P.globalNamed name = some g) (hty : (P.globals[g]?).map (·.type) = some t) (h : laidMet P ((name, d) :: rest) W) :
    ∃ cs fuel p, (∃ t fz, W.heap[g]? = some (.cells cs t fz)) ∧ DataW.trod (fun _ => ()) P W 0 (fun _ => true) false fuel t cs.toList = some (d, p) := by
  obtain ⟨ps, ⟨g', t', cs, fuel, p, q, hg', ht', hvar, hd, _, _⟩, _⟩ := h
  obtain rfl := Option.some.inj (hg.symm.trans hg')
  obtain rfl := Option.some.inj (hty.symm.trans ht')
  exact ⟨cs, fuel, p, heap_of_var hg hvar, hd⟩
/-- a table of floats that was laid -/
theorem floats_of {P : Program} {W : World} {fuel : Nat} {t e : TypeId} {k : FloatKind} {cs : List Value} {zs : List Nat} {p : List MemPlace} (ht : P.underlying t = some (.slice e)) (he : P.underlying e = some (.float k)) (hce : P.cellsOf e = 1) (hz : zs ≠ [])
    (h : DataW.trod (fun _ => ()) P W 0 (fun _ => true) false fuel t cs = some (.slice (zs.map fun z => .lit (.float k z)) [], p)) :
    ∃ (b o : Nat) (cc : Array Value) (t' : TypeId) (fz' : Nat × Nat), cs = [.slice (some ⟨b, o, none⟩) zs.length zs.length] ∧ W.heap[b]? = some (.cells cc t' fz') ∧ o + zs.length ≤ cc.size ∧ ∀ (i : Nat) (z : Nat), zs[i]? = some z → cc[o + i]? = some (.float k z) := by
  have hpos : 0 < zs.length := List.length_pos_iff.2 hz
  rcases DataW.trod_slice ht h with ⟨_, q⟩ | ⟨a, len, cap, elems, rest, n, _, rfl, hx, _, hlc, _, hel, hat, hsp, _⟩
  · cases q
  · simp only [Prod.mk.injEq, DataW.slice.injEq] at hx
    obtain ⟨⟨h1, h2⟩, _⟩ := hx
    have h2' : rest = [] := by cases rest with | nil => rfl | cons a b => simp at h2
    subst h2'
    obtain ⟨h3, _⟩ := hsp rfl
    have hl : len = zs.length := by rw [← hel]; have := congrArg List.length h1; simpa using this.symm
    have hc : cap = zs.length := by simp at h3; omega
    subst hl hc
    have hcell : ∀ i, i < zs.length → ∃ v, W.cell? (a.add i) = some v ∧ zs[i]? = (match v with | .float _ z => some z | _ => none) ∧ v = .float k (zs.getD i 0) := by
      intro i hi
      have h4 := hat i hi
      have h5 : elems[i]? = some (elems[i]'(by omega)) := by simp [hel, hi]
      rw [hce, Nat.mul_one, h5] at h4
      obtain ⟨ds, h6, h7⟩ := Option.bind_eq_some_iff.1 h4
      obtain ⟨z, rfl, hz2⟩ := trod_float he h7
      have h8 := ChangeShapes.cell_of_cells?_one h6
      have h9 := congrArg (fun l => l[i]?) h1
      simp only [List.getElem?_map, h5, hz2, Option.map_some] at h9
      refine ⟨_, h8, ?_, ?_⟩
      · cases hq : zs[i]? with
        | none => rw [hq] at h9; simp at h9
        | some y => rw [hq] at h9; simp at h9; simp [h9]
      · cases hq : zs[i]? with
        | none => rw [hq] at h9; simp at h9
        | some y => rw [hq] at h9; simp at h9; simp [List.getD, hq, h9]
    obtain ⟨b, o, sp⟩ := a
    obtain ⟨v0, c0, _, _⟩ := hcell 0 hpos
    have hs : sp = none := by
      unfold World.cell? at c0
      split at c0
      · cases sp with
        | none => rfl
        | some _ => simp [Addr.add] at c0
      · cases c0
    subst hs
    have c0' := c0
    unfold World.cell? at c0'
    split at c0'
    case h_2 => cases c0'
    rename_i cc t' fz' hh
    have hh' : W.heap[b]? = some (.cells cc t' fz') := by simpa [Addr.add] using hh
    have hall : ∀ i, i < zs.length → cc[o + i]? = some (.float k (zs.getD i 0)) := by
      intro i hi
      obtain ⟨v, c1, _, rfl⟩ := hcell i hi
      by_cases hi0 : i = 0
      · subst hi0; simpa [World.cell?, Addr.add, hh'] using c1
      · simpa [World.cell?, Addr.add, hh', hi0] using c1
    refine ⟨b, o, cc, t', fz', rfl, hh', ?_, ?_⟩
    · have := hall (zs.length - 1) (by omega)
      have := (Array.getElem?_eq_some_iff.1 this).1
      omega
    · intro i z hz3
      have hi : i < zs.length := (List.getElem?_eq_some_iff.1 hz3).1
      rw [hall i hi]
      simp [List.getD, hz3]

theorem pow10_data : (Rows.laid_internal_strconv_uint64pow10 : DataW Unit) = Lib.tabData .u64 Lib.pow10Tab := by kernel_rfl
theorem f32_data : (Rows.laid_internal_strconv_float32pow10 : DataW Unit) = .slice ([1065353216, 1092616192, 1120403456, 1148846080, 1176256512, 1203982336, 1232348160, 1259902592, 1287568416, 1315859240, 1343554297].map fun z => .lit (.float .f32 z)) [] := rfl
open YtgejpojdnmogcaaGreatDoorAi in
set_option maxRecDepth 20000 in
/-- What the row lists is what is asked. -/
theorem gd_of_laid {W : World} (h : laidMet Tryz.prog Rows.decimalNumbersRow.laid W) : Gd W := by
  have h2 := h.tail.tail
  have h4 := h2.tail.tail
  have h7 := h4.tail.tail.tail
  have h8 := h7.tail
  rw [f32_data] at h7
  rw [pow10_data] at h8
  have tab : Lib.TabIs Tryz.prog W "internal/strconv.uint64pow10" .u64 Lib.pow10Tab :=
    Lib.tabIs_of_head (g := 6) (by kernel_rfl) (by kernel_rfl) Tryz.underlying215 Tryz.underlying161 (by kernel_rfl) (by kernel_rfl) h8
  refine ⟨⟨?_, ?_, ?_, ?_⟩, tab⟩
  · have hp : (Lib.pow10Tab.map fun z => Value.int .u64 z).toArray = cPow.toArray := by kernel_rfl
    obtain ⟨t, fz, e⟩ := heap_of_var (g := 6) (by kernel_rfl) tab
    rw [hp] at e
    exact ⟨t, fz, e⟩
  · obtain ⟨cs, fuel, p, ⟨t, fz, e⟩, hd⟩ := head_at (g := 7) (t := 225) (by kernel_rfl) (by kernel_rfl) h2
    obtain ⟨y0, y1, y2, n, hx, hl, g0, g1, g2⟩ := Deep.trod_struct3 Tryz.underlying225 hd
    obtain ⟨n0, e0, r0, _⟩ := DataW.trod_int Tryz.underlying161 g0
    obtain ⟨n1, e1, r1, _⟩ := DataW.trod_int Tryz.underlying161 g1
    obtain ⟨n2, e2, r2, _⟩ := DataW.trod_int Tryz.underlying3 g2
    have hc : cs.toList = [.int .u64 23, .int .u64 8, .int .i64 (-127)] := by
      have hl3 : cs.toList.length = 3 := hl.trans (by kernel_rfl)
      generalize cs.toList = l at *
      match l, hl3 with
      | [a, b, c], _ =>
        have c1 : Tryz.prog.cellsOf 161 = 1 := by kernel_rfl
        have c3 : Tryz.prog.cellsOf 3 = 1 := by kernel_rfl
        simp only [c1, c3, List.drop_zero, List.take_succ_cons, List.take_zero, List.drop_succ_cons, List.cons.injEq, and_true] at e0 e1 e2
        subst r0 r1 r2
        simp only [Rows.laid_internal_strconv_float32info, Prod.mk.injEq, DataW.agg.injEq, List.cons.injEq, DataW.lit.injEq, Lit.int.injEq, true_and, and_true] at hx
        obtain ⟨⟨q0, q1, q2⟩, _⟩ := hx
        rw [e0, e1, e2, ← q0, ← q1, ← q2]
    have hc2 : cs = cInfo.toArray := by rw [← Array.toArray_toList (xs := cs), hc]; rfl
    rw [hc2] at e
    exact ⟨t, fz, e⟩
  · obtain ⟨cs, fuel, p, ⟨t, fz, e⟩, hd⟩ := head_at (g := 8) (t := 4) (by kernel_rfl) (by kernel_rfl) h4
    obtain ⟨b, e0, r0⟩ := DataW.trod_bool Tryz.underlying4 hd
    have hb : b = true := by
      simp only [Rows.laid_internal_strconv_optimize, Prod.mk.injEq, DataW.lit.injEq, Lit.bool.injEq] at r0
      exact r0.1.symm
    subst hb
    have hc2 : cs = #[.bool true] := by rw [← Array.toArray_toList (xs := cs), e0]
    rw [hc2] at e
    exact ⟨t, fz, e⟩
  · obtain ⟨cs, fuel, p, ⟨t, fz, e⟩, hd⟩ := head_at (g := 10) (t := 243) (by kernel_rfl) (by kernel_rfl) h7
    obtain ⟨b, o, cc, t', fz', e0, hh, hs, hall⟩ := floats_of Tryz.underlying243 Tryz.underlying132 (by kernel_rfl) (by simp) hd
    have hc2 : cs = #[.slice (some ⟨b, o, none⟩) 11 11] := by rw [← Array.toArray_toList (xs := cs), e0]; rfl
    rw [hc2] at e
    refine ⟨b, o, t, fz, cc, t', fz', e, hh, hs, ?_⟩
    intro i x hx
    have hcF : cF32 = [1065353216, 1092616192, 1120403456, 1148846080, 1176256512, 1203982336, 1232348160, 1259902592, 1287568416, 1315859240, 1343554297].map fun z => Value.float .f32 z := rfl
    rw [hcF, List.getElem?_map] at hx
    obtain ⟨z, hz, rfl⟩ := Option.map_eq_some_iff.1 hx
    exact hall i z hz
#print axioms gd_of_laid
end Go.Proofs.YtgejpojdnmogcaaGreatDoor
