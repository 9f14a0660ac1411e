-- Written by myprint.py of this session over the kit's print program; contracts by hand where it does not serve.
import Derived.Test.YtgmlihjopinagaaDoorPIntegersStringsx0
import Derived.Test.YtgmlihjopinagaaDoorPIntegersStringsx1
import Derived.Test.YtgmlihjopinagaaDoorPIntegersStringsx2
import Derived.Test.YtgmlihjopinagaaDoorPIntegersStringsx3
import Derived.Test.YtgmlihjopinagaaDoorPIntegersStringsx4
namespace Go.Proofs.YtgmlihjopinagaaDoor.PIntegersStrings
open Go.RowKit Go.Proofs.YtgmlihjopinagaaDoorW.PrintWords Go.Proofs.YtgmlihjopinagaaDoorW.PrintLast Go.Proofs.YtgmlihjopinagaaDoorW.PrintMore
attribute [local go_sem] max2_int min2_int max_two min_two max_three min_three max_four min_four   -- for this text's walks alone
set_option linter.unusedVariables false
set_option linter.unusedSimpArgs false

attribute [local go_sem high] eqA24
/-! ### formularylaw07_IntegersStrings: function 3 -/
mutual
def formularylaw07_IntegersStrings.j0 : Nat → Int → ByteArray → Bool → Int → Int → Int → ByteArray → Option (Bool)
  | 0, _, _, _, _, _, _, _ => none
  | k + 1, x0, x2, x31, x131000, x131001, x131002, x131003 => if x31 = true then (some true) else ((integers_ParseInteger.f x2).bind fun bt132 => ((formularyref07_Parse.f k x2).bind fun bt134 => (if bt132.2 = bt134.2 then (formularylaw07_IntegersStrings.j1 k x0 (bt132.1 != bt134.1) x131000 x131001 x131002 x131003) else (none))))
def formularylaw07_IntegersStrings.j1 : Nat → Int → Bool → Int → Int → Int → ByteArray → Option (Bool)
  | 0, _, _, _, _, _, _ => none
  | k + 1, x0, x49, x131000, x131001, x131002, x131003 => if x49 = true then (none) else ((integers_FormatInteger.f k x0).bind fun bt136 => ((integers_ValueOf.f k x0).bind fun bt138 => ((formularyref07_NumberErr.f x0).bind fun t144 => (if t144 = 0 then ((integers_ParseInteger.f bt136.1).bind fun bt145 => ((integers_NumberOf.f k bt138.1 bt138.2.1 bt138.2.2.1 bt138.2.2.2.1).bind fun bt147 => (if bt136.2 = 0 then ((formularybase_Decimal.f k x0).bind fun t149 => (if bt136.1.toList = t149.toList then (if bt138.2.2.2.2 = 0 then ((formularybase_Integer.f x0).bind fun bt150 => (if (!(bt138.1 == bt150.1) || (!(bt138.2.1 == bt150.2.1) || (!(bt138.2.2.1 == bt150.2.2.1) || (!(bt138.2.2.2.1.toList == bt150.2.2.2.toList))))) = true then (none) else (if bt145.2 = 0 then (if bt145.1 = x0 then (if bt147.2 = 0 then (if bt147.1 = x0 then (formularylaw07_IntegersStrings.j2 k x131000 x131001 x131002 x131003) else (none)) else (none)) else (none)) else (none)))) else (none)) else (none))) else (none)))) else (if bt136.2 = t144 then (if bt136.1.toList = ([] : List UInt8) then (if bt138.2.2.2.2 = t144 then (if (!(bt138.1 == 0) || (!(bt138.2.1 == 0) || (!(bt138.2.2.1 == 0) || (!(bt138.2.2.2.1.toList == ([] : List UInt8)))))) = true then (none) else (formularylaw07_IntegersStrings.j2 k x131000 x131001 x131002 x131003)) else (none)) else (none)) else (none))))))
def formularylaw07_IntegersStrings.j2 : Nat → Int → Int → Int → ByteArray → Option (Bool)
  | 0, _, _, _, _ => none
  | k + 1, x131000, x131001, x131002, x131003 => (integers_NumberOf.f k x131000 x131001 x131002 x131003).bind fun bt154 => (if x131000 = 0 then (if x131001 ≥ 4294967296 then (if bt154.2 = 3 then (some (bt154.1 == 0)) else (none)) else (if x131002 = 0 then (if x131003.toList = ([] : List UInt8) then (if bt154.2 = 0 then ((formularybase_IntegerOf.f x131000 x131001 x131002 x131003).bind fun t156 => (some (bt154.1 == t156))) else (none)) else (if bt154.2 = 3 then (some (bt154.1 == 0)) else (none))) else (if bt154.2 = 3 then (some (bt154.1 == 0)) else (none)))) else (if bt154.2 = 27 then (some (bt154.1 == 0)) else (none)))
end
def formularylaw07_IntegersStrings.f (k : Nat) (a0 : Int) (a1_0 : Int) (a1_1 : Int) (a1_2 : Int) (a1_3 : ByteArray) (a2 : ByteArray) : Option (Bool) := (formularylaw07_awake.f).bind fun t131 => (if t131 = true then (if (a2.size : Int) > 60 then (formularylaw07_IntegersStrings.j0 k a0 a2 true a1_0 a1_1 a1_2 a1_3) else (formularylaw07_IntegersStrings.j0 k a0 a2 (decide ((a1_3.size : Int) > 60)) a1_0 a1_1 a1_2 a1_3)) else (none))
theorem formularylaw07_IntegersStrings.mono_l : ∀ k, (∀ y0 y1 y2 y3 y4 y5 y6, LeO (formularylaw07_IntegersStrings.j0 k y0 y1 y2 y3 y4 y5 y6) (formularylaw07_IntegersStrings.j0 (k + 1) y0 y1 y2 y3 y4 y5 y6)) ∧ (∀ y0 y1 y2 y3 y4 y5, LeO (formularylaw07_IntegersStrings.j1 k y0 y1 y2 y3 y4 y5) (formularylaw07_IntegersStrings.j1 (k + 1) y0 y1 y2 y3 y4 y5)) ∧ (∀ y0 y1 y2 y3, LeO (formularylaw07_IntegersStrings.j2 k y0 y1 y2 y3) (formularylaw07_IntegersStrings.j2 (k + 1) y0 y1 y2 y3))
  | 0 => ⟨fun _ _ _ _ _ _ _ r h => by simp [formularylaw07_IntegersStrings.j0] at h, fun _ _ _ _ _ _ r h => by simp [formularylaw07_IntegersStrings.j1] at h, fun _ _ _ _ r h => by simp [formularylaw07_IntegersStrings.j2] at h⟩
  | k + 1 => by
    obtain ⟨ih0, ih1, ih2⟩ := formularylaw07_IntegersStrings.mono_l k
    refine ⟨?_, ?_, ?_⟩
    · intro y0 y1 y2 y3 y4 y5 y6
      unfold formularylaw07_IntegersStrings.j0
      repeat' first
      | (with_reducible exact ih0 _ _ _ _ _ _ _)
      | (with_reducible exact ih1 _ _ _ _ _ _)
      | (with_reducible exact ih2 _ _ _ _)
      | (with_reducible exact formularybase_Decimal.mono _ _)
      | (with_reducible exact formularyref07_Parse.mono _ _)
      | (with_reducible exact integers_FormatInteger.mono _ _)
      | (with_reducible exact integers_NumberOf.mono _ _ _ _ _)
      | (with_reducible exact integers_ValueOf.mono _ _)
      | (with_reducible exact LeO.refl _)
      | (with_reducible exact LeO.none _)
      | (with_reducible refine LeO.ite ?_ ?_)
      | (with_reducible refine LeO.bind ?_ (fun _ => ?_))
      | exact ih0 _ _ _ _ _ _ _
      | exact ih1 _ _ _ _ _ _
      | exact ih2 _ _ _ _
      | exact formularybase_Decimal.mono _ _
      | exact formularyref07_Parse.mono _ _
      | exact integers_FormatInteger.mono _ _
      | exact integers_NumberOf.mono _ _ _ _ _
      | exact integers_ValueOf.mono _ _
      | exact LeO.none _
      | refine LeO.ite ?_ ?_
      | refine LeO.bind ?_ (fun _ => ?_)
    · intro y0 y1 y2 y3 y4 y5
      unfold formularylaw07_IntegersStrings.j1
      repeat' first
      | (with_reducible exact ih0 _ _ _ _ _ _ _)
      | (with_reducible exact ih1 _ _ _ _ _ _)
      | (with_reducible exact ih2 _ _ _ _)
      | (with_reducible exact formularybase_Decimal.mono _ _)
      | (with_reducible exact formularyref07_Parse.mono _ _)
      | (with_reducible exact integers_FormatInteger.mono _ _)
      | (with_reducible exact integers_NumberOf.mono _ _ _ _ _)
      | (with_reducible exact integers_ValueOf.mono _ _)
      | (with_reducible exact LeO.refl _)
      | (with_reducible exact LeO.none _)
      | (with_reducible refine LeO.ite ?_ ?_)
      | (with_reducible refine LeO.bind ?_ (fun _ => ?_))
      | exact ih0 _ _ _ _ _ _ _
      | exact ih1 _ _ _ _ _ _
      | exact ih2 _ _ _ _
      | exact formularybase_Decimal.mono _ _
      | exact formularyref07_Parse.mono _ _
      | exact integers_FormatInteger.mono _ _
      | exact integers_NumberOf.mono _ _ _ _ _
      | exact integers_ValueOf.mono _ _
      | exact LeO.none _
      | refine LeO.ite ?_ ?_
      | refine LeO.bind ?_ (fun _ => ?_)
    · intro y0 y1 y2 y3
      unfold formularylaw07_IntegersStrings.j2
      repeat' first
      | (with_reducible exact ih0 _ _ _ _ _ _ _)
      | (with_reducible exact ih1 _ _ _ _ _ _)
      | (with_reducible exact ih2 _ _ _ _)
      | (with_reducible exact formularybase_Decimal.mono _ _)
      | (with_reducible exact formularyref07_Parse.mono _ _)
      | (with_reducible exact integers_FormatInteger.mono _ _)
      | (with_reducible exact integers_NumberOf.mono _ _ _ _ _)
      | (with_reducible exact integers_ValueOf.mono _ _)
      | (with_reducible exact LeO.refl _)
      | (with_reducible exact LeO.none _)
      | (with_reducible refine LeO.ite ?_ ?_)
      | (with_reducible refine LeO.bind ?_ (fun _ => ?_))
      | exact ih0 _ _ _ _ _ _ _
      | exact ih1 _ _ _ _ _ _
      | exact ih2 _ _ _ _
      | exact formularybase_Decimal.mono _ _
      | exact formularyref07_Parse.mono _ _
      | exact integers_FormatInteger.mono _ _
      | exact integers_NumberOf.mono _ _ _ _ _
      | exact integers_ValueOf.mono _ _
      | exact LeO.none _
      | refine LeO.ite ?_ ?_
      | refine LeO.bind ?_ (fun _ => ?_)
theorem formularylaw07_IntegersStrings.mono : ∀ a0 a1 a2 a3 a4 a5 k, LeO (formularylaw07_IntegersStrings.f k a0 a1 a2 a3 a4 a5) (formularylaw07_IntegersStrings.f (k + 1) a0 a1 a2 a3 a4 a5) := by
  intro a0 a1 a2 a3 a4 a5 k
  obtain ⟨ih0, ih1, ih2⟩ := formularylaw07_IntegersStrings.mono_l k
  unfold formularylaw07_IntegersStrings.f
  repeat' first
      | (with_reducible exact ih0 _ _ _ _ _ _ _)
      | (with_reducible exact ih1 _ _ _ _ _ _)
      | (with_reducible exact ih2 _ _ _ _)
      | (with_reducible exact formularybase_Decimal.mono _ _)
      | (with_reducible exact formularyref07_Parse.mono _ _)
      | (with_reducible exact integers_FormatInteger.mono _ _)
      | (with_reducible exact integers_NumberOf.mono _ _ _ _ _)
      | (with_reducible exact integers_ValueOf.mono _ _)
      | (with_reducible exact LeO.refl _)
      | (with_reducible exact LeO.none _)
      | (with_reducible refine LeO.ite ?_ ?_)
      | (with_reducible refine LeO.bind ?_ (fun _ => ?_))
      | exact ih0 _ _ _ _ _ _ _
      | exact ih1 _ _ _ _ _ _
      | exact ih2 _ _ _ _
      | exact formularybase_Decimal.mono _ _
      | exact formularyref07_Parse.mono _ _
      | exact integers_FormatInteger.mono _ _
      | exact integers_NumberOf.mono _ _ _ _ _
      | exact integers_ValueOf.mono _ _
      | exact LeO.none _
      | refine LeO.ite ?_ ?_
      | refine LeO.bind ?_ (fun _ => ?_)
def formularylaw07_IntegersStrings.T17 : Bool × List (List Nat × List Nat) := (true, [([], []), ([0], [0]), ([1], [1]), ([2], [2]), ([2], [2]), ([4, 2, 2], [2, 4]), ([3, 5, 2], [2, 3, 5]), ([2, 6], [2, 6]), ([7, 5], [7]), ([8], [8]), ([9, 8], [8, 9]), ([8, 10], [8, 10]), ([11, 8], [11]), ([12], [12]), ([12], [12]), ([14, 12, 12], [12, 14]), ([13, 15, 12], [12, 13, 15]), ([12, 16], [12, 16]), ([17, 15], [17]), ([18], [18]), ([19, 18], [18, 19]), ([18, 20], [18, 20]), ([21, 18], [21]), ([22], [22]), ([22], [22]), ([23, 24, 22], [22, 23, 24]), ([22, 25], [22, 25]), ([26, 22], [26]), ([27], [27]), ([28, 27], [27, 28]), ([27, 29], [27, 29]), ([30, 27], [30]), ([31], [31]), ([31], [31]), ([32, 33, 31], [31, 32, 33]), ([31, 34], [31, 34])])
def formularylaw07_IntegersStrings.B17 : List Nat := [0, 1, 3, 7, 7, 23, 63, 127, 255, 511, 1023, 2047, 4095, 8191, 8191, 24575, 65535, 131071, 262143, 524287, 1048575, 2097151, 4194303, 8388607, 8388607, 33554431, 67108863, 134217727, 268435455, 536870911, 1073741823, 2147483647, 4294967295, 4294967295, 17179869183, 34359738367]
theorem formularylaw07_IntegersStrings.tab17 : rtab .any (opsOf Tryd.f3 17) = formularylaw07_IntegersStrings.T17 := by kernel_rfl
theorem formularylaw07_IntegersStrings.bits17 : waitsOk formularylaw07_IntegersStrings.T17.2 formularylaw07_IntegersStrings.B17 = true := by kernel_rfl
set_option maxHeartbeats 8000000 in
set_option maxRecDepth 100000 in
theorem formularylaw07_IntegersStrings.calls (k : Nat) (a0 : Int) (a1_0 : Int) (a1_1 : Int) (a1_2 : Int) (a1_3 : ByteArray) (a2 : ByteArray) (r : Bool) (w : World) (hGd : Aside0 (Gd w)) (h : formularylaw07_IntegersStrings.f k a0 a1_0 a1_1 a1_2 a1_3 a2 = some r) :
    Calls Tryd.prog 3 #[.int .i64 a0, .agg #[.int .i64 a1_0, .int .u64 a1_1, .int .u64 a1_2, .string a1_3], .string a2] w fun e w' => e = .returned (.bool r) ∧ Below w.heap.size w w' := by
  have hu24 := Tryd.underlying24
  have HB := Aside0.mk (Below.refl w.heap.size w)
  have H : ((formularylaw07_awake.f).bind fun t131 => (if t131 = true then (if (a2.size : Int) > 60 then (formularylaw07_IntegersStrings.j0 k a0 a2 true a1_0 a1_1 a1_2 a1_3) else (formularylaw07_IntegersStrings.j0 k a0 a2 (decide ((a1_3.size : Int) > 60)) a1_0 a1_1 a1_2 a1_3)) else (none))) = some r := h
  clear h
  replace H := Option.bind_eq_some_iff.mp H
  obtain ⟨t131, A40, H⟩ := H
  replace H : (if t131 = true then (if (a2.size : Int) > 60 then (formularylaw07_IntegersStrings.j0 k a0 a2 true a1_0 a1_1 a1_2 a1_3) else (formularylaw07_IntegersStrings.j0 k a0 a2 (decide ((a1_3.size : Int) > 60)) a1_0 a1_1 a1_2 a1_3)) else (none)) = some r := H
  have A4 := Aside0.mk A40
  clear A40
  by_cases c5 : t131 = true
  · subst c5
    have H1 : (if (a2.size : Int) > 60 then (formularylaw07_IntegersStrings.j0 k a0 a2 true a1_0 a1_1 a1_2 a1_3) else (formularylaw07_IntegersStrings.j0 k a0 a2 (decide ((a1_3.size : Int) > 60)) a1_0 a1_1 a1_2 a1_3)) = some r := by rw [if_pos rfl] at H; exact H
    clear H
    have H := H1
    clear H1
    have HC6 := Aside0.mk H
    clear H
    go_enter Tryd.func3, Tryd.ntmps3
    go_upto_region 3 with (first | ((with_reducible refine gate_dst (N := 4) rfl ?_); (try (refine gate_guard (by rfl) ?_; dsimp only)); refine box_event ?hg (N := 4) ?hd (cs := #[.int .i64 a1_0, .int .u64 a1_1, .int .u64 a1_2, .string a1_3]) (t := 24) ?hr ?_; (case hd => rfl); (case hg => rfl); (case hr => first | (go_simp; done) | (go_simp; rfl)); intro gb130 hg w7 hbox hb; have n0_ := Aside0.mk (below_step (by repeat (first | (with_reducible first | exact HB.out | apply below_alloc | apply pw_below_drewN | apply below_drew1) | exact HB.out)) hb); have n1_ := Aside0.mk (hbox); have n2_ := Aside0.mk ((by rw [hg]; exact (below_size (by repeat (first | (with_reducible first | exact HB.out | apply below_alloc | apply pw_below_drewN | apply below_drew1) | exact HB.out))) : w.heap.size ≤ gb130)); have n3_ := Aside0.mk ((by rw [hg]; exact (below_size (by repeat (first | (with_reducible first | exact HB.out | apply below_alloc | apply pw_below_drewN | apply below_drew1) | exact HB.out))) : w.heap.size ≤ gb130)); clear HB; have HB := n0_; have BK130 := n1_; have GW130 := n2_; have GE130 := n3_; clear n0_ n1_ n2_ n3_; clear hb hbox hg) | ((with_reducible refine gate_callee (f := 4) rfl ?_); refine goesL_ (some 21) rfl rfl Tryd.func4 (by kernel_rfl) rfl #[] rfl (by (try simp only [List.map_toArray, List.map_cons, List.map_nil]); first | done | rfl | (simp only [List.length_drop, List.length_take]; rfl)) ?_; (with_reducible refine (formularylaw07_awake.calls  true _ A4.out).mono ?_); rintro e w8 ⟨rfl, hb⟩; refine ⟨_, rfl, ?_⟩; have n0_ := Aside0.mk (blk_below (g := gb130) (o := .cells #[.int .i64 a1_0, .int .u64 a1_1, .int .u64 a1_2, .string a1_3] 24 (0, 0)) (by (with_reducible repeat (first | refine blk_drewN ?_ _ | refine blk_drew ?_ | refine blk_alloc ?_ _)); exact BK130.out) hb); have n1_ := Aside0.mk (below_step (by repeat (first | (with_reducible first | exact HB.out | apply below_alloc | apply pw_below_drewN | apply below_drew1 | refine below_set ?_ GE130.out) | exact HB.out)) hb); clear BK130; clear HB; have BK130 := n0_; have HB := n1_; clear n0_ n1_; (try clear hb); (try clear hb2); (try clear hk); (try clear hi)))
    (try simp only [Act.put, List.setIfInBounds_toArray, List.set_cons_zero, List.set_cons_succ])
    go_cut [31] (fun v31 wc => ∃ (kq : Nat) (x31_5 : Bool), v31 = .bool x31_5 ∧ Aside0 (formularylaw07_IntegersStrings.j0 kq a0 a2 x31_5 a1_0 a1_1 a1_2 a1_3 = some r) ∧ Aside0 (kq ≤ k) ∧ Aside0 (wc.heap[gb130]? = some (.cells #[.int .i64 a1_0, .int .u64 a1_1, .int .u64 a1_2, .string a1_3] 24 (0, 0))) ∧ Aside0 (Below w.heap.size w wc))
    case first =>
      have H := HC6.out
      clear HC6
      by_cases c9 : (a2.size : Int) > 60
      · rw [if_pos c9] at H
        have c9b0 : decide (60 < (a2.size : Int)) = true := decide_eq_true c9
        have c9b1 : decide (60 < a2.size) = true := decide_eq_true (by omega)
        clear c9
        (first | rw [c9b0] | (simp only [i64_w, i32_w]; rw [c9b0]) | skip)
        as_aux_lemma =>
          have H' := Aside0.mk H
          clear H
          go_wp2
          go_meet
          case rel => exact ⟨_, (true), (by first | rfl | (simp; done) | (simp [*]; done)), H', ⟨by first | omega | exact Nat.le_refl _⟩, ⟨by (with_reducible repeat (first | refine blk_drewN ?_ _ | refine blk_drew ?_ | refine blk_alloc ?_ _)); exact BK130.out⟩, ⟨by repeat (first | (with_reducible first | exact HB.out | apply below_alloc | apply pw_below_drewN | apply below_drew1 | refine below_set ?_ GE130.out) | exact HB.out)⟩⟩
      · rw [if_neg c9] at H
        have c9b0 : decide (60 < (a2.size : Int)) = false := decide_eq_false c9
        have c9b1 : decide (60 < a2.size) = false := decide_eq_false (by omega)
        clear c9
        (first | rw [c9b0] | (simp only [i64_w, i32_w]; rw [c9b0]) | skip)
        as_aux_lemma =>
          have H' := Aside0.mk H
          clear H
          have hcz10_0 : w8.cell? ⟨gb130, 0, none⟩ = some (.int .i64 a1_0) := (blk_cell BK130.out 0).trans rfl
          have hcz10_1 : w8.cell? ⟨gb130, 1, none⟩ = some (.int .u64 a1_1) := (blk_cell BK130.out 1).trans rfl
          have hcz10_2 : w8.cell? ⟨gb130, 2, none⟩ = some (.int .u64 a1_2) := (blk_cell BK130.out 2).trans rfl
          have hcz10_3 : w8.cell? ⟨gb130, 3, none⟩ = some (.string a1_3) := (blk_cell BK130.out 3).trans rfl
          have hfz10_0 := blk_frozen BK130.out 0
          have hfz10_1 := blk_frozen BK130.out 1
          have hfz10_2 := blk_frozen BK130.out 2
          have hfz10_3 := blk_frozen BK130.out 3
          go_wp2
          go_meet
          case rel => exact ⟨_, (decide ((a1_3.size : Int) > 60)), (by first | rfl | (simp; done) | (simp [*]; done)), H', ⟨by first | omega | exact Nat.le_refl _⟩, ⟨by (with_reducible repeat (first | refine blk_drewN ?_ _ | refine blk_drew ?_ | refine blk_alloc ?_ _)); exact BK130.out⟩, ⟨by repeat (first | (with_reducible first | exact HB.out | apply below_alloc | apply pw_below_drewN | apply below_drew1 | refine below_set ?_ GE130.out) | exact HB.out)⟩⟩
    case rest =>
      clear HC6
      try clear p2
      try clear c3
      try clear c4
      try clear c5
      try clear c9
      try clear c9b0
      try clear c9b1
      try clear hcz10_0
      try clear hcz10_1
      try clear hcz10_2
      try clear hcz10_3
      try clear hfz10_0
      try clear hfz10_1
      try clear hfz10_2
      try clear hfz10_3
      obtain ⟨kq, x31_5, rfl, HA, HJ5, BK130, HB⟩ := hcut
      cases kq with
      | zero => exact absurd HA.out (by simp [formularylaw07_IntegersStrings.j0])
      | succ kj5 =>
        have H := HA.out
        clear HA
        simp only [formularylaw07_IntegersStrings.j0] at H
        by_cases c11 : x31_5 = true
        · subst c11
          have H1 : (some true) = some r := by rw [if_pos rfl] at H; exact H
          clear H
          have H := H1
          clear H1
          as_aux_lemma =>
            obtain rfl := Option.some.inj H
            go_wp2
            go_ret
            exact ⟨by first | rfl | (simp [errW_none, errW_some] <;> rfl) | (simp [*, errW_none, errW_some] <;> rfl), by repeat (first | (with_reducible first | exact HB.out | apply below_alloc | apply pw_below_drewN | apply below_drew1 | refine below_set ?_ GE130.out) | exact HB.out)⟩
        · replace c11 := Bool.eq_false_iff.mpr c11
          subst c11
          have H1 : ((integers_ParseInteger.f a2).bind fun bt132 => ((formularyref07_Parse.f kj5 a2).bind fun bt134 => (if bt132.2 = bt134.2 then (formularylaw07_IntegersStrings.j1 kj5 a0 (bt132.1 != bt134.1) a1_0 a1_1 a1_2 a1_3) else (none)))) = some r := by rw [if_neg (show ¬ (false = true) by decide)] at H; exact H
          clear H
          have H := H1
          clear H1
          replace H := Option.bind_eq_some_iff.mp H
          obtain ⟨⟨t132, t133⟩, A120, H⟩ := H
          replace H : ((formularyref07_Parse.f kj5 a2).bind fun bt134 => (if t133 = bt134.2 then (formularylaw07_IntegersStrings.j1 kj5 a0 (t132 != bt134.1) a1_0 a1_1 a1_2 a1_3) else (none))) = some r := H
          have A12 := Aside0.mk A120
          clear A120
          replace H := Option.bind_eq_some_iff.mp H
          obtain ⟨⟨t134, t135⟩, A130, H⟩ := H
          replace H : (if t133 = t135 then (formularylaw07_IntegersStrings.j1 kj5 a0 (t132 != t134) a1_0 a1_1 a1_2 a1_3) else (none)) = some r := H
          have A13 := Aside0.mk A130
          clear A130
          have HC14 := Aside0.mk H
          clear H
          go_upto_region 7 with (first | ((with_reducible refine gate_callee (f := 5) rfl ?_); refine goesL_ (some 34) rfl rfl Tryd.func5 (by kernel_rfl) rfl #[.string a2] rfl (by (try simp only [List.map_toArray, List.map_cons, List.map_nil]); first | done | rfl | (simp only [List.length_drop, List.length_take]; rfl)) ?_; (with_reducible refine (integers_ParseInteger.callsG a2 t132 t133 _ (Gd.below hGd.out (by repeat (first | (with_reducible first | exact HB.out | apply below_alloc | apply pw_below_drewN | apply below_drew1 | refine below_set ?_ GE130.out) | exact HB.out))) A12.out).mono ?_); rintro e w15 ⟨rfl, hb⟩; refine ⟨_, rfl, ?_⟩; have n0_ := Aside0.mk (blk_below (g := gb130) (o := .cells #[.int .i64 a1_0, .int .u64 a1_1, .int .u64 a1_2, .string a1_3] 24 (0, 0)) (by (with_reducible repeat (first | refine blk_drewN ?_ _ | refine blk_drew ?_ | refine blk_alloc ?_ _)); exact BK130.out) hb); have n1_ := Aside0.mk (below_step (by repeat (first | (with_reducible first | exact HB.out | apply below_alloc | apply pw_below_drewN | apply below_drew1 | refine below_set ?_ GE130.out) | exact HB.out)) hb); clear BK130; clear HB; have BK130 := n0_; have HB := n1_; clear n0_ n1_; (try clear hb); (try clear hb2); (try clear hk); (try clear hi)) | ((with_reducible refine gate_callee (f := 6) rfl ?_); refine goesL_ (some 39) rfl rfl Tryd.func6 (by kernel_rfl) rfl #[.string a2] rfl (by (try simp only [List.map_toArray, List.map_cons, List.map_nil]); first | done | rfl | (simp only [List.length_drop, List.length_take]; rfl)) ?_; (with_reducible refine (formularyref07_Parse.calls kj5 a2 t134 t135 _ A13.out).mono ?_); rintro e w16 ⟨rfl, hb⟩; refine ⟨_, rfl, ?_⟩; have n0_ := Aside0.mk (blk_below (g := gb130) (o := .cells #[.int .i64 a1_0, .int .u64 a1_1, .int .u64 a1_2, .string a1_3] 24 (0, 0)) (by (with_reducible repeat (first | refine blk_drewN ?_ _ | refine blk_drew ?_ | refine blk_alloc ?_ _)); exact BK130.out) hb); have n1_ := Aside0.mk (below_step (by repeat (first | (with_reducible first | exact HB.out | apply below_alloc | apply pw_below_drewN | apply below_drew1 | refine below_set ?_ GE130.out) | exact HB.out)) hb); clear BK130; clear HB; have BK130 := n0_; have HB := n1_; clear n0_ n1_; (try clear hb); (try clear hb2); (try clear hk); (try clear hi)))
          (try simp only [Act.put, List.setIfInBounds_toArray, List.set_cons_zero, List.set_cons_succ])
          go_cut [49] (fun v49 wc => ∃ (kq : Nat) (x49_13 : Bool), v49 = .bool x49_13 ∧ Aside0 (formularylaw07_IntegersStrings.j1 kq a0 x49_13 a1_0 a1_1 a1_2 a1_3 = some r) ∧ Aside0 (kq ≤ kj5) ∧ Aside0 (wc.heap[gb130]? = some (.cells #[.int .i64 a1_0, .int .u64 a1_1, .int .u64 a1_2, .string a1_3] 24 (0, 0))) ∧ Aside0 (Below w.heap.size w wc))
          case first =>
            have H := HC14.out
            clear HC14
            by_cases c17 : t133 = t135
            · rw [if_pos c17] at H
              have c17b0 : (t133 == t135) = true := beq_iff_eq.mpr c17
              have c17b1 : (t133 != t135) = false := bne_eq_false_iff_eq.mpr c17
              clear c17
              (first | rw [c17b0] | (simp only [i64_w, i32_w]; rw [c17b0]) | skip)
              as_aux_lemma =>
                have H' := Aside0.mk H
                clear H
                go_wp2
                go_meet
                case rel => exact ⟨_, ((t132 != t134)), (by first | rfl | (simp; done) | (simp [*]; done)), H', ⟨by have := HJ5.out; first | omega | exact Nat.le_refl _⟩, ⟨by (with_reducible repeat (first | refine blk_drewN ?_ _ | refine blk_drew ?_ | refine blk_alloc ?_ _)); exact BK130.out⟩, ⟨by repeat (first | (with_reducible first | exact HB.out | apply below_alloc | apply pw_below_drewN | apply below_drew1 | refine below_set ?_ GE130.out) | exact HB.out)⟩⟩
            · rw [if_neg c17] at H
              exact absurd H (by simp)
          case rest =>
            clear HC14
            try clear c1
            try clear p2
            try clear c3
            try clear c4
            try clear c5
            try clear c6
            try clear c9
            try clear c9b0
            try clear c9b1
            try clear c11
            try clear c17
            try clear c17b0
            try clear c17b1
            try clear hcz10_0
            try clear hcz10_1
            try clear hcz10_2
            try clear hcz10_3
            try clear hfz10_0
            try clear hfz10_1
            try clear hfz10_2
            try clear hfz10_3
            try clear p2
            obtain ⟨kq, x49_13, rfl, HA, HJ13, BK130, HB⟩ := hcut
            cases kq with
            | zero => exact absurd HA.out (by simp [formularylaw07_IntegersStrings.j1])
            | succ kj13 =>
              have H := HA.out
              clear HA
              simp only [formularylaw07_IntegersStrings.j1] at H
              by_cases c18 : x49_13 = true
              · subst c18
                have H1 : (none) = some r := by rw [if_pos rfl] at H; exact H
                clear H
                have H := H1
                clear H1
                exact absurd H (by simp)
              · replace c18 := Bool.eq_false_iff.mpr c18
                subst c18
                have H1 : ((integers_FormatInteger.f kj13 a0).bind fun bt136 => ((integers_ValueOf.f kj13 a0).bind fun bt138 => ((formularyref07_NumberErr.f a0).bind fun t144 => (if t144 = 0 then ((integers_ParseInteger.f bt136.1).bind fun bt145 => ((integers_NumberOf.f kj13 bt138.1 bt138.2.1 bt138.2.2.1 bt138.2.2.2.1).bind fun bt147 => (if bt136.2 = 0 then ((formularybase_Decimal.f kj13 a0).bind fun t149 => (if bt136.1.toList = t149.toList then (if bt138.2.2.2.2 = 0 then ((formularybase_Integer.f a0).bind fun bt150 => (if (!(bt138.1 == bt150.1) || (!(bt138.2.1 == bt150.2.1) || (!(bt138.2.2.1 == bt150.2.2.1) || (!(bt138.2.2.2.1.toList == bt150.2.2.2.toList))))) = true then (none) else (if bt145.2 = 0 then (if bt145.1 = a0 then (if bt147.2 = 0 then (if bt147.1 = a0 then (formularylaw07_IntegersStrings.j2 kj13 a1_0 a1_1 a1_2 a1_3) else (none)) else (none)) else (none)) else (none)))) else (none)) else (none))) else (none)))) else (if bt136.2 = t144 then (if bt136.1.toList = ([] : List UInt8) then (if bt138.2.2.2.2 = t144 then (if (!(bt138.1 == 0) || (!(bt138.2.1 == 0) || (!(bt138.2.2.1 == 0) || (!(bt138.2.2.2.1.toList == ([] : List UInt8)))))) = true then (none) else (formularylaw07_IntegersStrings.j2 kj13 a1_0 a1_1 a1_2 a1_3)) else (none)) else (none)) else (none)))))) = some r := by rw [if_neg (show ¬ (false = true) by decide)] at H; exact H
                clear H
                have H := H1
                clear H1
                replace H := Option.bind_eq_some_iff.mp H
                obtain ⟨⟨t136, t137⟩, A190, H⟩ := H
                replace H : ((integers_ValueOf.f kj13 a0).bind fun bt138 => ((formularyref07_NumberErr.f a0).bind fun t144 => (if t144 = 0 then ((integers_ParseInteger.f t136).bind fun bt145 => ((integers_NumberOf.f kj13 bt138.1 bt138.2.1 bt138.2.2.1 bt138.2.2.2.1).bind fun bt147 => (if t137 = 0 then ((formularybase_Decimal.f kj13 a0).bind fun t149 => (if t136.toList = t149.toList then (if bt138.2.2.2.2 = 0 then ((formularybase_Integer.f a0).bind fun bt150 => (if (!(bt138.1 == bt150.1) || (!(bt138.2.1 == bt150.2.1) || (!(bt138.2.2.1 == bt150.2.2.1) || (!(bt138.2.2.2.1.toList == bt150.2.2.2.toList))))) = true then (none) else (if bt145.2 = 0 then (if bt145.1 = a0 then (if bt147.2 = 0 then (if bt147.1 = a0 then (formularylaw07_IntegersStrings.j2 kj13 a1_0 a1_1 a1_2 a1_3) else (none)) else (none)) else (none)) else (none)))) else (none)) else (none))) else (none)))) else (if t137 = t144 then (if t136.toList = ([] : List UInt8) then (if bt138.2.2.2.2 = t144 then (if (!(bt138.1 == 0) || (!(bt138.2.1 == 0) || (!(bt138.2.2.1 == 0) || (!(bt138.2.2.2.1.toList == ([] : List UInt8)))))) = true then (none) else (formularylaw07_IntegersStrings.j2 kj13 a1_0 a1_1 a1_2 a1_3)) else (none)) else (none)) else (none))))) = some r := H
                have A19 := Aside0.mk A190
                clear A190
                replace H := Option.bind_eq_some_iff.mp H
                obtain ⟨⟨t138, t139, t140, t141, t142⟩, A200, H⟩ := H
                replace H : ((formularyref07_NumberErr.f a0).bind fun t144 => (if t144 = 0 then ((integers_ParseInteger.f t136).bind fun bt145 => ((integers_NumberOf.f kj13 t138 t139 t140 t141).bind fun bt147 => (if t137 = 0 then ((formularybase_Decimal.f kj13 a0).bind fun t149 => (if t136.toList = t149.toList then (if t142 = 0 then ((formularybase_Integer.f a0).bind fun bt150 => (if (!(t138 == bt150.1) || (!(t139 == bt150.2.1) || (!(t140 == bt150.2.2.1) || (!(t141.toList == bt150.2.2.2.toList))))) = true then (none) else (if bt145.2 = 0 then (if bt145.1 = a0 then (if bt147.2 = 0 then (if bt147.1 = a0 then (formularylaw07_IntegersStrings.j2 kj13 a1_0 a1_1 a1_2 a1_3) else (none)) else (none)) else (none)) else (none)))) else (none)) else (none))) else (none)))) else (if t137 = t144 then (if t136.toList = ([] : List UInt8) then (if t142 = t144 then (if (!(t138 == 0) || (!(t139 == 0) || (!(t140 == 0) || (!(t141.toList == ([] : List UInt8)))))) = true then (none) else (formularylaw07_IntegersStrings.j2 kj13 a1_0 a1_1 a1_2 a1_3)) else (none)) else (none)) else (none)))) = some r := H
                have A20 := Aside0.mk A200
                clear A200
                replace H := Option.bind_eq_some_iff.mp H
                obtain ⟨t144, A210, H⟩ := H
                replace H : (if t144 = 0 then ((integers_ParseInteger.f t136).bind fun bt145 => ((integers_NumberOf.f kj13 t138 t139 t140 t141).bind fun bt147 => (if t137 = 0 then ((formularybase_Decimal.f kj13 a0).bind fun t149 => (if t136.toList = t149.toList then (if t142 = 0 then ((formularybase_Integer.f a0).bind fun bt150 => (if (!(t138 == bt150.1) || (!(t139 == bt150.2.1) || (!(t140 == bt150.2.2.1) || (!(t141.toList == bt150.2.2.2.toList))))) = true then (none) else (if bt145.2 = 0 then (if bt145.1 = a0 then (if bt147.2 = 0 then (if bt147.1 = a0 then (formularylaw07_IntegersStrings.j2 kj13 a1_0 a1_1 a1_2 a1_3) else (none)) else (none)) else (none)) else (none)))) else (none)) else (none))) else (none)))) else (if t137 = t144 then (if t136.toList = ([] : List UInt8) then (if t142 = t144 then (if (!(t138 == 0) || (!(t139 == 0) || (!(t140 == 0) || (!(t141.toList == ([] : List UInt8)))))) = true then (none) else (formularylaw07_IntegersStrings.j2 kj13 a1_0 a1_1 a1_2 a1_3)) else (none)) else (none)) else (none))) = some r := H
                have A21 := Aside0.mk A210
                clear A210
                have HC22 := Aside0.mk H
                clear H
                go_upto_if 63 with (first | ((with_reducible refine gate_callee (f := 7) rfl ?_); refine goesL_ (some 52) rfl rfl Tryd.func7 (by kernel_rfl) rfl #[.int .i64 a0] rfl (by (try simp only [List.map_toArray, List.map_cons, List.map_nil]); first | done | rfl | (simp only [List.length_drop, List.length_take]; rfl)) ?_; (with_reducible refine (integers_FormatInteger.callsG kj13 a0 t136 t137 _ (Gd.below hGd.out (by repeat (first | (with_reducible first | exact HB.out | apply below_alloc | apply pw_below_drewN | apply below_drew1 | refine below_set ?_ GE130.out) | exact HB.out))) A19.out).mono ?_); rintro e w23 ⟨rfl, hb⟩; refine ⟨_, rfl, ?_⟩; have n0_ := Aside0.mk (blk_below (g := gb130) (o := .cells #[.int .i64 a1_0, .int .u64 a1_1, .int .u64 a1_2, .string a1_3] 24 (0, 0)) (by (with_reducible repeat (first | refine blk_drewN ?_ _ | refine blk_drew ?_ | refine blk_alloc ?_ _)); exact BK130.out) hb); have n1_ := Aside0.mk (below_step (by repeat (first | (with_reducible first | exact HB.out | apply below_alloc | apply pw_below_drewN | apply below_drew1 | refine below_set ?_ GE130.out) | exact HB.out)) hb); clear BK130; clear HB; have BK130 := n0_; have HB := n1_; clear n0_ n1_; (try clear hb); (try clear hb2); (try clear hk); (try clear hi)) | ((with_reducible refine gate_callee (f := 8) rfl ?_); refine goesL_ (some 57) rfl rfl Tryd.func8 (by kernel_rfl) rfl #[.int .i64 a0] rfl (by (try simp only [List.map_toArray, List.map_cons, List.map_nil]); first | done | rfl | (simp only [List.length_drop, List.length_take]; rfl)) ?_; (with_reducible refine (integers_ValueOf.calls kj13 a0 t138 t139 t140 t141 t142 _ A20.out).mono ?_); rintro e w24 ⟨rfl, hb⟩; refine ⟨_, rfl, ?_⟩; have n0_ := Aside0.mk (blk_below (g := gb130) (o := .cells #[.int .i64 a1_0, .int .u64 a1_1, .int .u64 a1_2, .string a1_3] 24 (0, 0)) (by (with_reducible repeat (first | refine blk_drewN ?_ _ | refine blk_drew ?_ | refine blk_alloc ?_ _)); exact BK130.out) hb); have n1_ := Aside0.mk (below_step (by repeat (first | (with_reducible first | exact HB.out | apply below_alloc | apply pw_below_drewN | apply below_drew1 | refine below_set ?_ GE130.out) | exact HB.out)) hb); clear BK130; clear HB; have BK130 := n0_; have HB := n1_; clear n0_ n1_; (try clear hb); (try clear hb2); (try clear hk); (try clear hi)) | ((with_reducible refine gate_dst (N := 13) rfl ?_); (try (refine gate_guard (by rfl) ?_; dsimp only)); refine box_event ?hg (N := 13) ?hd (cs := #[.int .i64 0, .int .u64 0, .int .u64 0, .string (⟨#[]⟩ : ByteArray)]) (t := 24) ?hr ?_; (case hd => rfl); (case hg => rfl); (case hr => first | (go_simp; done) | (go_simp; rfl)); intro gb143 hg w25 hbox hb; have n0_ := Aside0.mk (blk_below (g := gb130) (o := .cells #[.int .i64 a1_0, .int .u64 a1_1, .int .u64 a1_2, .string a1_3] 24 (0, 0)) (by (with_reducible repeat (first | refine blk_drewN ?_ _ | refine blk_drew ?_ | refine blk_alloc ?_ _)); exact BK130.out) hb); have n1_ := Aside0.mk (below_step (by repeat (first | (with_reducible first | exact HB.out | apply below_alloc | apply pw_below_drewN | apply below_drew1 | refine below_set ?_ GE130.out) | exact HB.out)) hb); have n2_ := Aside0.mk (hbox); have n3_ := Aside0.mk ((by rw [hg]; exact (below_size (by repeat (first | (with_reducible first | exact HB.out | apply below_alloc | apply pw_below_drewN | apply below_drew1 | refine below_set ?_ GE130.out) | exact HB.out))) : w.heap.size ≤ gb143)); have n4_ := Aside0.mk ((by rw [hg]; exact (below_size (by repeat (first | (with_reducible first | exact HB.out | apply below_alloc | apply pw_below_drewN | apply below_drew1 | refine below_set ?_ GE130.out) | exact HB.out))) : w.heap.size ≤ gb143)); have n5_ := Aside0.mk ((by rw [hg]; exact Nat.ne_of_lt (blk_lt (g := gb130) (o := .cells #[.int .i64 a1_0, .int .u64 a1_1, .int .u64 a1_2, .string a1_3] 24 (0, 0)) (by (with_reducible repeat (first | refine blk_drewN ?_ _ | refine blk_drew ?_ | refine blk_alloc ?_ _)); exact BK130.out)) : gb130 ≠ gb143)); have n6_ := Aside0.mk ((by rw [hg]; exact Nat.ne_of_gt (blk_lt (g := gb130) (o := .cells #[.int .i64 a1_0, .int .u64 a1_1, .int .u64 a1_2, .string a1_3] 24 (0, 0)) (by (with_reducible repeat (first | refine blk_drewN ?_ _ | refine blk_drew ?_ | refine blk_alloc ?_ _)); exact BK130.out)) : gb143 ≠ gb130)); clear BK130; clear HB; have BK130 := n0_; have HB := n1_; have BK143 := n2_; have GW143 := n3_; have GE143 := n4_; have NB130_143 := n5_; have NB143_130 := n6_; clear n0_ n1_ n2_ n3_ n4_ n5_ n6_; clear hb hbox hg; have hnb26 := NB143_130.out; have hnc26 := NB130_143.out; have hcz27_0 : w25.cell? ⟨gb143, 0, none⟩ = some (.int .i64 0) := (blk_cell BK143.out 0).trans rfl; have hcz27_1 : w25.cell? ⟨gb143, 1, none⟩ = some (.int .u64 0) := (blk_cell BK143.out 1).trans rfl; have hcz27_2 : w25.cell? ⟨gb143, 2, none⟩ = some (.int .u64 0) := (blk_cell BK143.out 2).trans rfl; have hcz27_3 : w25.cell? ⟨gb143, 3, none⟩ = some (.string (⟨#[]⟩ : ByteArray)) := (blk_cell BK143.out 3).trans rfl; have hfz27_0 := blk_frozen BK143.out 0; have hfz27_1 := blk_frozen BK143.out 1; have hfz27_2 := blk_frozen BK143.out 2; have hfz27_3 := blk_frozen BK143.out 3) | ((with_reducible refine gate_callee (f := 9) rfl ?_); refine goesL_ (some 61) rfl rfl Tryd.func9 (by kernel_rfl) rfl #[.int .i64 a0] rfl (by (try simp only [List.map_toArray, List.map_cons, List.map_nil]); first | done | rfl | (simp only [List.length_drop, List.length_take]; rfl)) ?_; (with_reducible refine (formularyref07_NumberErr.calls a0 t144 _ A21.out).mono ?_); rintro e w' ⟨rfl, ⟨nd, rfl⟩⟩; refine ⟨_, rfl, ?_⟩))
                (try simp only [Act.put, List.setIfInBounds_toArray, List.set_cons_zero, List.set_cons_succ])
                go_cut [] (fun wc => ∃ (kq : Nat), Aside0 (formularylaw07_IntegersStrings.j2 kq a1_0 a1_1 a1_2 a1_3 = some r) ∧ Aside0 (kq ≤ kj13) ∧ Aside0 (wc.heap[gb130]? = some (.cells #[.int .i64 a1_0, .int .u64 a1_1, .int .u64 a1_2, .string a1_3] 24 (0, 0))) ∧ Aside0 (wc.heap[gb143]? = some (.cells #[.int .i64 t138, .int .u64 t139, .int .u64 t140, .string t141] 24 (0, 0))) ∧ Aside0 (Below w.heap.size w wc))
                case first =>
                  have H := HC22.out
                  clear HC22
                  by_cases c28 : t144 = 0
                  · rw [if_pos c28] at H
                    have c28b0 : (t144 == 0) = true := beq_iff_eq.mpr c28
                    have c28b1 : (t144 != 0) = false := bne_eq_false_iff_eq.mpr c28
                    clear c28
                    (first | rw [c28b0] | (simp only [i64_w, i32_w]; rw [c28b0]) | skip)
                    replace H := Option.bind_eq_some_iff.mp H
                    obtain ⟨⟨t145, t146⟩, A290, H⟩ := H
                    replace H : ((integers_NumberOf.f kj13 t138 t139 t140 t141).bind fun bt147 => (if t137 = 0 then ((formularybase_Decimal.f kj13 a0).bind fun t149 => (if t136.toList = t149.toList then (if t142 = 0 then ((formularybase_Integer.f a0).bind fun bt150 => (if (!(t138 == bt150.1) || (!(t139 == bt150.2.1) || (!(t140 == bt150.2.2.1) || (!(t141.toList == bt150.2.2.2.toList))))) = true then (none) else (if t146 = 0 then (if t145 = a0 then (if bt147.2 = 0 then (if bt147.1 = a0 then (formularylaw07_IntegersStrings.j2 kj13 a1_0 a1_1 a1_2 a1_3) else (none)) else (none)) else (none)) else (none)))) else (none)) else (none))) else (none))) = some r := H
                    have A29 := Aside0.mk A290
                    clear A290
                    replace H := Option.bind_eq_some_iff.mp H
                    obtain ⟨⟨t147, t148⟩, A300, H⟩ := H
                    replace H : (if t137 = 0 then ((formularybase_Decimal.f kj13 a0).bind fun t149 => (if t136.toList = t149.toList then (if t142 = 0 then ((formularybase_Integer.f a0).bind fun bt150 => (if (!(t138 == bt150.1) || (!(t139 == bt150.2.1) || (!(t140 == bt150.2.2.1) || (!(t141.toList == bt150.2.2.2.toList))))) = true then (none) else (if t146 = 0 then (if t145 = a0 then (if t148 = 0 then (if t147 = a0 then (formularylaw07_IntegersStrings.j2 kj13 a1_0 a1_1 a1_2 a1_3) else (none)) else (none)) else (none)) else (none)))) else (none)) else (none))) else (none)) = some r := H
                    have A30 := Aside0.mk A300
                    clear A300
                    by_cases c31 : t137 = 0
                    · rw [if_pos c31] at H
                      have c31b0 : (t137 == 0) = true := beq_iff_eq.mpr c31
                      have c31b1 : (t137 != 0) = false := bne_eq_false_iff_eq.mpr c31
                      clear c31
                      replace H := Option.bind_eq_some_iff.mp H
                      obtain ⟨t149, A320, H⟩ := H
                      replace H : (if t136.toList = t149.toList then (if t142 = 0 then ((formularybase_Integer.f a0).bind fun bt150 => (if (!(t138 == bt150.1) || (!(t139 == bt150.2.1) || (!(t140 == bt150.2.2.1) || (!(t141.toList == bt150.2.2.2.toList))))) = true then (none) else (if t146 = 0 then (if t145 = a0 then (if t148 = 0 then (if t147 = a0 then (formularylaw07_IntegersStrings.j2 kj13 a1_0 a1_1 a1_2 a1_3) else (none)) else (none)) else (none)) else (none)))) else (none)) else (none)) = some r := H
                      have A32 := Aside0.mk A320
                      clear A320
                      by_cases c33 : t136.toList = t149.toList
                      · rw [if_pos c33] at H
                        have c33b0 : (t136.toList == t149.toList) = true := beq_iff_eq.mpr c33
                        have c33b1 : (t136.toList != t149.toList) = false := bne_eq_false_iff_eq.mpr c33
                        clear c33
                        by_cases c34 : t142 = 0
                        · rw [if_pos c34] at H
                          have c34b0 : (t142 == 0) = true := beq_iff_eq.mpr c34
                          have c34b1 : (t142 != 0) = false := bne_eq_false_iff_eq.mpr c34
                          clear c34
                          replace H := Option.bind_eq_some_iff.mp H
                          obtain ⟨⟨t150, t151, t152, t153⟩, A350, H⟩ := H
                          replace H : (if (!(t138 == t150) || (!(t139 == t151) || (!(t140 == t152) || (!(t141.toList == t153.toList))))) = true then (none) else (if t146 = 0 then (if t145 = a0 then (if t148 = 0 then (if t147 = a0 then (formularylaw07_IntegersStrings.j2 kj13 a1_0 a1_1 a1_2 a1_3) else (none)) else (none)) else (none)) else (none))) = some r := H
                          have A35 := Aside0.mk A350
                          clear A350
                          by_cases c36 : (!(t138 == t150) || (!(t139 == t151) || (!(t140 == t152) || (!(t141.toList == t153.toList))))) = true
                          · rw [if_pos c36] at H
                            have c36b0 : (!(t138 == t150) || (!(t139 == t151) || (!(t140 == t152) || (!(t141.toList == t153.toList))))) = true := c36
                            clear c36
                            exact absurd H (by simp)
                          · rw [if_neg c36] at H
                            have c36b0 : (!(t138 == t150) || (!(t139 == t151) || (!(t140 == t152) || (!(t141.toList == t153.toList))))) = false := by simpa using c36
                            clear c36
                            by_cases c37 : t146 = 0
                            · rw [if_pos c37] at H
                              have c37b0 : (t146 == 0) = true := beq_iff_eq.mpr c37
                              have c37b1 : (t146 != 0) = false := bne_eq_false_iff_eq.mpr c37
                              clear c37
                              by_cases c38 : t145 = a0
                              · rw [if_pos c38] at H
                                have c38b0 : (t145 == a0) = true := beq_iff_eq.mpr c38
                                have c38b1 : (t145 != a0) = false := bne_eq_false_iff_eq.mpr c38
                                clear c38
                                by_cases c39 : t148 = 0
                                · rw [if_pos c39] at H
                                  have c39b0 : (t148 == 0) = true := beq_iff_eq.mpr c39
                                  have c39b1 : (t148 != 0) = false := bne_eq_false_iff_eq.mpr c39
                                  clear c39
                                  by_cases c40 : t147 = a0
                                  · rw [if_pos c40] at H
                                    have c40b0 : (t147 == a0) = true := beq_iff_eq.mpr c40
                                    have c40b1 : (t147 != a0) = false := bne_eq_false_iff_eq.mpr c40
                                    clear c40
                                    as_aux_lemma =>
                                      have H' := Aside0.mk H
                                      clear H
                                      try go_wp2_with (first | ((with_reducible refine gate_callee (f := 5) rfl ?_); refine goesL_ (some 83) rfl rfl Tryd.func5 (by kernel_rfl) rfl #[.string t136] rfl (by (try simp only [List.map_toArray, List.map_cons, List.map_nil]); first | done | rfl | (simp only [List.length_drop, List.length_take]; rfl)) ?_; (with_reducible refine (integers_ParseInteger.callsG t136 t145 t146 _ (Gd.below hGd.out (by repeat (first | (with_reducible first | exact HB.out | apply below_alloc | apply pw_below_drewN | apply below_drew1 | refine below_set ?_ GE130.out | refine below_set ?_ GE143.out) | exact HB.out))) A29.out).mono ?_); rintro e w41 ⟨rfl, hb⟩; refine ⟨_, rfl, ?_⟩; have n0_ := Aside0.mk (blk_below (g := gb130) (o := .cells #[.int .i64 a1_0, .int .u64 a1_1, .int .u64 a1_2, .string a1_3] 24 (0, 0)) (by (with_reducible repeat (first | refine blk_drewN ?_ _ | refine blk_drew ?_ | refine blk_alloc ?_ _)); refine blk_far ?_ NB130_143.out _; (with_reducible repeat (first | refine blk_drewN ?_ _ | refine blk_drew ?_ | refine blk_alloc ?_ _)); refine blk_far ?_ NB130_143.out _; (with_reducible repeat (first | refine blk_drewN ?_ _ | refine blk_drew ?_ | refine blk_alloc ?_ _)); refine blk_far ?_ NB130_143.out _; (with_reducible repeat (first | refine blk_drewN ?_ _ | refine blk_drew ?_ | refine blk_alloc ?_ _)); refine blk_far ?_ NB130_143.out _; (with_reducible repeat (first | refine blk_drewN ?_ _ | refine blk_drew ?_ | refine blk_alloc ?_ _)); exact BK130.out) hb); have n1_ := Aside0.mk (blk_below (g := gb143) (o := .cells #[.int .i64 t138, .int .u64 t139, .int .u64 t140, .string t141] 24 (0, 0)) (by (with_reducible repeat (first | refine blk_drewN ?_ _ | refine blk_drew ?_ | refine blk_alloc ?_ _)); refine blk_put (cs := #[.int .i64 t138, .int .u64 t139, .int .u64 t140, .string (⟨#[]⟩ : ByteArray)]) ?_ 3 _ rfl; (with_reducible repeat (first | refine blk_drewN ?_ _ | refine blk_drew ?_ | refine blk_alloc ?_ _)); refine blk_put (cs := #[.int .i64 t138, .int .u64 t139, .int .u64 0, .string (⟨#[]⟩ : ByteArray)]) ?_ 2 _ rfl; (with_reducible repeat (first | refine blk_drewN ?_ _ | refine blk_drew ?_ | refine blk_alloc ?_ _)); refine blk_put (cs := #[.int .i64 t138, .int .u64 0, .int .u64 0, .string (⟨#[]⟩ : ByteArray)]) ?_ 1 _ rfl; (with_reducible repeat (first | refine blk_drewN ?_ _ | refine blk_drew ?_ | refine blk_alloc ?_ _)); refine blk_put (cs := #[.int .i64 0, .int .u64 0, .int .u64 0, .string (⟨#[]⟩ : ByteArray)]) ?_ 0 _ rfl; (with_reducible repeat (first | refine blk_drewN ?_ _ | refine blk_drew ?_ | refine blk_alloc ?_ _)); exact BK143.out) hb); have n2_ := Aside0.mk (below_step (by repeat (first | (with_reducible first | exact HB.out | apply below_alloc | apply pw_below_drewN | apply below_drew1 | refine below_set ?_ GE130.out | refine below_set ?_ GE143.out) | exact HB.out)) hb); clear BK130; clear BK143; clear HB; have BK130 := n0_; have BK143 := n1_; have HB := n2_; clear n0_ n1_ n2_; (try clear hb); (try clear hb2); (try clear hk); (try clear hi); have hnb42 := NB143_130.out; have hnc42 := NB130_143.out; have hcz43_0 : w41.cell? ⟨gb143, 0, none⟩ = some (.int .i64 t138) := (blk_cell BK143.out 0).trans rfl; have hcz43_1 : w41.cell? ⟨gb143, 1, none⟩ = some (.int .u64 t139) := (blk_cell BK143.out 1).trans rfl; have hcz43_2 : w41.cell? ⟨gb143, 2, none⟩ = some (.int .u64 t140) := (blk_cell BK143.out 2).trans rfl; have hcz43_3 : w41.cell? ⟨gb143, 3, none⟩ = some (.string t141) := (blk_cell BK143.out 3).trans rfl; have hfz43_0 := blk_frozen BK143.out 0; have hfz43_1 := blk_frozen BK143.out 1; have hfz43_2 := blk_frozen BK143.out 2; have hfz43_3 := blk_frozen BK143.out 3) | ((with_reducible refine gate_callee (f := 10) rfl ?_); refine goesL_ (some 88) rfl rfl Tryd.func10 (by kernel_rfl) rfl #[.agg #[.int .i64 t138, .int .u64 t139, .int .u64 t140, .string t141]] rfl (by (try simp only [List.map_toArray, List.map_cons, List.map_nil]); first | done | rfl | (simp only [List.length_drop, List.length_take]; rfl)) ?_; (with_reducible refine (integers_NumberOf.calls kj13 t138 t139 t140 t141 t147 t148 _ A30.out).mono ?_); rintro e w44 ⟨rfl, hb⟩; refine ⟨_, rfl, ?_⟩; have n0_ := Aside0.mk (blk_below (g := gb130) (o := .cells #[.int .i64 a1_0, .int .u64 a1_1, .int .u64 a1_2, .string a1_3] 24 (0, 0)) (by (with_reducible repeat (first | refine blk_drewN ?_ _ | refine blk_drew ?_ | refine blk_alloc ?_ _)); exact BK130.out) hb); have n1_ := Aside0.mk (blk_below (g := gb143) (o := .cells #[.int .i64 t138, .int .u64 t139, .int .u64 t140, .string t141] 24 (0, 0)) (by (with_reducible repeat (first | refine blk_drewN ?_ _ | refine blk_drew ?_ | refine blk_alloc ?_ _)); exact BK143.out) hb); have n2_ := Aside0.mk (below_step (by repeat (first | (with_reducible first | exact HB.out | apply below_alloc | apply pw_below_drewN | apply below_drew1 | refine below_set ?_ GE130.out | refine below_set ?_ GE143.out) | exact HB.out)) hb); clear BK130; clear BK143; clear HB; have BK130 := n0_; have BK143 := n1_; have HB := n2_; clear n0_ n1_ n2_; (try clear hb); (try clear hb2); (try clear hk); (try clear hi)))
                                      have n0_ := Aside0.mk (blk_drew BK130.out)
                                      have n1_ := Aside0.mk (blk_drew BK143.out)
                                      have n2_ := Aside0.mk (below_drew1 HB.out)
                                      clear BK130
                                      clear BK143
                                      clear HB
                                      have BK130 := n0_
                                      have BK143 := n1_
                                      have HB := n2_
                                      clear n0_ n1_ n2_
                                      refine start_ (n := 36) (S := fun w' => w'.cell? ⟨gb143, 0, none⟩ = some (.int .i64 t138) ∧ w'.cell? ⟨gb143, 1, none⟩ = some (.int .u64 t139) ∧ w'.cell? ⟨gb143, 2, none⟩ = some (.int .u64 t140) ∧ w'.cell? ⟨gb143, 3, none⟩ = some (.string t141)) (ds := []) #[false, false, false, false, false, false, false, false, false, false, false, false, false, false, false, false, false, false, false, false, false, false, false, false, false, false, false, false, false, false, false, false, false, false, false, false] (by kernel_rfl) rfl rfl ⟨(blk_cell BK143.out 0).trans rfl, (blk_cell BK143.out 1).trans rfl, (blk_cell BK143.out 2).trans rfl, (blk_cell BK143.out 3).trans rfl⟩ (fun hHeld => ?_); refine with_tabW formularylaw07_IntegersStrings.tab17 formularylaw07_IntegersStrings.bits17 (fun HT_ HW_ => ?_)
                                      generalize w44.drew = w45 at BK130 BK143 HB hHeld ⊢
                                      refine pure_ (i := 0) (N := some 91) (v := ?_) (a' := ?_) #[true, false, false, false, false, false, false, false, false, false, false, false, false, false, false, false, false, false, false, false, false, false, false, false, false, false, false, false, false, false, false, false, false, false, false, false] rfl rfl (any_of HT_.out (by kernel_rfl)) (fun _ _ _ h => h) (Or.inl ⟨by rfl, ?_⟩) ?_ ?_
                                      rotate_left
                                      · intro w'
                                        go_simp
                                        with_reducible rfl
                                      rotate_left
                                      · simp only [Act.put, List.setIfInBounds_toArray, List.set_cons_zero, List.set_cons_succ, i64_w, i32_w]
                                        rfl
                                      refine pure_ (i := 1) (N := some 92) (v := ?_) (a' := ?_) #[true, true, false, false, false, false, false, false, false, false, false, false, false, false, false, false, false, false, false, false, false, false, false, false, false, false, false, false, false, false, false, false, false, false, false, false] rfl rfl (any_of HT_.out (by kernel_rfl)) (fun _ _ _ h => h) (Or.inl ⟨by rfl, ?_⟩) ?_ ?_
                                      rotate_left
                                      · intro w'
                                        go_simp
                                        with_reducible rfl
                                      rotate_left
                                      · simp only [Act.put, List.setIfInBounds_toArray, List.set_cons_zero, List.set_cons_succ, i64_w, i32_w]
                                        rfl
                                      refine pure_ (i := 2) (N := some 93) (v := ?_) (a' := ?_) #[true, true, true, false, false, false, false, false, false, false, false, false, false, false, false, false, false, false, false, false, false, false, false, false, false, false, false, false, false, false, false, false, false, false, false, false] rfl rfl (any_of HT_.out (by kernel_rfl)) (fun _ _ _ h => h) (Or.inl ⟨by rfl, ?_⟩) ?_ ?_
                                      rotate_left
                                      · intro w'
                                        go_simp
                                        with_reducible rfl
                                      rotate_left
                                      · simp only [Act.put, List.setIfInBounds_toArray, List.set_cons_zero, List.set_cons_succ, i64_w, i32_w]
                                        rfl
                                      refine pure_ (i := 3) (N := some 94) (v := ?_) (a' := ?_) #[true, true, true, true, false, false, false, false, false, false, false, false, false, false, false, false, false, false, false, false, false, false, false, false, false, false, false, false, false, false, false, false, false, false, false, false] rfl rfl (any_of HT_.out (by kernel_rfl)) (fun _ _ _ h => h) (Or.inl ⟨by rfl, ?_⟩) ?_ ?_
                                      rotate_left
                                      · intro w'
                                        go_simp
                                        with_reducible rfl
                                      rotate_left
                                      · simp only [Act.put, List.setIfInBounds_toArray, List.set_cons_zero, List.set_cons_succ, i64_w, i32_w]
                                        rfl
                                      refine pure_ (i := 4) (N := some 95) (v := ?_) (a' := ?_) #[true, true, true, true, true, false, false, false, false, false, false, false, false, false, false, false, false, false, false, false, false, false, false, false, false, false, false, false, false, false, false, false, false, false, false, false] rfl rfl (any_of HT_.out (by kernel_rfl)) (fun _ _ _ h => h) (Or.inl ⟨by rfl, ?_⟩) ?_ ?_
                                      rotate_left
                                      · intro w'
                                        go_simp
                                        with_reducible rfl
                                      rotate_left
                                      · simp only [Act.put, List.setIfInBounds_toArray, List.set_cons_zero, List.set_cons_succ, i64_w, i32_w]
                                        rfl
                                      refine one_ (i := 5) (N := some 96) #[true, true, true, true, true, true, false, false, false, false, false, false, false, false, false, false, false, false, false, false, false, false, false, false, false, false, false, false, false, false, false, false, false, false, false, false] rfl rfl (one_of HT_.out (by kernel_rfl)) (by decide) (fun K hK => ?_)
                                      refine goes_ Tryd.func11 (by kernel_rfl) rfl #[.int .i64 a0] (by rfl) rfl rfl (by (try simp only [List.map_toArray, List.map_cons, List.map_nil]); first | done | rfl | (simp only [List.length_drop, List.length_take]; rfl)) ?_
                                      with_reducible refine (formularybase_Decimal.calls kj13 a0 t149 _ A32.out).mono ?_
                                      rintro e w' ⟨rfl, ⟨nd, rfl⟩⟩
                                      refine ⟨_, rfl, ?_⟩
                                      refine hK.out _ _ ⟨(blk_cell BK143.out 0).trans rfl, (blk_cell BK143.out 1).trans rfl, (blk_cell BK143.out 2).trans rfl, (blk_cell BK143.out 3).trans rfl⟩ (fun hHeld => ?_)
                                      clear hK K
                                      refine norm_ (a' := ?_) ?_ ?_
                                      rotate_left
                                      · show Act.put _ (some 96) _ = _
                                        simp only [Act.put, List.setIfInBounds_toArray, List.set_cons_zero, List.set_cons_succ, i64_w, i32_w]
                                        rfl
                                      refine pure_ (i := 6) (N := some 97) (v := ?_) (a' := ?_) #[true, true, true, true, true, true, true, false, false, false, false, false, false, false, false, false, false, false, false, false, false, false, false, false, false, false, false, false, false, false, false, false, false, false, false, false] rfl rfl (any_of HT_.out (by kernel_rfl)) (fun _ _ _ h => h) (Or.inl ⟨by rfl, ?_⟩) ?_ ?_
                                      rotate_left
                                      · intro w'
                                        go_simp
                                        with_reducible rfl
                                      rotate_left
                                      · simp only [Act.put, List.setIfInBounds_toArray, List.set_cons_zero, List.set_cons_succ, i64_w, i32_w]
                                        rfl
                                      refine pure_ (i := 7) (N := some 98) (v := ?_) (a' := ?_) #[true, true, true, true, true, true, true, true, false, false, false, false, false, false, false, false, false, false, false, false, false, false, false, false, false, false, false, false, false, false, false, false, false, false, false, false] rfl rfl (any_of HT_.out (by kernel_rfl)) (fun _ _ _ h => h) (Or.inl ⟨by rfl, ?_⟩) ?_ ?_
                                      rotate_left
                                      · intro w'
                                        go_simp
                                        with_reducible rfl
                                      rotate_left
                                      · simp only [Act.put, List.setIfInBounds_toArray, List.set_cons_zero, List.set_cons_succ, i64_w, i32_w]
                                        rfl
                                      refine pure_ (i := 8) (N := some 99) (v := ?_) (a' := ?_) #[true, true, true, true, true, true, true, true, true, false, false, false, false, false, false, false, false, false, false, false, false, false, false, false, false, false, false, false, false, false, false, false, false, false, false, false] rfl rfl (any_of HT_.out (by kernel_rfl)) (fun _ _ _ h => h) (Or.inl ⟨by rfl, ?_⟩) ?_ ?_
                                      rotate_left
                                      · intro w'
                                        go_simp
                                        with_reducible rfl
                                      rotate_left
                                      · simp only [Act.put, List.setIfInBounds_toArray, List.set_cons_zero, List.set_cons_succ, i64_w, i32_w]
                                        rfl
                                      refine pure_ (i := 9) (N := some 100) (v := ?_) (a' := ?_) #[true, true, true, true, true, true, true, true, true, true, false, false, false, false, false, false, false, false, false, false, false, false, false, false, false, false, false, false, false, false, false, false, false, false, false, false] rfl rfl (any_of HT_.out (by kernel_rfl)) (fun _ _ _ h => h) (Or.inl ⟨by rfl, ?_⟩) ?_ ?_
                                      rotate_left
                                      · intro w'
                                        go_simp
                                        with_reducible rfl
                                      rotate_left
                                      · simp only [Act.put, List.setIfInBounds_toArray, List.set_cons_zero, List.set_cons_succ, i64_w, i32_w]
                                        rfl
                                      refine pure_ (i := 10) (N := some 101) (v := ?_) (a' := ?_) #[true, true, true, true, true, true, true, true, true, true, true, false, false, false, false, false, false, false, false, false, false, false, false, false, false, false, false, false, false, false, false, false, false, false, false, false] rfl rfl (any_of HT_.out (by kernel_rfl)) (fun _ _ _ h => h) (Or.inl ⟨by rfl, ?_⟩) ?_ ?_
                                      rotate_left
                                      · intro w'
                                        go_simp
                                        with_reducible rfl
                                      rotate_left
                                      · simp only [Act.put, List.setIfInBounds_toArray, List.set_cons_zero, List.set_cons_succ, i64_w, i32_w]
                                        rfl
                                      refine pure_ (i := 11) (N := some 102) (v := ?_) (a' := ?_) #[true, true, true, true, true, true, true, true, true, true, true, true, false, false, false, false, false, false, false, false, false, false, false, false, false, false, false, false, false, false, false, false, false, false, false, false] rfl rfl (any_of HT_.out (by kernel_rfl)) (fun _ _ _ h => h) (Or.inl ⟨by rfl, ?_⟩) ?_ ?_
                                      rotate_left
                                      · intro w'
                                        go_simp
                                        with_reducible rfl
                                      rotate_left
                                      · simp only [Act.put, List.setIfInBounds_toArray, List.set_cons_zero, List.set_cons_succ, i64_w, i32_w]
                                        rfl
                                      refine pure_ (i := 12) (N := some 103) (v := ?_) (a' := ?_) #[true, true, true, true, true, true, true, true, true, true, true, true, true, false, false, false, false, false, false, false, false, false, false, false, false, false, false, false, false, false, false, false, false, false, false, false] rfl rfl (any_of HT_.out (by kernel_rfl)) (fun _ _ _ h => h) (Or.inl ⟨by rfl, ?_⟩) ?_ ?_
                                      rotate_left
                                      · intro w'
                                        go_simp
                                        with_reducible rfl
                                      rotate_left
                                      · simp only [Act.put, List.setIfInBounds_toArray, List.set_cons_zero, List.set_cons_succ, i64_w, i32_w]
                                        rfl
                                      refine pure_ (i := 14) (N := some 105) (v := ?_) (a' := ?_) #[true, true, true, true, true, true, true, true, true, true, true, true, true, false, true, false, false, false, false, false, false, false, false, false, false, false, false, false, false, false, false, false, false, false, false, false] rfl rfl (any_of HT_.out (by kernel_rfl)) (fun _ _ _ h => h) (Or.inl ⟨by rfl, ?_⟩) ?_ ?_
                                      rotate_left
                                      · intro w'
                                        go_simp
                                        with_reducible rfl
                                      rotate_left
                                      · simp only [Act.put, List.setIfInBounds_toArray, List.set_cons_zero, List.set_cons_succ, i64_w, i32_w]
                                        rfl
                                      refine take_ (i := 13) (N := some 104) (v := ?_) (a' := ?_) #[true, true, true, true, true, true, true, true, true, true, true, true, true, true, true, false, false, false, false, false, false, false, false, false, false, false, false, false, false, false, false, false, false, false, false, false] rfl rfl (take_ofW HT_.out HW_.out (by kernel_rfl)) (fun _ _ _ h => h) (Or.inl ⟨by rfl, ?_⟩) hHeld ?_ ?_
                                      rotate_left
                                      · rintro w' ⟨s0, s1, s2, s3⟩
                                        go_simp
                                        with_reducible rfl
                                      rotate_left
                                      · simp only [Act.put, List.setIfInBounds_toArray, List.set_cons_zero, List.set_cons_succ, i64_w, i32_w]
                                        rfl
                                      refine one_ (i := 15) (N := some 106) #[true, true, true, true, true, true, true, true, true, true, true, true, true, true, true, true, false, false, false, false, false, false, false, false, false, false, false, false, false, false, false, false, false, false, false, false] rfl rfl (one_of HT_.out (by kernel_rfl)) (by decide) (fun K hK => ?_)
                                      refine goes_ Tryd.func12 (by kernel_rfl) rfl #[.int .i64 a0] (by rfl) rfl rfl (by (try simp only [List.map_toArray, List.map_cons, List.map_nil]); first | done | rfl | (simp only [List.length_drop, List.length_take]; rfl)) ?_
                                      with_reducible refine (formularybase_Integer.calls a0 t150 t151 t152 t153 _ A35.out).mono ?_
                                      rintro e w46 ⟨rfl, hb⟩
                                      refine ⟨_, rfl, ?_⟩
                                      have n0_ := Aside0.mk (blk_below (g := gb130) (o := .cells #[.int .i64 a1_0, .int .u64 a1_1, .int .u64 a1_2, .string a1_3] 24 (0, 0)) (by (with_reducible repeat (first | refine blk_drewN ?_ _ | refine blk_drew ?_ | refine blk_alloc ?_ _)); exact BK130.out) hb)
                                      have n1_ := Aside0.mk (blk_below (g := gb143) (o := .cells #[.int .i64 t138, .int .u64 t139, .int .u64 t140, .string t141] 24 (0, 0)) (by (with_reducible repeat (first | refine blk_drewN ?_ _ | refine blk_drew ?_ | refine blk_alloc ?_ _)); exact BK143.out) hb)
                                      have n2_ := Aside0.mk (below_step (by repeat (first | (with_reducible first | exact HB.out | apply below_alloc | apply pw_below_drewN | apply below_drew1 | refine below_set ?_ GE130.out | refine below_set ?_ GE143.out) | exact HB.out)) hb)
                                      clear BK130
                                      clear BK143
                                      clear HB
                                      have BK130 := n0_
                                      have BK143 := n1_
                                      have HB := n2_
                                      clear n0_ n1_ n2_
                                      (try clear hb)
                                      (try clear hb2)
                                      (try clear hk)
                                      (try clear hi)
                                      refine hK.out _ _ ⟨(blk_cell BK143.out 0).trans rfl, (blk_cell BK143.out 1).trans rfl, (blk_cell BK143.out 2).trans rfl, (blk_cell BK143.out 3).trans rfl⟩ (fun hHeld => ?_)
                                      clear hK K
                                      refine norm_ (a' := ?_) ?_ ?_
                                      rotate_left
                                      · show Act.put _ (some 106) _ = _
                                        simp only [Act.put, List.setIfInBounds_toArray, List.set_cons_zero, List.set_cons_succ, i64_w, i32_w]
                                        rfl
                                      refine pure_ (i := 16) (N := some 107) (v := ?_) (a' := ?_) #[true, true, true, true, true, true, true, true, true, true, true, true, true, true, true, true, true, false, false, false, false, false, false, false, false, false, false, false, false, false, false, false, false, false, false, false] rfl rfl (any_of HT_.out (by kernel_rfl)) (fun _ _ _ h => h) (Or.inl ⟨by rfl, ?_⟩) ?_ ?_
                                      rotate_left
                                      · intro w'
                                        go_simp
                                        with_reducible rfl
                                      rotate_left
                                      · simp only [Act.put, List.setIfInBounds_toArray, List.set_cons_zero, List.set_cons_succ, i64_w, i32_w]
                                        rfl
                                      refine pure_ (i := 17) (N := some 108) (v := ?_) (a' := ?_) #[true, true, true, true, true, true, true, true, true, true, true, true, true, true, true, true, true, true, false, false, false, false, false, false, false, false, false, false, false, false, false, false, false, false, false, false] rfl rfl (any_of HT_.out (by kernel_rfl)) (fun _ _ _ h => h) (Or.inl ⟨by rfl, ?_⟩) ?_ ?_
                                      rotate_left
                                      · intro w'
                                        go_simp
                                        with_reducible rfl
                                      rotate_left
                                      · simp only [Act.put, List.setIfInBounds_toArray, List.set_cons_zero, List.set_cons_succ, i64_w, i32_w]
                                        rfl
                                      refine pure_ (i := 18) (N := some 109) (v := ?_) (a' := ?_) #[true, true, true, true, true, true, true, true, true, true, true, true, true, true, true, true, true, true, true, false, false, false, false, false, false, false, false, false, false, false, false, false, false, false, false, false] rfl rfl (any_of HT_.out (by kernel_rfl)) (fun _ _ _ h => h) (Or.inl ⟨by rfl, ?_⟩) ?_ ?_
                                      rotate_left
                                      · intro w'
                                        go_simp
                                        with_reducible rfl
                                      rotate_left
                                      · simp only [Act.put, List.setIfInBounds_toArray, List.set_cons_zero, List.set_cons_succ, i64_w, i32_w]
                                        rfl
                                      refine pure_ (i := 19) (N := some 110) (v := ?_) (a' := ?_) #[true, true, true, true, true, true, true, true, true, true, true, true, true, true, true, true, true, true, true, true, false, false, false, false, false, false, false, false, false, false, false, false, false, false, false, false] rfl rfl (any_of HT_.out (by kernel_rfl)) (fun _ _ _ h => h) (Or.inl ⟨by rfl, ?_⟩) ?_ ?_
                                      rotate_left
                                      · intro w'
                                        go_simp
                                        with_reducible rfl
                                      rotate_left
                                      · simp only [Act.put, List.setIfInBounds_toArray, List.set_cons_zero, List.set_cons_succ, i64_w, i32_w]
                                        rfl
                                      refine pure_ (i := 20) (N := some 111) (v := ?_) (a' := ?_) #[true, true, true, true, true, true, true, true, true, true, true, true, true, true, true, true, true, true, true, true, true, false, false, false, false, false, false, false, false, false, false, false, false, false, false, false] rfl rfl (any_of HT_.out (by kernel_rfl)) (fun _ _ _ h => h) (Or.inl ⟨by rfl, ?_⟩) ?_ ?_
                                      rotate_left
                                      · intro w'
                                        go_simp
                                        with_reducible rfl
                                      rotate_left
                                      · simp only [Act.put, List.setIfInBounds_toArray, List.set_cons_zero, List.set_cons_succ, i64_w, i32_w]
                                        rfl
                                      refine pure_ (i := 21) (N := some 112) (v := ?_) (a' := ?_) #[true, true, true, true, true, true, true, true, true, true, true, true, true, true, true, true, true, true, true, true, true, true, false, false, false, false, false, false, false, false, false, false, false, false, false, false] rfl rfl (any_of HT_.out (by kernel_rfl)) (fun _ _ _ h => h) (Or.inl ⟨by rfl, ?_⟩) ?_ ?_
                                      rotate_left
                                      · intro w'
                                        go_simp
                                        with_reducible rfl
                                      rotate_left
                                      · simp only [Act.put, List.setIfInBounds_toArray, List.set_cons_zero, List.set_cons_succ, i64_w, i32_w]
                                        rfl
                                      refine pure_ (i := 22) (N := some 113) (v := ?_) (a' := ?_) #[true, true, true, true, true, true, true, true, true, true, true, true, true, true, true, true, true, true, true, true, true, true, true, false, false, false, false, false, false, false, false, false, false, false, false, false] rfl rfl (any_of HT_.out (by kernel_rfl)) (fun _ _ _ h => h) (Or.inl ⟨by rfl, ?_⟩) ?_ ?_
                                      rotate_left
                                      · intro w'
                                        go_simp
                                        with_reducible rfl
                                      rotate_left
                                      · simp only [Act.put, List.setIfInBounds_toArray, List.set_cons_zero, List.set_cons_succ, i64_w, i32_w]
                                        rfl
                                      refine pure_ (i := 23) (N := some 114) (v := ?_) (a' := ?_) #[true, true, true, true, true, true, true, true, true, true, true, true, true, true, true, true, true, true, true, true, true, true, true, true, false, false, false, false, false, false, false, false, false, false, false, false] rfl rfl (any_of HT_.out (by kernel_rfl)) (fun _ _ _ h => h) (Or.inl ⟨by rfl, ?_⟩) ?_ ?_
                                      rotate_left
                                      · intro w'
                                        go_simp
                                        with_reducible rfl
                                      rotate_left
                                      · simp only [Act.put, List.setIfInBounds_toArray, List.set_cons_zero, List.set_cons_succ, i64_w, i32_w]
                                        rfl
                                      refine pure_ (i := 24) (N := some 115) (v := ?_) (a' := ?_) #[true, true, true, true, true, true, true, true, true, true, true, true, true, true, true, true, true, true, true, true, true, true, true, true, true, false, false, false, false, false, false, false, false, false, false, false] rfl rfl (any_of HT_.out (by kernel_rfl)) (fun _ _ _ h => h) (Or.inl ⟨by rfl, ?_⟩) ?_ ?_
                                      rotate_left
                                      · intro w'
                                        go_simp
                                        with_reducible rfl
                                      rotate_left
                                      · simp only [Act.put, List.setIfInBounds_toArray, List.set_cons_zero, List.set_cons_succ, i64_w, i32_w]
                                        rfl
                                      refine pure_ (i := 25) (N := some 116) (v := ?_) (a' := ?_) #[true, true, true, true, true, true, true, true, true, true, true, true, true, true, true, true, true, true, true, true, true, true, true, true, true, true, false, false, false, false, false, false, false, false, false, false] rfl rfl (any_of HT_.out (by kernel_rfl)) (fun _ _ _ h => h) (Or.inl ⟨by rfl, ?_⟩) ?_ ?_
                                      rotate_left
                                      · intro w'
                                        go_simp
                                        with_reducible rfl
                                      rotate_left
                                      · simp only [Act.put, List.setIfInBounds_toArray, List.set_cons_zero, List.set_cons_succ, i64_w, i32_w]
                                        rfl
                                      refine pure_ (i := 26) (N := some 117) (v := ?_) (a' := ?_) #[true, true, true, true, true, true, true, true, true, true, true, true, true, true, true, true, true, true, true, true, true, true, true, true, true, true, true, false, false, false, false, false, false, false, false, false] rfl rfl (any_of HT_.out (by kernel_rfl)) (fun _ _ _ h => h) (Or.inl ⟨by rfl, ?_⟩) ?_ ?_
                                      rotate_left
                                      · intro w'
                                        go_simp
                                        with_reducible rfl
                                      rotate_left
                                      · simp only [Act.put, List.setIfInBounds_toArray, List.set_cons_zero, List.set_cons_succ, i64_w, i32_w]
                                        rfl
                                      refine pure_ (i := 27) (N := some 118) (v := ?_) (a' := ?_) #[true, true, true, true, true, true, true, true, true, true, true, true, true, true, true, true, true, true, true, true, true, true, true, true, true, true, true, true, false, false, false, false, false, false, false, false] rfl rfl (any_of HT_.out (by kernel_rfl)) (fun _ _ _ h => h) (Or.inl ⟨by rfl, ?_⟩) ?_ ?_
                                      rotate_left
                                      · intro w'
                                        go_simp
                                        with_reducible rfl
                                      rotate_left
                                      · simp only [Act.put, List.setIfInBounds_toArray, List.set_cons_zero, List.set_cons_succ, i64_w, i32_w]
                                        rfl
                                      refine pure_ (i := 28) (N := some 119) (v := ?_) (a' := ?_) #[true, true, true, true, true, true, true, true, true, true, true, true, true, true, true, true, true, true, true, true, true, true, true, true, true, true, true, true, true, false, false, false, false, false, false, false] rfl rfl (any_of HT_.out (by kernel_rfl)) (fun _ _ _ h => h) (Or.inl ⟨by rfl, ?_⟩) ?_ ?_
                                      rotate_left
                                      · intro w'
                                        go_simp
                                        with_reducible rfl
                                      rotate_left
                                      · simp only [Act.put, List.setIfInBounds_toArray, List.set_cons_zero, List.set_cons_succ, i64_w, i32_w]
                                        rfl
                                      refine pure_ (i := 29) (N := some 120) (v := ?_) (a' := ?_) #[true, true, true, true, true, true, true, true, true, true, true, true, true, true, true, true, true, true, true, true, true, true, true, true, true, true, true, true, true, true, false, false, false, false, false, false] rfl rfl (any_of HT_.out (by kernel_rfl)) (fun _ _ _ h => h) (Or.inl ⟨by rfl, ?_⟩) ?_ ?_
                                      rotate_left
                                      · intro w'
                                        go_simp
                                        with_reducible rfl
                                      rotate_left
                                      · simp only [Act.put, List.setIfInBounds_toArray, List.set_cons_zero, List.set_cons_succ, i64_w, i32_w]
                                        rfl
                                      refine pure_ (i := 30) (N := some 121) (v := ?_) (a' := ?_) #[true, true, true, true, true, true, true, true, true, true, true, true, true, true, true, true, true, true, true, true, true, true, true, true, true, true, true, true, true, true, true, false, false, false, false, false] rfl rfl (any_of HT_.out (by kernel_rfl)) (fun _ _ _ h => h) (Or.inl ⟨by rfl, ?_⟩) ?_ ?_
                                      rotate_left
                                      · intro w'
                                        go_simp
                                        with_reducible rfl
                                      rotate_left
                                      · simp only [Act.put, List.setIfInBounds_toArray, List.set_cons_zero, List.set_cons_succ, i64_w, i32_w]
                                        rfl
                                      refine pure_ (i := 31) (N := some 122) (v := ?_) (a' := ?_) #[true, true, true, true, true, true, true, true, true, true, true, true, true, true, true, true, true, true, true, true, true, true, true, true, true, true, true, true, true, true, true, true, false, false, false, false] rfl rfl (any_of HT_.out (by kernel_rfl)) (fun _ _ _ h => h) (Or.inl ⟨by rfl, ?_⟩) ?_ ?_
                                      rotate_left
                                      · intro w'
                                        go_simp
                                        with_reducible rfl
                                      rotate_left
                                      · simp only [Act.put, List.setIfInBounds_toArray, List.set_cons_zero, List.set_cons_succ, i64_w, i32_w]
                                        rfl
                                      refine pure_ (i := 32) (N := some 123) (v := ?_) (a' := ?_) #[true, true, true, true, true, true, true, true, true, true, true, true, true, true, true, true, true, true, true, true, true, true, true, true, true, true, true, true, true, true, true, true, true, false, false, false] rfl rfl (any_of HT_.out (by kernel_rfl)) (fun _ _ _ h => h) (Or.inl ⟨by rfl, ?_⟩) ?_ ?_
                                      rotate_left
                                      · intro w'
                                        go_simp
                                        with_reducible rfl
                                      rotate_left
                                      · simp only [Act.put, List.setIfInBounds_toArray, List.set_cons_zero, List.set_cons_succ, i64_w, i32_w]
                                        rfl
                                      refine pure_ (i := 33) (N := some 124) (v := ?_) (a' := ?_) #[true, true, true, true, true, true, true, true, true, true, true, true, true, true, true, true, true, true, true, true, true, true, true, true, true, true, true, true, true, true, true, true, true, true, false, false] rfl rfl (any_of HT_.out (by kernel_rfl)) (fun _ _ _ h => h) (Or.inl ⟨by rfl, ?_⟩) ?_ ?_
                                      rotate_left
                                      · intro w'
                                        go_simp
                                        with_reducible rfl
                                      rotate_left
                                      · simp only [Act.put, List.setIfInBounds_toArray, List.set_cons_zero, List.set_cons_succ, i64_w, i32_w]
                                        rfl
                                      refine pure_ (i := 34) (N := some 125) (v := ?_) (a' := ?_) #[true, true, true, true, true, true, true, true, true, true, true, true, true, true, true, true, true, true, true, true, true, true, true, true, true, true, true, true, true, true, true, true, true, true, true, false] rfl rfl (any_of HT_.out (by kernel_rfl)) (fun _ _ _ h => h) (Or.inl ⟨by rfl, ?_⟩) ?_ ?_
                                      rotate_left
                                      · intro w'
                                        go_simp
                                        with_reducible rfl
                                      rotate_left
                                      · simp only [Act.put, List.setIfInBounds_toArray, List.set_cons_zero, List.set_cons_succ, i64_w, i32_w]
                                        rfl
                                      refine pure_ (i := 35) (N := some 126) (v := ?_) (a' := ?_) #[true, true, true, true, true, true, true, true, true, true, true, true, true, true, true, true, true, true, true, true, true, true, true, true, true, true, true, true, true, true, true, true, true, true, true, true] rfl rfl (any_of HT_.out (by kernel_rfl)) (fun _ _ _ h => h) (Or.inl ⟨by rfl, ?_⟩) ?_ ?_
                                      rotate_left
                                      · intro w'
                                        go_simp
                                        with_reducible rfl
                                      rotate_left
                                      · simp only [Act.put, List.setIfInBounds_toArray, List.set_cons_zero, List.set_cons_succ, i64_w, i32_w]
                                        rfl
                                      refine done_ (done_of HT_.out (by kernel_rfl)) ?_
                                      try go_wp2
                                      go_meet
                                      case rel => exact ⟨_, H', ⟨by have := HJ5.out; have := HJ13.out; first | omega | exact Nat.le_refl _⟩, ⟨by (with_reducible repeat (first | refine blk_drewN ?_ _ | refine blk_drew ?_ | refine blk_alloc ?_ _)); exact BK130.out⟩, ⟨by (with_reducible repeat (first | refine blk_drewN ?_ _ | refine blk_drew ?_ | refine blk_alloc ?_ _)); exact BK143.out⟩, ⟨by repeat (first | (with_reducible first | exact HB.out | apply below_alloc | apply pw_below_drewN | apply below_drew1 | refine below_set ?_ GE130.out | refine below_set ?_ GE143.out) | exact HB.out)⟩⟩
                                  · rw [if_neg c40] at H
                                    exact absurd H (by simp)
                                · rw [if_neg c39] at H
                                  have c39b0 : (t148 == 0) = false := beq_eq_false_iff_ne.mpr c39
                                  have c39b1 : (t148 != 0) = true := bne_iff_ne.mpr c39
                                  exact absurd H (by simp)
                              · rw [if_neg c38] at H
                                have c38b0 : (t145 == a0) = false := beq_eq_false_iff_ne.mpr c38
                                have c38b1 : (t145 != a0) = true := bne_iff_ne.mpr c38
                                exact absurd H (by simp)
                            · rw [if_neg c37] at H
                              have c37b0 : (t146 == 0) = false := beq_eq_false_iff_ne.mpr c37
                              have c37b1 : (t146 != 0) = true := bne_iff_ne.mpr c37
                              exact absurd H (by simp)
                        · rw [if_neg c34] at H
                          have c34b0 : (t142 == 0) = false := beq_eq_false_iff_ne.mpr c34
                          have c34b1 : (t142 != 0) = true := bne_iff_ne.mpr c34
                          exact absurd H (by simp)
                      · rw [if_neg c33] at H
                        have c33b0 : (t136.toList == t149.toList) = false := beq_eq_false_iff_ne.mpr c33
                        have c33b1 : (t136.toList != t149.toList) = true := bne_iff_ne.mpr c33
                        exact absurd H (by simp)
                    · rw [if_neg c31] at H
                      have c31b0 : (t137 == 0) = false := beq_eq_false_iff_ne.mpr c31
                      have c31b1 : (t137 != 0) = true := bne_iff_ne.mpr c31
                      exact absurd H (by simp)
                  · rw [if_neg c28] at H
                    have c28b0 : (t144 == 0) = false := beq_eq_false_iff_ne.mpr c28
                    have c28b1 : (t144 != 0) = true := bne_iff_ne.mpr c28
                    (first | rw [c28b0] | (simp only [i64_w, i32_w]; rw [c28b0]) | skip)
                    by_cases c47 : t137 = t144
                    · rw [if_pos c47] at H
                      have c47b0 : (t137 == t144) = true := beq_iff_eq.mpr c47
                      have c47b1 : (t137 != t144) = false := bne_eq_false_iff_eq.mpr c47
                      clear c47
                      by_cases c48 : t136.toList = ([] : List UInt8)
                      · rw [if_pos c48] at H
                        have c48b0 : (t136.toList == ([] : List UInt8)) = true := beq_iff_eq.mpr c48
                        have c48b1 : (t136.toList != ([] : List UInt8)) = false := bne_eq_false_iff_eq.mpr c48
                        clear c48
                        by_cases c49 : t142 = t144
                        · rw [if_pos c49] at H
                          have c49b0 : (t142 == t144) = true := beq_iff_eq.mpr c49
                          have c49b1 : (t142 != t144) = false := bne_eq_false_iff_eq.mpr c49
                          clear c49
                          by_cases c50 : (!(t138 == 0) || (!(t139 == 0) || (!(t140 == 0) || (!(t141.toList == ([] : List UInt8)))))) = true
                          · rw [if_pos c50] at H
                            exact absurd H (by simp)
                          · rw [if_neg c50] at H
                            have c50b0 : (!(t138 == 0) || (!(t139 == 0) || (!(t140 == 0) || (!(t141.toList.isEmpty))))) = false := by simpa using c50
                            clear c50
                            as_aux_lemma =>
                              have H' := Aside0.mk H
                              clear H
                              have hnb51 := NB143_130.out
                              have hnc51 := NB130_143.out
                              have hcz52_0 : w25.cell? ⟨gb143, 0, none⟩ = some (.int .i64 0) := (blk_cell BK143.out 0).trans rfl
                              have hcz52_1 : w25.cell? ⟨gb143, 1, none⟩ = some (.int .u64 0) := (blk_cell BK143.out 1).trans rfl
                              have hcz52_2 : w25.cell? ⟨gb143, 2, none⟩ = some (.int .u64 0) := (blk_cell BK143.out 2).trans rfl
                              have hcz52_3 : w25.cell? ⟨gb143, 3, none⟩ = some (.string (⟨#[]⟩ : ByteArray)) := (blk_cell BK143.out 3).trans rfl
                              have hfz52_0 := blk_frozen BK143.out 0
                              have hfz52_1 := blk_frozen BK143.out 1
                              have hfz52_2 := blk_frozen BK143.out 2
                              have hfz52_3 := blk_frozen BK143.out 3
                              go_wp2
                              go_meet
                              case rel => exact ⟨_, H', ⟨by have := HJ5.out; have := HJ13.out; first | omega | exact Nat.le_refl _⟩, ⟨by (with_reducible repeat (first | refine blk_drewN ?_ _ | refine blk_drew ?_ | refine blk_alloc ?_ _)); refine blk_far ?_ NB130_143.out _; (with_reducible repeat (first | refine blk_drewN ?_ _ | refine blk_drew ?_ | refine blk_alloc ?_ _)); refine blk_far ?_ NB130_143.out _; (with_reducible repeat (first | refine blk_drewN ?_ _ | refine blk_drew ?_ | refine blk_alloc ?_ _)); refine blk_far ?_ NB130_143.out _; (with_reducible repeat (first | refine blk_drewN ?_ _ | refine blk_drew ?_ | refine blk_alloc ?_ _)); refine blk_far ?_ NB130_143.out _; (with_reducible repeat (first | refine blk_drewN ?_ _ | refine blk_drew ?_ | refine blk_alloc ?_ _)); exact BK130.out⟩, ⟨by (with_reducible repeat (first | refine blk_drewN ?_ _ | refine blk_drew ?_ | refine blk_alloc ?_ _)); refine blk_put (cs := #[.int .i64 t138, .int .u64 t139, .int .u64 t140, .string (⟨#[]⟩ : ByteArray)]) ?_ 3 _ rfl; (with_reducible repeat (first | refine blk_drewN ?_ _ | refine blk_drew ?_ | refine blk_alloc ?_ _)); refine blk_put (cs := #[.int .i64 t138, .int .u64 t139, .int .u64 0, .string (⟨#[]⟩ : ByteArray)]) ?_ 2 _ rfl; (with_reducible repeat (first | refine blk_drewN ?_ _ | refine blk_drew ?_ | refine blk_alloc ?_ _)); refine blk_put (cs := #[.int .i64 t138, .int .u64 0, .int .u64 0, .string (⟨#[]⟩ : ByteArray)]) ?_ 1 _ rfl; (with_reducible repeat (first | refine blk_drewN ?_ _ | refine blk_drew ?_ | refine blk_alloc ?_ _)); refine blk_put (cs := #[.int .i64 0, .int .u64 0, .int .u64 0, .string (⟨#[]⟩ : ByteArray)]) ?_ 0 _ rfl; (with_reducible repeat (first | refine blk_drewN ?_ _ | refine blk_drew ?_ | refine blk_alloc ?_ _)); exact BK143.out⟩, ⟨by repeat (first | (with_reducible first | exact HB.out | apply below_alloc | apply pw_below_drewN | apply below_drew1 | refine below_set ?_ GE130.out | refine below_set ?_ GE143.out) | exact HB.out)⟩⟩
                        · rw [if_neg c49] at H
                          exact absurd H (by simp)
                      · rw [if_neg c48] at H
                        exact absurd H (by simp)
                    · rw [if_neg c47] at H
                      exact absurd H (by simp)
                case rest =>
                  clear HC22
                  try clear c1
                  try clear c2
                  try clear p2
                  try clear c3
                  try clear c4
                  try clear c5
                  try clear c6
                  try clear c7
                  try clear c8
                  try clear c9
                  try clear c9b0
                  try clear c9b1
                  try clear c10
                  try clear c11
                  try clear c12
                  try clear c17
                  try clear c17b0
                  try clear c17b1
                  try clear c18
                  try clear c26
                  try clear c28
                  try clear c28b0
                  try clear c28b1
                  try clear c31
                  try clear c31b0
                  try clear c31b1
                  try clear c33
                  try clear c33b0
                  try clear c33b1
                  try clear c34
                  try clear c34b0
                  try clear c34b1
                  try clear c36
                  try clear c36b0
                  try clear c37
                  try clear c37b0
                  try clear c37b1
                  try clear c38
                  try clear c38b0
                  try clear c38b1
                  try clear c39
                  try clear c39b0
                  try clear c39b1
                  try clear c40
                  try clear c40b0
                  try clear c40b1
                  try clear c42
                  try clear c47
                  try clear c47b0
                  try clear c47b1
                  try clear c48
                  try clear c48b0
                  try clear c48b1
                  try clear c49
                  try clear c49b0
                  try clear c49b1
                  try clear c50
                  try clear c50b0
                  try clear c51
                  try clear hcz10_0
                  try clear hcz10_1
                  try clear hcz10_2
                  try clear hcz10_3
                  try clear hcz27_0
                  try clear hcz27_1
                  try clear hcz27_2
                  try clear hcz27_3
                  try clear hcz43_0
                  try clear hcz43_1
                  try clear hcz43_2
                  try clear hcz43_3
                  try clear hcz52_0
                  try clear hcz52_1
                  try clear hcz52_2
                  try clear hcz52_3
                  try clear hfz10_0
                  try clear hfz10_1
                  try clear hfz10_2
                  try clear hfz10_3
                  try clear hfz27_0
                  try clear hfz27_1
                  try clear hfz27_2
                  try clear hfz27_3
                  try clear hfz43_0
                  try clear hfz43_1
                  try clear hfz43_2
                  try clear hfz43_3
                  try clear hfz52_0
                  try clear hfz52_1
                  try clear hfz52_2
                  try clear hfz52_3
                  try clear p2
                  obtain ⟨kq, HA, HJ21, BK130, BK143, HB⟩ := hcut
                  cases kq with
                  | zero => exact absurd HA.out (by simp [formularylaw07_IntegersStrings.j2])
                  | succ kj21 =>
                    have H := HA.out
                    clear HA
                    simp only [formularylaw07_IntegersStrings.j2] at H
                    replace H := Option.bind_eq_some_iff.mp H
                    obtain ⟨⟨t154, t155⟩, A530, H⟩ := H
                    replace H : (if a1_0 = 0 then (if a1_1 ≥ 4294967296 then (if t155 = 3 then (some (t154 == 0)) else (none)) else (if a1_2 = 0 then (if a1_3.toList = ([] : List UInt8) then (if t155 = 0 then ((formularybase_IntegerOf.f a1_0 a1_1 a1_2 a1_3).bind fun t156 => (some (t154 == t156))) else (none)) else (if t155 = 3 then (some (t154 == 0)) else (none))) else (if t155 = 3 then (some (t154 == 0)) else (none)))) else (if t155 = 27 then (some (t154 == 0)) else (none))) = some r := H
                    have A53 := Aside0.mk A530
                    clear A530
                    by_cases c54 : a1_0 = 0
                    · rw [if_pos c54] at H
                      have c54b0 : (a1_0 == 0) = true := beq_iff_eq.mpr c54
                      have c54b1 : (a1_0 != 0) = false := bne_eq_false_iff_eq.mpr c54
                      clear c54
                      by_cases c55 : a1_1 ≥ 4294967296
                      · rw [if_pos c55] at H
                        have c55b0 : decide (4294967296 ≤ a1_1) = true := decide_eq_true c55
                        clear c55
                        by_cases c56 : t155 = 3
                        · rw [if_pos c56] at H
                          have c56b0 : (t155 == 3) = true := beq_iff_eq.mpr c56
                          have c56b1 : (t155 != 3) = false := bne_eq_false_iff_eq.mpr c56
                          clear c56
                          as_aux_lemma =>
                            obtain rfl := Option.some.inj H
                            have hnb57 := NB130_143.out
                            have hnc57 := NB143_130.out
                            have hcz58_0 : wc.cell? ⟨gb130, 0, none⟩ = some (.int .i64 a1_0) := (blk_cell BK130.out 0).trans rfl
                            have hcz58_1 : wc.cell? ⟨gb130, 1, none⟩ = some (.int .u64 a1_1) := (blk_cell BK130.out 1).trans rfl
                            have hcz58_2 : wc.cell? ⟨gb130, 2, none⟩ = some (.int .u64 a1_2) := (blk_cell BK130.out 2).trans rfl
                            have hcz58_3 : wc.cell? ⟨gb130, 3, none⟩ = some (.string a1_3) := (blk_cell BK130.out 3).trans rfl
                            have hfz58_0 := blk_frozen BK130.out 0
                            have hfz58_1 := blk_frozen BK130.out 1
                            have hfz58_2 := blk_frozen BK130.out 2
                            have hfz58_3 := blk_frozen BK130.out 3
                            go_wp2_with (first | ((with_reducible refine gate_callee (f := 10) rfl ?_); refine goesL_ (some 129) rfl rfl Tryd.func10 (by kernel_rfl) rfl #[.agg #[.int .i64 a1_0, .int .u64 a1_1, .int .u64 a1_2, .string a1_3]] rfl (by (try simp only [List.map_toArray, List.map_cons, List.map_nil]); first | done | rfl | (simp only [List.length_drop, List.length_take]; rfl)) ?_; (with_reducible refine (integers_NumberOf.calls kj21 a1_0 a1_1 a1_2 a1_3 t154 t155 _ A53.out).mono ?_); rintro e w59 ⟨rfl, hb⟩; refine ⟨_, rfl, ?_⟩; have n0_ := Aside0.mk (blk_below (g := gb130) (o := .cells #[.int .i64 a1_0, .int .u64 a1_1, .int .u64 a1_2, .string a1_3] 24 (0, 0)) (by (with_reducible repeat (first | refine blk_drewN ?_ _ | refine blk_drew ?_ | refine blk_alloc ?_ _)); exact BK130.out) hb); have n1_ := Aside0.mk (blk_below (g := gb143) (o := .cells #[.int .i64 t138, .int .u64 t139, .int .u64 t140, .string t141] 24 (0, 0)) (by (with_reducible repeat (first | refine blk_drewN ?_ _ | refine blk_drew ?_ | refine blk_alloc ?_ _)); exact BK143.out) hb); have n2_ := Aside0.mk (below_step (by repeat (first | (with_reducible first | exact HB.out | apply below_alloc | apply pw_below_drewN | apply below_drew1 | refine below_set ?_ GE130.out | refine below_set ?_ GE143.out) | exact HB.out)) hb); clear BK130; clear BK143; clear HB; have BK130 := n0_; have BK143 := n1_; have HB := n2_; clear n0_ n1_ n2_; (try clear hb); (try clear hb2); (try clear hk); (try clear hi); have hcz60_0 : w59.cell? ⟨gb130, 0, none⟩ = some (.int .i64 a1_0) := (blk_cell BK130.out 0).trans rfl; have hcz60_1 : w59.cell? ⟨gb130, 1, none⟩ = some (.int .u64 a1_1) := (blk_cell BK130.out 1).trans rfl; have hcz60_2 : w59.cell? ⟨gb130, 2, none⟩ = some (.int .u64 a1_2) := (blk_cell BK130.out 2).trans rfl; have hcz60_3 : w59.cell? ⟨gb130, 3, none⟩ = some (.string a1_3) := (blk_cell BK130.out 3).trans rfl; have hfz60_0 := blk_frozen BK130.out 0; have hfz60_1 := blk_frozen BK130.out 1; have hfz60_2 := blk_frozen BK130.out 2; have hfz60_3 := blk_frozen BK130.out 3))
                            go_ret
                            exact ⟨by first | rfl | (simp [errW_none, errW_some] <;> rfl) | (simp [*, errW_none, errW_some] <;> rfl), by repeat (first | (with_reducible first | exact HB.out | apply below_alloc | apply pw_below_drewN | apply below_drew1 | refine below_set ?_ GE130.out | refine below_set ?_ GE143.out) | exact HB.out)⟩
                        · rw [if_neg c56] at H
                          exact absurd H (by simp)
                      · rw [if_neg c55] at H
                        have c55b0 : decide (4294967296 ≤ a1_1) = false := decide_eq_false c55
                        clear c55
                        by_cases c61 : a1_2 = 0
                        · rw [if_pos c61] at H
                          have c61b0 : (a1_2 == 0) = true := beq_iff_eq.mpr c61
                          have c61b1 : (a1_2 != 0) = false := bne_eq_false_iff_eq.mpr c61
                          clear c61
                          by_cases c62 : a1_3.toList = ([] : List UInt8)
                          · rw [if_pos c62] at H
                            have c62b0 : (a1_3.toList == ([] : List UInt8)) = true := beq_iff_eq.mpr c62
                            have c62b1 : (a1_3.toList != ([] : List UInt8)) = false := bne_eq_false_iff_eq.mpr c62
                            clear c62
                            by_cases c63 : t155 = 0
                            · rw [if_pos c63] at H
                              have c63b0 : (t155 == 0) = true := beq_iff_eq.mpr c63
                              have c63b1 : (t155 != 0) = false := bne_eq_false_iff_eq.mpr c63
                              clear c63
                              replace H := Option.bind_eq_some_iff.mp H
                              obtain ⟨t156, A640, H⟩ := H
                              replace H : (some (t154 == t156)) = some r := H
                              have A64 := Aside0.mk A640
                              clear A640
                              as_aux_lemma =>
                                obtain rfl := Option.some.inj H
                                have hnb65 := NB130_143.out
                                have hnc65 := NB143_130.out
                                have hcz66_0 : wc.cell? ⟨gb130, 0, none⟩ = some (.int .i64 a1_0) := (blk_cell BK130.out 0).trans rfl
                                have hcz66_1 : wc.cell? ⟨gb130, 1, none⟩ = some (.int .u64 a1_1) := (blk_cell BK130.out 1).trans rfl
                                have hcz66_2 : wc.cell? ⟨gb130, 2, none⟩ = some (.int .u64 a1_2) := (blk_cell BK130.out 2).trans rfl
                                have hcz66_3 : wc.cell? ⟨gb130, 3, none⟩ = some (.string a1_3) := (blk_cell BK130.out 3).trans rfl
                                have hfz66_0 := blk_frozen BK130.out 0
                                have hfz66_1 := blk_frozen BK130.out 1
                                have hfz66_2 := blk_frozen BK130.out 2
                                have hfz66_3 := blk_frozen BK130.out 3
                                go_wp2_with (first | ((with_reducible refine gate_callee (f := 10) rfl ?_); refine goesL_ (some 129) rfl rfl Tryd.func10 (by kernel_rfl) rfl #[.agg #[.int .i64 a1_0, .int .u64 a1_1, .int .u64 a1_2, .string a1_3]] rfl (by (try simp only [List.map_toArray, List.map_cons, List.map_nil]); first | done | rfl | (simp only [List.length_drop, List.length_take]; rfl)) ?_; (with_reducible refine (integers_NumberOf.calls kj21 a1_0 a1_1 a1_2 a1_3 t154 t155 _ A53.out).mono ?_); rintro e w67 ⟨rfl, hb⟩; refine ⟨_, rfl, ?_⟩; have n0_ := Aside0.mk (blk_below (g := gb130) (o := .cells #[.int .i64 a1_0, .int .u64 a1_1, .int .u64 a1_2, .string a1_3] 24 (0, 0)) (by (with_reducible repeat (first | refine blk_drewN ?_ _ | refine blk_drew ?_ | refine blk_alloc ?_ _)); exact BK130.out) hb); have n1_ := Aside0.mk (blk_below (g := gb143) (o := .cells #[.int .i64 t138, .int .u64 t139, .int .u64 t140, .string t141] 24 (0, 0)) (by (with_reducible repeat (first | refine blk_drewN ?_ _ | refine blk_drew ?_ | refine blk_alloc ?_ _)); exact BK143.out) hb); have n2_ := Aside0.mk (below_step (by repeat (first | (with_reducible first | exact HB.out | apply below_alloc | apply pw_below_drewN | apply below_drew1 | refine below_set ?_ GE130.out | refine below_set ?_ GE143.out) | exact HB.out)) hb); clear BK130; clear BK143; clear HB; have BK130 := n0_; have BK143 := n1_; have HB := n2_; clear n0_ n1_ n2_; (try clear hb); (try clear hb2); (try clear hk); (try clear hi); have hcz68_0 : w67.cell? ⟨gb130, 0, none⟩ = some (.int .i64 a1_0) := (blk_cell BK130.out 0).trans rfl; have hcz68_1 : w67.cell? ⟨gb130, 1, none⟩ = some (.int .u64 a1_1) := (blk_cell BK130.out 1).trans rfl; have hcz68_2 : w67.cell? ⟨gb130, 2, none⟩ = some (.int .u64 a1_2) := (blk_cell BK130.out 2).trans rfl; have hcz68_3 : w67.cell? ⟨gb130, 3, none⟩ = some (.string a1_3) := (blk_cell BK130.out 3).trans rfl; have hfz68_0 := blk_frozen BK130.out 0; have hfz68_1 := blk_frozen BK130.out 1; have hfz68_2 := blk_frozen BK130.out 2; have hfz68_3 := blk_frozen BK130.out 3) | (go_at_call 13; (with_reducible refine (formularybase_IntegerOf.calls a1_0 a1_1 a1_2 a1_3 t156 _ A64.out).mono ?_); rintro e w69 ⟨rfl, hb⟩; have n0_ := Aside0.mk (blk_below (g := gb130) (o := .cells #[.int .i64 a1_0, .int .u64 a1_1, .int .u64 a1_2, .string a1_3] 24 (0, 0)) (by (with_reducible repeat (first | refine blk_drewN ?_ _ | refine blk_drew ?_ | refine blk_alloc ?_ _)); exact BK130.out) hb); have n1_ := Aside0.mk (blk_below (g := gb143) (o := .cells #[.int .i64 t138, .int .u64 t139, .int .u64 t140, .string t141] 24 (0, 0)) (by (with_reducible repeat (first | refine blk_drewN ?_ _ | refine blk_drew ?_ | refine blk_alloc ?_ _)); exact BK143.out) hb); have n2_ := Aside0.mk (below_step (by repeat (first | (with_reducible first | exact HB.out | apply below_alloc | apply pw_below_drewN | apply below_drew1 | refine below_set ?_ GE130.out | refine below_set ?_ GE143.out) | exact HB.out)) hb); clear BK130; clear BK143; clear HB; have BK130 := n0_; have BK143 := n1_; have HB := n2_; clear n0_ n1_ n2_; (try clear hb); (try clear hb2); (try clear hk); (try clear hi)))
                                go_ret
                                exact ⟨by first | rfl | (simp [errW_none, errW_some] <;> rfl) | (simp [*, errW_none, errW_some] <;> rfl), by repeat (first | (with_reducible first | exact HB.out | apply below_alloc | apply pw_below_drewN | apply below_drew1 | refine below_set ?_ GE130.out | refine below_set ?_ GE143.out) | exact HB.out)⟩
                            · rw [if_neg c63] at H
                              exact absurd H (by simp)
                          · rw [if_neg c62] at H
                            have c62b0 : (a1_3.toList == ([] : List UInt8)) = false := beq_eq_false_iff_ne.mpr c62
                            have c62b1 : (a1_3.toList != ([] : List UInt8)) = true := bne_iff_ne.mpr c62
                            by_cases c70 : t155 = 3
                            · rw [if_pos c70] at H
                              have c70b0 : (t155 == 3) = true := beq_iff_eq.mpr c70
                              have c70b1 : (t155 != 3) = false := bne_eq_false_iff_eq.mpr c70
                              clear c70
                              as_aux_lemma =>
                                obtain rfl := Option.some.inj H
                                have hnb71 := NB130_143.out
                                have hnc71 := NB143_130.out
                                have hcz72_0 : wc.cell? ⟨gb130, 0, none⟩ = some (.int .i64 a1_0) := (blk_cell BK130.out 0).trans rfl
                                have hcz72_1 : wc.cell? ⟨gb130, 1, none⟩ = some (.int .u64 a1_1) := (blk_cell BK130.out 1).trans rfl
                                have hcz72_2 : wc.cell? ⟨gb130, 2, none⟩ = some (.int .u64 a1_2) := (blk_cell BK130.out 2).trans rfl
                                have hcz72_3 : wc.cell? ⟨gb130, 3, none⟩ = some (.string a1_3) := (blk_cell BK130.out 3).trans rfl
                                have hfz72_0 := blk_frozen BK130.out 0
                                have hfz72_1 := blk_frozen BK130.out 1
                                have hfz72_2 := blk_frozen BK130.out 2
                                have hfz72_3 := blk_frozen BK130.out 3
                                go_wp2_with (first | ((with_reducible refine gate_callee (f := 10) rfl ?_); refine goesL_ (some 129) rfl rfl Tryd.func10 (by kernel_rfl) rfl #[.agg #[.int .i64 a1_0, .int .u64 a1_1, .int .u64 a1_2, .string a1_3]] rfl (by (try simp only [List.map_toArray, List.map_cons, List.map_nil]); first | done | rfl | (simp only [List.length_drop, List.length_take]; rfl)) ?_; (with_reducible refine (integers_NumberOf.calls kj21 a1_0 a1_1 a1_2 a1_3 t154 t155 _ A53.out).mono ?_); rintro e w73 ⟨rfl, hb⟩; refine ⟨_, rfl, ?_⟩; have n0_ := Aside0.mk (blk_below (g := gb130) (o := .cells #[.int .i64 a1_0, .int .u64 a1_1, .int .u64 a1_2, .string a1_3] 24 (0, 0)) (by (with_reducible repeat (first | refine blk_drewN ?_ _ | refine blk_drew ?_ | refine blk_alloc ?_ _)); exact BK130.out) hb); have n1_ := Aside0.mk (blk_below (g := gb143) (o := .cells #[.int .i64 t138, .int .u64 t139, .int .u64 t140, .string t141] 24 (0, 0)) (by (with_reducible repeat (first | refine blk_drewN ?_ _ | refine blk_drew ?_ | refine blk_alloc ?_ _)); exact BK143.out) hb); have n2_ := Aside0.mk (below_step (by repeat (first | (with_reducible first | exact HB.out | apply below_alloc | apply pw_below_drewN | apply below_drew1 | refine below_set ?_ GE130.out | refine below_set ?_ GE143.out) | exact HB.out)) hb); clear BK130; clear BK143; clear HB; have BK130 := n0_; have BK143 := n1_; have HB := n2_; clear n0_ n1_ n2_; (try clear hb); (try clear hb2); (try clear hk); (try clear hi); have hcz74_0 : w73.cell? ⟨gb130, 0, none⟩ = some (.int .i64 a1_0) := (blk_cell BK130.out 0).trans rfl; have hcz74_1 : w73.cell? ⟨gb130, 1, none⟩ = some (.int .u64 a1_1) := (blk_cell BK130.out 1).trans rfl; have hcz74_2 : w73.cell? ⟨gb130, 2, none⟩ = some (.int .u64 a1_2) := (blk_cell BK130.out 2).trans rfl; have hcz74_3 : w73.cell? ⟨gb130, 3, none⟩ = some (.string a1_3) := (blk_cell BK130.out 3).trans rfl; have hfz74_0 := blk_frozen BK130.out 0; have hfz74_1 := blk_frozen BK130.out 1; have hfz74_2 := blk_frozen BK130.out 2; have hfz74_3 := blk_frozen BK130.out 3))
                                go_ret
                                exact ⟨by first | rfl | (simp [errW_none, errW_some] <;> rfl) | (simp [*, errW_none, errW_some] <;> rfl), by repeat (first | (with_reducible first | exact HB.out | apply below_alloc | apply pw_below_drewN | apply below_drew1 | refine below_set ?_ GE130.out | refine below_set ?_ GE143.out) | exact HB.out)⟩
                            · rw [if_neg c70] at H
                              exact absurd H (by simp)
                        · rw [if_neg c61] at H
                          have c61b0 : (a1_2 == 0) = false := beq_eq_false_iff_ne.mpr c61
                          have c61b1 : (a1_2 != 0) = true := bne_iff_ne.mpr c61
                          by_cases c75 : t155 = 3
                          · rw [if_pos c75] at H
                            have c75b0 : (t155 == 3) = true := beq_iff_eq.mpr c75
                            have c75b1 : (t155 != 3) = false := bne_eq_false_iff_eq.mpr c75
                            clear c75
                            as_aux_lemma =>
                              obtain rfl := Option.some.inj H
                              have hnb76 := NB130_143.out
                              have hnc76 := NB143_130.out
                              have hcz77_0 : wc.cell? ⟨gb130, 0, none⟩ = some (.int .i64 a1_0) := (blk_cell BK130.out 0).trans rfl
                              have hcz77_1 : wc.cell? ⟨gb130, 1, none⟩ = some (.int .u64 a1_1) := (blk_cell BK130.out 1).trans rfl
                              have hcz77_2 : wc.cell? ⟨gb130, 2, none⟩ = some (.int .u64 a1_2) := (blk_cell BK130.out 2).trans rfl
                              have hcz77_3 : wc.cell? ⟨gb130, 3, none⟩ = some (.string a1_3) := (blk_cell BK130.out 3).trans rfl
                              have hfz77_0 := blk_frozen BK130.out 0
                              have hfz77_1 := blk_frozen BK130.out 1
                              have hfz77_2 := blk_frozen BK130.out 2
                              have hfz77_3 := blk_frozen BK130.out 3
                              go_wp2_with (first | ((with_reducible refine gate_callee (f := 10) rfl ?_); refine goesL_ (some 129) rfl rfl Tryd.func10 (by kernel_rfl) rfl #[.agg #[.int .i64 a1_0, .int .u64 a1_1, .int .u64 a1_2, .string a1_3]] rfl (by (try simp only [List.map_toArray, List.map_cons, List.map_nil]); first | done | rfl | (simp only [List.length_drop, List.length_take]; rfl)) ?_; (with_reducible refine (integers_NumberOf.calls kj21 a1_0 a1_1 a1_2 a1_3 t154 t155 _ A53.out).mono ?_); rintro e w78 ⟨rfl, hb⟩; refine ⟨_, rfl, ?_⟩; have n0_ := Aside0.mk (blk_below (g := gb130) (o := .cells #[.int .i64 a1_0, .int .u64 a1_1, .int .u64 a1_2, .string a1_3] 24 (0, 0)) (by (with_reducible repeat (first | refine blk_drewN ?_ _ | refine blk_drew ?_ | refine blk_alloc ?_ _)); exact BK130.out) hb); have n1_ := Aside0.mk (blk_below (g := gb143) (o := .cells #[.int .i64 t138, .int .u64 t139, .int .u64 t140, .string t141] 24 (0, 0)) (by (with_reducible repeat (first | refine blk_drewN ?_ _ | refine blk_drew ?_ | refine blk_alloc ?_ _)); exact BK143.out) hb); have n2_ := Aside0.mk (below_step (by repeat (first | (with_reducible first | exact HB.out | apply below_alloc | apply pw_below_drewN | apply below_drew1 | refine below_set ?_ GE130.out | refine below_set ?_ GE143.out) | exact HB.out)) hb); clear BK130; clear BK143; clear HB; have BK130 := n0_; have BK143 := n1_; have HB := n2_; clear n0_ n1_ n2_; (try clear hb); (try clear hb2); (try clear hk); (try clear hi); have hcz79_0 : w78.cell? ⟨gb130, 0, none⟩ = some (.int .i64 a1_0) := (blk_cell BK130.out 0).trans rfl; have hcz79_1 : w78.cell? ⟨gb130, 1, none⟩ = some (.int .u64 a1_1) := (blk_cell BK130.out 1).trans rfl; have hcz79_2 : w78.cell? ⟨gb130, 2, none⟩ = some (.int .u64 a1_2) := (blk_cell BK130.out 2).trans rfl; have hcz79_3 : w78.cell? ⟨gb130, 3, none⟩ = some (.string a1_3) := (blk_cell BK130.out 3).trans rfl; have hfz79_0 := blk_frozen BK130.out 0; have hfz79_1 := blk_frozen BK130.out 1; have hfz79_2 := blk_frozen BK130.out 2; have hfz79_3 := blk_frozen BK130.out 3))
                              go_ret
                              exact ⟨by first | rfl | (simp [errW_none, errW_some] <;> rfl) | (simp [*, errW_none, errW_some] <;> rfl), by repeat (first | (with_reducible first | exact HB.out | apply below_alloc | apply pw_below_drewN | apply below_drew1 | refine below_set ?_ GE130.out | refine below_set ?_ GE143.out) | exact HB.out)⟩
                          · rw [if_neg c75] at H
                            exact absurd H (by simp)
                    · rw [if_neg c54] at H
                      have c54b0 : (a1_0 == 0) = false := beq_eq_false_iff_ne.mpr c54
                      have c54b1 : (a1_0 != 0) = true := bne_iff_ne.mpr c54
                      by_cases c80 : t155 = 27
                      · rw [if_pos c80] at H
                        have c80b0 : (t155 == 27) = true := beq_iff_eq.mpr c80
                        have c80b1 : (t155 != 27) = false := bne_eq_false_iff_eq.mpr c80
                        clear c80
                        as_aux_lemma =>
                          obtain rfl := Option.some.inj H
                          have hnb81 := NB130_143.out
                          have hnc81 := NB143_130.out
                          have hcz82_0 : wc.cell? ⟨gb130, 0, none⟩ = some (.int .i64 a1_0) := (blk_cell BK130.out 0).trans rfl
                          have hcz82_1 : wc.cell? ⟨gb130, 1, none⟩ = some (.int .u64 a1_1) := (blk_cell BK130.out 1).trans rfl
                          have hcz82_2 : wc.cell? ⟨gb130, 2, none⟩ = some (.int .u64 a1_2) := (blk_cell BK130.out 2).trans rfl
                          have hcz82_3 : wc.cell? ⟨gb130, 3, none⟩ = some (.string a1_3) := (blk_cell BK130.out 3).trans rfl
                          have hfz82_0 := blk_frozen BK130.out 0
                          have hfz82_1 := blk_frozen BK130.out 1
                          have hfz82_2 := blk_frozen BK130.out 2
                          have hfz82_3 := blk_frozen BK130.out 3
                          go_wp2_with (first | ((with_reducible refine gate_callee (f := 10) rfl ?_); refine goesL_ (some 129) rfl rfl Tryd.func10 (by kernel_rfl) rfl #[.agg #[.int .i64 a1_0, .int .u64 a1_1, .int .u64 a1_2, .string a1_3]] rfl (by (try simp only [List.map_toArray, List.map_cons, List.map_nil]); first | done | rfl | (simp only [List.length_drop, List.length_take]; rfl)) ?_; (with_reducible refine (integers_NumberOf.calls kj21 a1_0 a1_1 a1_2 a1_3 t154 t155 _ A53.out).mono ?_); rintro e w83 ⟨rfl, hb⟩; refine ⟨_, rfl, ?_⟩; have n0_ := Aside0.mk (blk_below (g := gb130) (o := .cells #[.int .i64 a1_0, .int .u64 a1_1, .int .u64 a1_2, .string a1_3] 24 (0, 0)) (by (with_reducible repeat (first | refine blk_drewN ?_ _ | refine blk_drew ?_ | refine blk_alloc ?_ _)); exact BK130.out) hb); have n1_ := Aside0.mk (blk_below (g := gb143) (o := .cells #[.int .i64 t138, .int .u64 t139, .int .u64 t140, .string t141] 24 (0, 0)) (by (with_reducible repeat (first | refine blk_drewN ?_ _ | refine blk_drew ?_ | refine blk_alloc ?_ _)); exact BK143.out) hb); have n2_ := Aside0.mk (below_step (by repeat (first | (with_reducible first | exact HB.out | apply below_alloc | apply pw_below_drewN | apply below_drew1 | refine below_set ?_ GE130.out | refine below_set ?_ GE143.out) | exact HB.out)) hb); clear BK130; clear BK143; clear HB; have BK130 := n0_; have BK143 := n1_; have HB := n2_; clear n0_ n1_ n2_; (try clear hb); (try clear hb2); (try clear hk); (try clear hi); have hcz84_0 : w83.cell? ⟨gb130, 0, none⟩ = some (.int .i64 a1_0) := (blk_cell BK130.out 0).trans rfl; have hcz84_1 : w83.cell? ⟨gb130, 1, none⟩ = some (.int .u64 a1_1) := (blk_cell BK130.out 1).trans rfl; have hcz84_2 : w83.cell? ⟨gb130, 2, none⟩ = some (.int .u64 a1_2) := (blk_cell BK130.out 2).trans rfl; have hcz84_3 : w83.cell? ⟨gb130, 3, none⟩ = some (.string a1_3) := (blk_cell BK130.out 3).trans rfl; have hfz84_0 := blk_frozen BK130.out 0; have hfz84_1 := blk_frozen BK130.out 1; have hfz84_2 := blk_frozen BK130.out 2; have hfz84_3 := blk_frozen BK130.out 3))
                          go_ret
                          exact ⟨by first | rfl | (simp [errW_none, errW_some] <;> rfl) | (simp [*, errW_none, errW_some] <;> rfl), by repeat (first | (with_reducible first | exact HB.out | apply below_alloc | apply pw_below_drewN | apply below_drew1 | refine below_set ?_ GE130.out | refine below_set ?_ GE143.out) | exact HB.out)⟩
                      · rw [if_neg c80] at H
                        exact absurd H (by simp)
  · replace c5 := Bool.eq_false_iff.mpr c5
    subst c5
    have H1 : (none) = some r := by rw [if_neg (show ¬ (false = true) by decide)] at H; exact H
    clear H
    have H := H1
    clear H1
    exact absurd H (by simp)

end Go.Proofs.YtgmlihjopinagaaDoor.PIntegersStrings
