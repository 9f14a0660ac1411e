-- (short) Written by myprint.py of this session over the kit's print program; contracts by hand where it does not serve.
import Derived.Test.YtgmlihjopinagaaPIntegersRangesx0
import Derived.Test.YtgmlihjopinagaaPIntegersRangesx9
import Derived.Test.YtgmlihjopinagaaPIntegersRangesx10
namespace Go.Proofs.Ytgmlihjopinagaa.PIntegersRanges
open Go.RowKit Go.Proofs.YtgmlihjopinagaaW.PrintWords Go.Proofs.YtgmlihjopinagaaW.PrintLast Go.Proofs.YtgmlihjopinagaaW.PrintMore
attribute [local go_sem] max2_int min2_int max_two min_two max_three min_three max_four min_four   -- for this text's walks alone
set_option linter.unusedVariables false
set_option linter.unusedSimpArgs false

/-! ### fr7_RangeOf: function 23 -/
mutual
def fr7_RangeOf.j0 : Nat → Int → Bool → Int → Int → Int → Int → Int → Int → Option (Int × Int × Int)
 | 0, _, _, _, _, _, _, _, _ => none
 | k + 1, x0, x50, x305000, x305001, x306000, x306001, x308000, x308001 => if x50 = true then (some (x308000, x308001, 11)) else ((fr7_ends.f k x305000 x305001).bind fun t313 => ((fr7_ends.f k x306000 x306001).bind fun t316 => (if x0 = 4 then (if (wrap64 (x305001 - x305000)) ≥ 200 then (fr7_RangeOf.j1 k x0 true x305000 x305001 x306000 x306001 x308000 x308001) else (fr7_RangeOf.j1 k x0 (decide ((wrap64 (x306001 - x306000)) ≥ 200)) x305000 x305001 x306000 x306001 x308000 x308001)) else (fr7_RangeOf.j2 k x0 t313 t316 x308000 x308001))))
def fr7_RangeOf.j2 : Nat → Int → List Int → List Int → Int → Int → Option (Int × Int × Int)
 | 0, _, _, _, _, _ => none
 | k + 1, x0, x12, x13, x308000, x308001 => fr7_RangeOf.l0 k x0 x12 x13 0 x308000 x308001 x308000 x308001
def fr7_RangeOf.l0 : Nat → Int → List Int → List Int → Int → Int → Int → Int → Int → Option (Int × Int × Int)
 | 0, _, _, _, _, _, _, _, _ => none
 | k + 1, x0, x12, x13, x15, x308000, x308001, x326000, x326001 => if x15 < (x12.length : Int) then (fr7_RangeOf.l1 k x0 x12 x13 x15 0 x308000 x308001 x326000 x326001) else ((fr7_IsInteger.f x326000).bind fun t330 => (if t330 = true then ((fr7_IsInteger.f x326001).bind fun t331 => (if t331 = true then (some (x326000, x326001, 0)) else (some (x308000, x308001, 28)))) else (some (x308000, x308001, 28))))
def fr7_RangeOf.l1 : Nat → Int → List Int → List Int → Int → Int → Int → Int → Int → Int → Option (Int × Int × Int)
 | 0, _, _, _, _, _, _, _, _, _ => none
 | k + 1, x0, x12, x13, x15, x16, x308000, x308001, x326000, x326001 => if x16 < (x13.length : Int) then (if 0 ≤ x15 then (if x15 < (x12.length : Int) then (if 0 ≤ x16 then ((fr7_Exact.f k x0 (rd x12 x15) (rd x13 x16)).bind fun bt328 => (if x15 = 0 then (if x16 = 0 then (fr7_RangeOf.l1 k x0 x12 x13 x15 (wrap64 (x16 + 1)) x308000 x308001 (mn bt328.1 bt328.1) (mx bt328.1 bt328.1)) else (fr7_RangeOf.l1 k x0 x12 x13 x15 (wrap64 (x16 + 1)) x308000 x308001 (mn x326000 bt328.1) (mx x326001 bt328.1))) else (fr7_RangeOf.l1 k x0 x12 x13 x15 (wrap64 (x16 + 1)) x308000 x308001 (mn x326000 bt328.1) (mx x326001 bt328.1)))) else (none)) else (none)) else (none)) else (fr7_RangeOf.l0 k x0 x12 x13 (wrap64 (x15 + 1)) x308000 x308001 x326000 x326001)
def fr7_RangeOf.j1 : Nat → Int → Bool → Int → Int → Int → Int → Int → Int → Option (Int × Int × Int)
 | 0, _, _, _, _, _, _, _, _ => none
 | k + 1, x0, x71, x305000, x305001, x306000, x306001, x308000, x308001 => if x71 = true then (some (x308000, x308001, 8)) else ((fr7_members.f k x305000 x305001).bind fun t319 => ((fr7_members.f k x306000 x306001).bind fun t322 => (fr7_RangeOf.j2 k x0 t319 t322 x308000 x308001)))
end
def fr7_RangeOf.f (k : Nat) (a0 : Int) (a1_0 : Int) (a1_1 : Int) (a2_0 : Int) (a2_1 : Int) : Option (Int × Int × Int) := (fr7_OpErr.f a0 9).bind fun t308 => (if t308 = 0 then ((fr7_rangeErr.f k a1_0 a1_1).bind fun t309 => (if t309 = 0 then ((fr7_rangeErr.f k a2_0 a2_1).bind fun t310 => (if t310 = 0 then (if a0 = 3 then ((formularybase_Within.f 0 a2_0 a2_1).bind fun t311 => (fr7_RangeOf.j0 k a0 t311 a1_0 a1_1 a2_0 a2_1 0 0)) else (if a0 = 4 then ((formularybase_Within.f 0 a2_0 a2_1).bind fun t312 => (fr7_RangeOf.j0 k a0 t312 a1_0 a1_1 a2_0 a2_1 0 0)) else (fr7_RangeOf.j0 k a0 false a1_0 a1_1 a2_0 a2_1 0 0))) else (some (0, 0, t310)))) else (some (0, 0, t309)))) else (some (0, 0, t308)))
theorem fr7_RangeOf.mono_l : ∀ k, (∀ y0 y1 y2 y3 y4 y5 y6 y7, LeO (fr7_RangeOf.j0 k y0 y1 y2 y3 y4 y5 y6 y7) (fr7_RangeOf.j0 (k + 1) y0 y1 y2 y3 y4 y5 y6 y7)) ∧ (∀ y0 y1 y2 y3 y4, LeO (fr7_RangeOf.j2 k y0 y1 y2 y3 y4) (fr7_RangeOf.j2 (k + 1) y0 y1 y2 y3 y4)) ∧ (∀ y0 y1 y2 y3 y4 y5 y6 y7, LeO (fr7_RangeOf.l0 k y0 y1 y2 y3 y4 y5 y6 y7) (fr7_RangeOf.l0 (k + 1) y0 y1 y2 y3 y4 y5 y6 y7)) ∧ (∀ y0 y1 y2 y3 y4 y5 y6 y7 y8, LeO (fr7_RangeOf.l1 k y0 y1 y2 y3 y4 y5 y6 y7 y8) (fr7_RangeOf.l1 (k + 1) y0 y1 y2 y3 y4 y5 y6 y7 y8)) ∧ (∀ y0 y1 y2 y3 y4 y5 y6 y7, LeO (fr7_RangeOf.j1 k y0 y1 y2 y3 y4 y5 y6 y7) (fr7_RangeOf.j1 (k + 1) y0 y1 y2 y3 y4 y5 y6 y7))
 | 0 => ⟨fun _ _ _ _ _ _ _ _ r h => by simp [fr7_RangeOf.j0] at h, fun _ _ _ _ _ r h => by simp [fr7_RangeOf.j2] at h, fun _ _ _ _ _ _ _ _ r h => by simp [fr7_RangeOf.l0] at h, fun _ _ _ _ _ _ _ _ _ r h => by simp [fr7_RangeOf.l1] at h, fun _ _ _ _ _ _ _ _ r h => by simp [fr7_RangeOf.j1] at h⟩
 | k + 1 => by
  obtain ⟨ih0, ih1, ih2, ih3, ih4⟩ := fr7_RangeOf.mono_l k
  refine ⟨?_, ?_, ?_, ?_, ?_⟩
  ·intro y0 y1 y2 y3 y4 y5 y6 y7
   unfold fr7_RangeOf.j0
   repeat' first
   | (with_reducible exact ih0 _ _ _ _ _ _ _ _)
   | (with_reducible exact ih1 _ _ _ _ _)
   | (with_reducible exact ih2 _ _ _ _ _ _ _ _)
   | (with_reducible exact ih3 _ _ _ _ _ _ _ _ _)
   | (with_reducible exact ih4 _ _ _ _ _ _ _ _)
   | (with_reducible exact fr7_Exact.mono _ _ _ _)
   | (with_reducible exact fr7_ends.mono _ _ _)
   | (with_reducible exact fr7_members.mono _ _ _)
   | (with_reducible exact fr7_rangeErr.mono _ _ _)
   | (with_reducible exact LeO.refl _)
   | (with_reducible exact LeO.none _)
   | (with_reducible refine LeO.ite ?_ ?_)
   | (with_reducible refine LeO.bind ?_ (fun _ => ?_))
   | exact ih0 _ _ _ _ _ _ _ _
   | exact ih1 _ _ _ _ _
   | exact ih2 _ _ _ _ _ _ _ _
   | exact ih3 _ _ _ _ _ _ _ _ _
   | exact ih4 _ _ _ _ _ _ _ _
   | exact fr7_Exact.mono _ _ _ _
   | exact fr7_ends.mono _ _ _
   | exact fr7_members.mono _ _ _
   | exact fr7_rangeErr.mono _ _ _
   | exact LeO.none _
   | refine LeO.ite ?_ ?_
   | refine LeO.bind ?_ (fun _ => ?_)
  ·intro y0 y1 y2 y3 y4
   unfold fr7_RangeOf.j2
   repeat' first
   | (with_reducible exact ih0 _ _ _ _ _ _ _ _)
   | (with_reducible exact ih1 _ _ _ _ _)
   | (with_reducible exact ih2 _ _ _ _ _ _ _ _)
   | (with_reducible exact ih3 _ _ _ _ _ _ _ _ _)
   | (with_reducible exact ih4 _ _ _ _ _ _ _ _)
   | (with_reducible exact fr7_Exact.mono _ _ _ _)
   | (with_reducible exact fr7_ends.mono _ _ _)
   | (with_reducible exact fr7_members.mono _ _ _)
   | (with_reducible exact fr7_rangeErr.mono _ _ _)
   | (with_reducible exact LeO.refl _)
   | (with_reducible exact LeO.none _)
   | (with_reducible refine LeO.ite ?_ ?_)
   | (with_reducible refine LeO.bind ?_ (fun _ => ?_))
   | exact ih0 _ _ _ _ _ _ _ _
   | exact ih1 _ _ _ _ _
   | exact ih2 _ _ _ _ _ _ _ _
   | exact ih3 _ _ _ _ _ _ _ _ _
   | exact ih4 _ _ _ _ _ _ _ _
   | exact fr7_Exact.mono _ _ _ _
   | exact fr7_ends.mono _ _ _
   | exact fr7_members.mono _ _ _
   | exact fr7_rangeErr.mono _ _ _
   | exact LeO.none _
   | refine LeO.ite ?_ ?_
   | refine LeO.bind ?_ (fun _ => ?_)
  ·intro y0 y1 y2 y3 y4 y5 y6 y7
   unfold fr7_RangeOf.l0
   repeat' first
   | (with_reducible exact ih0 _ _ _ _ _ _ _ _)
   | (with_reducible exact ih1 _ _ _ _ _)
   | (with_reducible exact ih2 _ _ _ _ _ _ _ _)
   | (with_reducible exact ih3 _ _ _ _ _ _ _ _ _)
   | (with_reducible exact ih4 _ _ _ _ _ _ _ _)
   | (with_reducible exact fr7_Exact.mono _ _ _ _)
   | (with_reducible exact fr7_ends.mono _ _ _)
   | (with_reducible exact fr7_members.mono _ _ _)
   | (with_reducible exact fr7_rangeErr.mono _ _ _)
   | (with_reducible exact LeO.refl _)
   | (with_reducible exact LeO.none _)
   | (with_reducible refine LeO.ite ?_ ?_)
   | (with_reducible refine LeO.bind ?_ (fun _ => ?_))
   | exact ih0 _ _ _ _ _ _ _ _
   | exact ih1 _ _ _ _ _
   | exact ih2 _ _ _ _ _ _ _ _
   | exact ih3 _ _ _ _ _ _ _ _ _
   | exact ih4 _ _ _ _ _ _ _ _
   | exact fr7_Exact.mono _ _ _ _
   | exact fr7_ends.mono _ _ _
   | exact fr7_members.mono _ _ _
   | exact fr7_rangeErr.mono _ _ _
   | exact LeO.none _
   | refine LeO.ite ?_ ?_
   | refine LeO.bind ?_ (fun _ => ?_)
  ·intro y0 y1 y2 y3 y4 y5 y6 y7 y8
   unfold fr7_RangeOf.l1
   repeat' first
   | (with_reducible exact ih0 _ _ _ _ _ _ _ _)
   | (with_reducible exact ih1 _ _ _ _ _)
   | (with_reducible exact ih2 _ _ _ _ _ _ _ _)
   | (with_reducible exact ih3 _ _ _ _ _ _ _ _ _)
   | (with_reducible exact ih4 _ _ _ _ _ _ _ _)
   | (with_reducible exact fr7_Exact.mono _ _ _ _)
   | (with_reducible exact fr7_ends.mono _ _ _)
   | (with_reducible exact fr7_members.mono _ _ _)
   | (with_reducible exact fr7_rangeErr.mono _ _ _)
   | (with_reducible exact LeO.refl _)
   | (with_reducible exact LeO.none _)
   | (with_reducible refine LeO.ite ?_ ?_)
   | (with_reducible refine LeO.bind ?_ (fun _ => ?_))
   | exact ih0 _ _ _ _ _ _ _ _
   | exact ih1 _ _ _ _ _
   | exact ih2 _ _ _ _ _ _ _ _
   | exact ih3 _ _ _ _ _ _ _ _ _
   | exact ih4 _ _ _ _ _ _ _ _
   | exact fr7_Exact.mono _ _ _ _
   | exact fr7_ends.mono _ _ _
   | exact fr7_members.mono _ _ _
   | exact fr7_rangeErr.mono _ _ _
   | exact LeO.none _
   | refine LeO.ite ?_ ?_
   | refine LeO.bind ?_ (fun _ => ?_)
  ·intro y0 y1 y2 y3 y4 y5 y6 y7
   unfold fr7_RangeOf.j1
   repeat' first
   | (with_reducible exact ih0 _ _ _ _ _ _ _ _)
   | (with_reducible exact ih1 _ _ _ _ _)
   | (with_reducible exact ih2 _ _ _ _ _ _ _ _)
   | (with_reducible exact ih3 _ _ _ _ _ _ _ _ _)
   | (with_reducible exact ih4 _ _ _ _ _ _ _ _)
   | (with_reducible exact fr7_Exact.mono _ _ _ _)
   | (with_reducible exact fr7_ends.mono _ _ _)
   | (with_reducible exact fr7_members.mono _ _ _)
   | (with_reducible exact fr7_rangeErr.mono _ _ _)
   | (with_reducible exact LeO.refl _)
   | (with_reducible exact LeO.none _)
   | (with_reducible refine LeO.ite ?_ ?_)
   | (with_reducible refine LeO.bind ?_ (fun _ => ?_))
   | exact ih0 _ _ _ _ _ _ _ _
   | exact ih1 _ _ _ _ _
   | exact ih2 _ _ _ _ _ _ _ _
   | exact ih3 _ _ _ _ _ _ _ _ _
   | exact ih4 _ _ _ _ _ _ _ _
   | exact fr7_Exact.mono _ _ _ _
   | exact fr7_ends.mono _ _ _
   | exact fr7_members.mono _ _ _
   | exact fr7_rangeErr.mono _ _ _
   | exact LeO.none _
   | refine LeO.ite ?_ ?_
   | refine LeO.bind ?_ (fun _ => ?_)
theorem fr7_RangeOf.mono : ∀ a0 a1 a2 a3 a4 k, LeO (fr7_RangeOf.f k a0 a1 a2 a3 a4) (fr7_RangeOf.f (k + 1) a0 a1 a2 a3 a4) := by
 intro a0 a1 a2 a3 a4 k
 obtain ⟨ih0, ih1, ih2, ih3, ih4⟩ := fr7_RangeOf.mono_l k
 unfold fr7_RangeOf.f
 repeat' first
   | (with_reducible exact ih0 _ _ _ _ _ _ _ _)
   | (with_reducible exact ih1 _ _ _ _ _)
   | (with_reducible exact ih2 _ _ _ _ _ _ _ _)
   | (with_reducible exact ih3 _ _ _ _ _ _ _ _ _)
   | (with_reducible exact ih4 _ _ _ _ _ _ _ _)
   | (with_reducible exact fr7_Exact.mono _ _ _ _)
   | (with_reducible exact fr7_ends.mono _ _ _)
   | (with_reducible exact fr7_members.mono _ _ _)
   | (with_reducible exact fr7_rangeErr.mono _ _ _)
   | (with_reducible exact LeO.refl _)
   | (with_reducible exact LeO.none _)
   | (with_reducible refine LeO.ite ?_ ?_)
   | (with_reducible refine LeO.bind ?_ (fun _ => ?_))
   | exact ih0 _ _ _ _ _ _ _ _
   | exact ih1 _ _ _ _ _
   | exact ih2 _ _ _ _ _ _ _ _
   | exact ih3 _ _ _ _ _ _ _ _ _
   | exact ih4 _ _ _ _ _ _ _ _
   | exact fr7_Exact.mono _ _ _ _
   | exact fr7_ends.mono _ _ _
   | exact fr7_members.mono _ _ _
   | exact fr7_rangeErr.mono _ _ _
   | exact LeO.none _
   | refine LeO.ite ?_ ?_
   | refine LeO.bind ?_ (fun _ => ?_)
def fr7_RangeOf.T25 : Bool × List (List Nat × List Nat) := (true, [([], []), ([], []), ([], []), ([1, 2], [1, 2]), ([3], [3]), ([], []), ([], []), ([5, 6], [5, 6]), ([7], [7]), ([0, 4, 8], [0, 4, 8]), ([9], [9]), ([10], [10]), ([10], [10]), ([11, 9, 0, 1, 2, 3, 4, 5, 6, 7, 8, 9, 10, 11], [11]), ([12, 13, 0, 1, 2, 3, 4, 5, 6, 7, 8, 9, 10, 11, 12, 13], [12])])
def fr7_RangeOf.B25 : List Nat := [0, 0, 0, 6, 14, 0, 0, 96, 224, 511, 1023, 2047, 2047, 4095, 16383]
theorem fr7_RangeOf.tab25 : rtab .any (opsOf Try.f23 25) = fr7_RangeOf.T25 := by kernel_rfl
theorem fr7_RangeOf.bits25 : waitsOk fr7_RangeOf.T25.2 fr7_RangeOf.B25 = true := by kernel_rfl
set_option maxHeartbeats 8000000 in
set_option maxRecDepth 100000 in
theorem fr7_RangeOf.calls (k : Nat) (a0 : Int) (a1_0 : Int) (a1_1 : Int) (a2_0 : Int) (a2_1 : Int) (r1 : Int) (r2 : Int) (r3 : Int) (w : World) (h : fr7_RangeOf.f k a0 a1_0 a1_1 a2_0 a2_1 = some (r1, r2, r3)) :
  Calls Try.prog 23 #[.int .i64 a0, .agg #[.int .i64 a1_0, .int .i64 a1_1], .agg #[.int .i64 a2_0, .int .i64 a2_1]] w fun e w' => e = .returned (.tuple #[.agg #[.int .i64 r1, .int .i64 r2], .int .i64 r3]) ∧ Below w.heap.size w w' := by
 have hu35 := Try.underlying35;have HB := Aside0.mk (Below.refl w.heap.size w)
 have H : ((fr7_OpErr.f a0 9).bind fun t308 => (if t308 = 0 then ((fr7_rangeErr.f k a1_0 a1_1).bind fun t309 => (if t309 = 0 then ((fr7_rangeErr.f k a2_0 a2_1).bind fun t310 => (if t310 = 0 then (if a0 = 3 then ((formularybase_Within.f 0 a2_0 a2_1).bind fun t311 => (fr7_RangeOf.j0 k a0 t311 a1_0 a1_1 a2_0 a2_1 0 0)) else (if a0 = 4 then ((formularybase_Within.f 0 a2_0 a2_1).bind fun t312 => (fr7_RangeOf.j0 k a0 t312 a1_0 a1_1 a2_0 a2_1 0 0)) else (fr7_RangeOf.j0 k a0 false a1_0 a1_1 a2_0 a2_1 0 0))) else (some (0, 0, t310)))) else (some (0, 0, t309)))) else (some (0, 0, t308)))) = some (r1, r2, r3) := h
 clear h;replace H := Option.bind_eq_some_iff.mp H;obtain ⟨t308, A40, H⟩ := H
 try dsimp only at H
 have A4 := Aside0.mk A40;clear A40
 by_cases c5 : t308 = 0
 ·rw [if_pos c5] at H
  have c5b0 : (t308 == 0) = true := beq_iff_eq.mpr c5
  have c5b1 : (t308 != 0) = false := bne_eq_false_iff_eq.mpr c5
  clear c5;replace H := Option.bind_eq_some_iff.mp H;obtain ⟨t309, A60, H⟩ := H
  try dsimp only at H
  have A6 := Aside0.mk A60;clear A60
  by_cases c7 : t309 = 0
  ·rw [if_pos c7] at H
   have c7b0 : (t309 == 0) = true := beq_iff_eq.mpr c7
   have c7b1 : (t309 != 0) = false := bne_eq_false_iff_eq.mpr c7
   clear c7;replace H := Option.bind_eq_some_iff.mp H;obtain ⟨t310, A80, H⟩ := H
   try dsimp only at H
   have A8 := Aside0.mk A80;clear A80
   by_cases c9 : t310 = 0
   ·rw [if_pos c9] at H
    have c9b0 : (t310 == 0) = true := beq_iff_eq.mpr c9
    have c9b1 : (t310 != 0) = false := bne_eq_false_iff_eq.mpr c9
    clear c9;have HC10 := Aside0.mk H;clear H
    go_enter Try.func23, Try.ntmps23
    go_upto_region 11 with (first | ((with_reducible refine gate_dst (N := 4) rfl ?_); refine box_event ?hg (N := 4) ?hd (cs := #[.int .i64 a1_0, .int .i64 a1_1]) (t := 35) ?hr ?_; (case hd => rfl); (case hg => rfl); (case hr => first | (go_simp; done) | (go_simp; rfl)); intro gb304 hg w11 hbox hb; have n0_ := Aside0.mk (below_step (bw HB.out) hb); have n1_ := Aside0.mk (hbox); have n2_ := Aside0.mk ((by rw [hg]; exact (below_size (bw HB.out)) : w.heap.size ≤ gb304)); have n3_ := Aside0.mk ((by rw [hg]; exact (below_size (bw HB.out)) : w.heap.size ≤ gb304)); clear HB; have HB := n0_; have BK304 := n1_; have GW304 := n2_; have GE304 := n3_; clear n0_ n1_ n2_ n3_; clear hb hbox hg) | ((with_reducible refine gate_dst (N := 5) rfl ?_); refine box_event ?hg (N := 5) ?hd (cs := #[.int .i64 a2_0, .int .i64 a2_1]) (t := 35) ?hr ?_; (case hd => rfl); (case hg => rfl); (case hr => first | (go_simp; done) | (go_simp; rfl)); intro gb305 hg w12 hbox hb; have n0_ := Aside0.mk (blk_below (g := gb304) (o := .cells #[.int .i64 a1_0, .int .i64 a1_1] 35 (0, 0)) (bk BK304.out) hb); have n1_ := Aside0.mk (below_step (by repeat (first | (with_reducible first | exact HB.out | apply below_alloc | apply pw_below_drewN | apply below_drew1 | refine below_set ?_ GE304.out) | exact HB.out)) hb); have n2_ := Aside0.mk (hbox); have n3_ := Aside0.mk ((by rw [hg]; exact (below_size (by repeat (first | (with_reducible first | exact HB.out | apply below_alloc | apply pw_below_drewN | apply below_drew1 | refine below_set ?_ GE304.out) | exact HB.out))) : w.heap.size ≤ gb305)); have n4_ := Aside0.mk ((by rw [hg]; exact (below_size (by repeat (first | (with_reducible first | exact HB.out | apply below_alloc | apply pw_below_drewN | apply below_drew1 | refine below_set ?_ GE304.out) | exact HB.out))) : w.heap.size ≤ gb305)); have n5_ := Aside0.mk ((by rw [hg]; exact Nat.ne_of_lt (blk_lt (g := gb304) (o := .cells #[.int .i64 a1_0, .int .i64 a1_1] 35 (0, 0)) (bk BK304.out)) : gb304 ≠ gb305)); have n6_ := Aside0.mk ((by rw [hg]; exact Nat.ne_of_gt (blk_lt (g := gb304) (o := .cells #[.int .i64 a1_0, .int .i64 a1_1] 35 (0, 0)) (bk BK304.out)) : gb305 ≠ gb304)); clear BK304; clear HB; have BK304 := n0_; have HB := n1_; have BK305 := n2_; have GW305 := n3_; have GE305 := n4_; have NB304_305 := n5_; have NB305_304 := n6_; clear n0_ n1_ n2_ n3_ n4_ n5_ n6_; clear hb hbox hg) | ((with_reducible refine gate_dst (N := 6) rfl ?_); refine box_event ?hg (N := 6) ?hd (cs := #[.int .i64 0, .int .i64 0]) (t := 35) ?hr ?_; (case hd => rfl); (case hg => rfl); (case hr => first | (go_simp; done) | (go_simp; rfl)); intro gb306 hg w13 hbox hb; have n0_ := Aside0.mk (blk_below (g := gb304) (o := .cells #[.int .i64 a1_0, .int .i64 a1_1] 35 (0, 0)) (bk BK304.out) hb); have n1_ := Aside0.mk (blk_below (g := gb305) (o := .cells #[.int .i64 a2_0, .int .i64 a2_1] 35 (0, 0)) (bk BK305.out) hb); have n2_ := Aside0.mk (below_step (by repeat (first | (with_reducible first | exact HB.out | apply below_alloc | apply pw_below_drewN | apply below_drew1 | refine below_set ?_ GE304.out | refine below_set ?_ GE305.out) | exact HB.out)) hb); have n3_ := Aside0.mk (hbox); have n4_ := Aside0.mk ((by rw [hg]; exact (below_size (by repeat (first | (with_reducible first | exact HB.out | apply below_alloc | apply pw_below_drewN | apply below_drew1 | refine below_set ?_ GE304.out | refine below_set ?_ GE305.out) | exact HB.out))) : w.heap.size ≤ gb306)); have n5_ := Aside0.mk ((by rw [hg]; exact (below_size (by repeat (first | (with_reducible first | exact HB.out | apply below_alloc | apply pw_below_drewN | apply below_drew1 | refine below_set ?_ GE304.out | refine below_set ?_ GE305.out) | exact HB.out))) : w.heap.size ≤ gb306)); have n6_ := Aside0.mk ((by rw [hg]; exact Nat.ne_of_lt (blk_lt (g := gb304) (o := .cells #[.int .i64 a1_0, .int .i64 a1_1] 35 (0, 0)) (bk BK304.out)) : gb304 ≠ gb306)); have n7_ := Aside0.mk ((by rw [hg]; exact Nat.ne_of_gt (blk_lt (g := gb304) (o := .cells #[.int .i64 a1_0, .int .i64 a1_1] 35 (0, 0)) (bk BK304.out)) : gb306 ≠ gb304)); have n8_ := Aside0.mk ((by rw [hg]; exact Nat.ne_of_lt (blk_lt (g := gb305) (o := .cells #[.int .i64 a2_0, .int .i64 a2_1] 35 (0, 0)) (bk BK305.out)) : gb305 ≠ gb306)); have n9_ := Aside0.mk ((by rw [hg]; exact Nat.ne_of_gt (blk_lt (g := gb305) (o := .cells #[.int .i64 a2_0, .int .i64 a2_1] 35 (0, 0)) (bk BK305.out)) : gb306 ≠ gb305)); clear BK304; clear BK305; clear HB; have BK304 := n0_; have BK305 := n1_; have HB := n2_; have BK306 := n3_; have GW306 := n4_; have GE306 := n5_; have NB304_306 := n6_; have NB306_304 := n7_; have NB305_306 := n8_; have NB306_305 := n9_; clear n0_ n1_ n2_ n3_ n4_ n5_ n6_ n7_ n8_ n9_; clear hb hbox hg) | ((with_reducible refine gate_dst (N := 8) rfl ?_); refine box_event ?hg (N := 8) ?hd (cs := #[.int .i64 0, .int .i64 0]) (t := 35) ?hr ?_; (case hd => rfl); (case hg => rfl); (case hr => first | (go_simp; done) | (go_simp; rfl)); intro gb307 hg w14 hbox hb; have n0_ := Aside0.mk (blk_below (g := gb304) (o := .cells #[.int .i64 a1_0, .int .i64 a1_1] 35 (0, 0)) (bk BK304.out) hb); have n1_ := Aside0.mk (blk_below (g := gb305) (o := .cells #[.int .i64 a2_0, .int .i64 a2_1] 35 (0, 0)) (bk BK305.out) hb); have n2_ := Aside0.mk (blk_below (g := gb306) (o := .cells #[.int .i64 0, .int .i64 0] 35 (0, 0)) (bk BK306.out) hb); have n3_ := Aside0.mk (below_step (by repeat (first | (with_reducible first | exact HB.out | apply below_alloc | apply pw_below_drewN | apply below_drew1 | refine below_set ?_ GE304.out | refine below_set ?_ GE305.out | refine below_set ?_ GE306.out) | exact HB.out)) hb); have n4_ := Aside0.mk (hbox); have n5_ := Aside0.mk ((by rw [hg]; exact (below_size (by repeat (first | (with_reducible first | exact HB.out | apply below_alloc | apply pw_below_drewN | apply below_drew1 | refine below_set ?_ GE304.out | refine below_set ?_ GE305.out | refine below_set ?_ GE306.out) | exact HB.out))) : w.heap.size ≤ gb307)); have n6_ := Aside0.mk ((by rw [hg]; exact (below_size (by repeat (first | (with_reducible first | exact HB.out | apply below_alloc | apply pw_below_drewN | apply below_drew1 | refine below_set ?_ GE304.out | refine below_set ?_ GE305.out | refine below_set ?_ GE306.out) | exact HB.out))) : w.heap.size ≤ gb307)); have n7_ := Aside0.mk ((by rw [hg]; exact Nat.ne_of_lt (blk_lt (g := gb304) (o := .cells #[.int .i64 a1_0, .int .i64 a1_1] 35 (0, 0)) (bk BK304.out)) : gb304 ≠ gb307)); have n8_ := Aside0.mk ((by rw [hg]; exact Nat.ne_of_gt (blk_lt (g := gb304) (o := .cells #[.int .i64 a1_0, .int .i64 a1_1] 35 (0, 0)) (bk BK304.out)) : gb307 ≠ gb304)); have n9_ := Aside0.mk ((by rw [hg]; exact Nat.ne_of_lt (blk_lt (g := gb305) (o := .cells #[.int .i64 a2_0, .int .i64 a2_1] 35 (0, 0)) (bk BK305.out)) : gb305 ≠ gb307)); have n10_ := Aside0.mk ((by rw [hg]; exact Nat.ne_of_gt (blk_lt (g := gb305) (o := .cells #[.int .i64 a2_0, .int .i64 a2_1] 35 (0, 0)) (bk BK305.out)) : gb307 ≠ gb305)); have n11_ := Aside0.mk ((by rw [hg]; exact Nat.ne_of_lt (blk_lt (g := gb306) (o := .cells #[.int .i64 0, .int .i64 0] 35 (0, 0)) (bk BK306.out)) : gb306 ≠ gb307)); have n12_ := Aside0.mk ((by rw [hg]; exact Nat.ne_of_gt (blk_lt (g := gb306) (o := .cells #[.int .i64 0, .int .i64 0] 35 (0, 0)) (bk BK306.out)) : gb307 ≠ gb306)); clear BK304; clear BK305; clear BK306; clear HB; have BK304 := n0_; have BK305 := n1_; have BK306 := n2_; have HB := n3_; have BK307 := n4_; have GW307 := n5_; have GE307 := n6_; have NB304_307 := n7_; have NB307_304 := n8_; have NB305_307 := n9_; have NB307_305 := n10_; have NB306_307 := n11_; have NB307_306 := n12_; clear n0_ n1_ n2_ n3_ n4_ n5_ n6_ n7_ n8_ n9_ n10_ n11_ n12_; clear hb hbox hg; have hnb15 := NB307_304.out; have hnc15 := NB304_307.out; have hnb16 := NB307_305.out; have hnc16 := NB305_307.out; have hnb17 := NB307_306.out; have hnc17 := NB306_307.out; have hcz18_0 : w14.cell? ⟨gb307, 0, none⟩ = some (.int .i64 0) := (blk_cell BK307.out 0).trans rfl; have hcz18_1 : w14.cell? ⟨gb307, 1, none⟩ = some (.int .i64 0) := (blk_cell BK307.out 1).trans rfl; have hfz18_0 := blk_frozen BK307.out 0; have hfz18_1 := blk_frozen BK307.out 1) | ((with_reducible refine gate_callee (f := 56) rfl ?_); refine goesL_ (some 21) rfl rfl Try.func56 (by kernel_rfl) rfl #[.int .i64 a0, .int .i64 9] rfl (by (try simp only [List.map_toArray, List.map_cons, List.map_nil]); first | done | rfl) ?_; (with_reducible refine (fr7_OpErr.calls a0 9 t308 _ A4.out).mono ?_); rintro e w' ⟨rfl, ⟨nd, rfl⟩⟩; refine ⟨_, rfl, ?_⟩; have hnb19 := NB304_305.out; have hnc19 := NB305_304.out; have hnb20 := NB304_306.out; have hnc20 := NB306_304.out; have hcz21_0 : w14.cell? ⟨gb304, 0, none⟩ = some (.int .i64 a1_0) := (blk_cell BK304.out 0).trans rfl; have hcz21_1 : w14.cell? ⟨gb304, 1, none⟩ = some (.int .i64 a1_1) := (blk_cell BK304.out 1).trans rfl; have hfz21_0 := blk_frozen BK304.out 0; have hfz21_1 := blk_frozen BK304.out 1) | ((with_reducible refine gate_callee (f := 64) rfl ?_); refine goesL_ (some 27) rfl rfl Try.func64 (by kernel_rfl) rfl #[.agg #[.int .i64 a1_0, .int .i64 a1_1]] rfl (by (try simp only [List.map_toArray, List.map_cons, List.map_nil]); first | done | rfl) ?_; (with_reducible refine (fr7_rangeErr.calls k a1_0 a1_1 t309 _ A6.out).mono ?_); rintro e w22 ⟨rfl, hb⟩; refine ⟨_, rfl, ?_⟩; have n0_ := Aside0.mk (blk_below (g := gb304) (o := .cells #[.int .i64 a1_0, .int .i64 a1_1] 35 (0, 0)) (by refine bk (blk_far ?_ NB304_307.out _); refine bk (blk_far ?_ NB304_307.out _); exact bk BK304.out) hb); have n1_ := Aside0.mk (blk_below (g := gb305) (o := .cells #[.int .i64 a2_0, .int .i64 a2_1] 35 (0, 0)) (by refine bk (blk_far ?_ NB305_307.out _); refine bk (blk_far ?_ NB305_307.out _); exact bk BK305.out) hb); have n2_ := Aside0.mk (blk_below (g := gb306) (o := .cells #[.int .i64 0, .int .i64 0] 35 (0, 0)) (by refine bk (blk_far ?_ NB306_307.out _); refine bk (blk_far ?_ NB306_307.out _); exact bk BK306.out) hb); have n3_ := Aside0.mk (blk_below (g := gb307) (o := .cells #[.int .i64 0, .int .i64 0] 35 (0, 0)) (by refine bk (blk_put (cs := #[.int .i64 0, .int .i64 0]) ?_ 1 _ rfl); refine bk (blk_put (cs := #[.int .i64 0, .int .i64 0]) ?_ 0 _ rfl); exact bk BK307.out) hb); have n4_ := Aside0.mk (below_step (by repeat (first | (with_reducible first | exact HB.out | apply below_alloc | apply pw_below_drewN | apply below_drew1 | refine below_set ?_ GE304.out | refine below_set ?_ GE305.out | refine below_set ?_ GE306.out | refine below_set ?_ GE307.out) | exact HB.out)) hb); clear BK304; clear BK305; clear BK306; clear BK307; clear HB; have BK304 := n0_; have BK305 := n1_; have BK306 := n2_; have BK307 := n3_; have HB := n4_; clear n0_ n1_ n2_ n3_ n4_; (try clear hb); (try clear hb2); (try clear hk); (try clear hi); have hnb23 := NB305_306.out; have hnc23 := NB306_305.out; have hcz24_0 : w22.cell? ⟨gb305, 0, none⟩ = some (.int .i64 a2_0) := (blk_cell BK305.out 0).trans rfl; have hcz24_1 : w22.cell? ⟨gb305, 1, none⟩ = some (.int .i64 a2_1) := (blk_cell BK305.out 1).trans rfl; have hfz24_0 := blk_frozen BK305.out 0; have hfz24_1 := blk_frozen BK305.out 1) | ((with_reducible refine gate_callee (f := 64) rfl ?_); refine goesL_ (some 33) rfl rfl Try.func64 (by kernel_rfl) rfl #[.agg #[.int .i64 a2_0, .int .i64 a2_1]] rfl (by (try simp only [List.map_toArray, List.map_cons, List.map_nil]); first | done | rfl) ?_; (with_reducible refine (fr7_rangeErr.calls k a2_0 a2_1 t310 _ A8.out).mono ?_); rintro e w25 ⟨rfl, hb⟩; refine ⟨_, rfl, ?_⟩; have n0_ := Aside0.mk (blk_below (g := gb304) (o := .cells #[.int .i64 a1_0, .int .i64 a1_1] 35 (0, 0)) (bk BK304.out) hb); have n1_ := Aside0.mk (blk_below (g := gb305) (o := .cells #[.int .i64 a2_0, .int .i64 a2_1] 35 (0, 0)) (bk BK305.out) hb); have n2_ := Aside0.mk (blk_below (g := gb306) (o := .cells #[.int .i64 0, .int .i64 0] 35 (0, 0)) (bk BK306.out) hb); have n3_ := Aside0.mk (blk_below (g := gb307) (o := .cells #[.int .i64 0, .int .i64 0] 35 (0, 0)) (bk BK307.out) hb); have n4_ := Aside0.mk (below_step (by repeat (first | (with_reducible first | exact HB.out | apply below_alloc | apply pw_below_drewN | apply below_drew1 | refine below_set ?_ GE304.out | refine below_set ?_ GE305.out | refine below_set ?_ GE306.out | refine below_set ?_ GE307.out) | exact HB.out)) hb); clear BK304; clear BK305; clear BK306; clear BK307; clear HB; have BK304 := n0_; have BK305 := n1_; have BK306 := n2_; have BK307 := n3_; have HB := n4_; clear n0_ n1_ n2_ n3_ n4_; (try clear hb); (try clear hb2); (try clear hk); (try clear hi)))
    (try simp only [Act.put, List.setIfInBounds_toArray, List.set_cons_zero, List.set_cons_succ])
    go_cut [50] (fun v50 wc => ∃ (kq : Nat) (x50_9 : Bool), v50 = .bool x50_9 ∧ Aside0 (fr7_RangeOf.j0 kq a0 x50_9 a1_0 a1_1 a2_0 a2_1 0 0 = some (r1, r2, r3)) ∧ Aside0 (kq ≤ k) ∧ Aside0 (wc.heap[gb304]? = some (.cells #[.int .i64 a1_0, .int .i64 a1_1] 35 (0, 0))) ∧ Aside0 (wc.heap[gb305]? = some (.cells #[.int .i64 a2_0, .int .i64 a2_1] 35 (0, 0))) ∧ Aside0 (wc.heap[gb306]? = some (.cells #[.int .i64 0, .int .i64 0] 35 (0, 0))) ∧ Aside0 (wc.heap[gb307]? = some (.cells #[.int .i64 0, .int .i64 0] 35 (0, 0))) ∧ Aside0 (Below w.heap.size w wc))
    case first =>
     have H := HC10.out;clear HC10
     by_cases c26 : a0 = 3
     ·rw [if_pos c26] at H
      have c26b0 : (a0 == 3) = true := beq_iff_eq.mpr c26
      have c26b1 : (a0 != 3) = false := bne_eq_false_iff_eq.mpr c26
      clear c26
      (first | rw [c26b0] | (simp only [i64_w, i32_w]; rw [c26b0]) | skip)
      replace H := Option.bind_eq_some_iff.mp H;obtain ⟨t311, A270, H⟩ := H
      try dsimp only at H
      have A27 := Aside0.mk A270;clear A270
      as_aux_lemma =>
       have H' := Aside0.mk H
       clear H;have hnb28 := NB305_304.out;have hnc28 := NB304_305.out;have hnb29 := NB305_306.out;have hnc29 := NB306_305.out;have hnb30 := NB305_307.out;have hnc30 := NB307_305.out
       have hcz31_0 : w25.cell? ⟨gb305, 0, none⟩ = some (.int .i64 a2_0) := (blk_cell BK305.out 0).trans rfl
       have hcz31_1 : w25.cell? ⟨gb305, 1, none⟩ = some (.int .i64 a2_1) := (blk_cell BK305.out 1).trans rfl
       have hfz31_0 := blk_frozen BK305.out 0;have hfz31_1 := blk_frozen BK305.out 1
       go_wp2_with (first | (go_at_call 19; (with_reducible refine (formularybase_Within.calls 0 a2_0 a2_1 t311 _ A27.out).mono ?_); rintro e w' ⟨rfl, ⟨nd, rfl⟩⟩))
       go_meet
       case rel => exact ⟨_, (t311), (by first | rfl | (simp; done) | (simp [*]; done)), H', ⟨by first | omega | exact Nat.le_refl _⟩, ⟨bk BK304.out⟩, ⟨bk BK305.out⟩, ⟨bk BK306.out⟩, ⟨bk BK307.out⟩, ⟨by repeat (first | (with_reducible first | exact HB.out | apply below_alloc | apply pw_below_drewN | apply below_drew1 | refine below_set ?_ GE304.out | refine below_set ?_ GE305.out | refine below_set ?_ GE306.out | refine below_set ?_ GE307.out) | exact HB.out)⟩⟩
     ·rw [if_neg c26] at H
      have c26b0 : (a0 == 3) = false := beq_eq_false_iff_ne.mpr c26
      have c26b1 : (a0 != 3) = true := bne_iff_ne.mpr c26
      (first | rw [c26b0] | (simp only [i64_w, i32_w]; rw [c26b0]) | skip)
      by_cases c32 : a0 = 4
      ·rw [if_pos c32] at H
       have c32b0 : (a0 == 4) = true := beq_iff_eq.mpr c32
       have c32b1 : (a0 != 4) = false := bne_eq_false_iff_eq.mpr c32
       clear c32;replace H := Option.bind_eq_some_iff.mp H;obtain ⟨t312, A330, H⟩ := H
       try dsimp only at H
       have A33 := Aside0.mk A330;clear A330
       as_aux_lemma =>
        have H' := Aside0.mk H
        clear H;have hnb34 := NB305_304.out;have hnc34 := NB304_305.out;have hnb35 := NB305_306.out;have hnc35 := NB306_305.out;have hnb36 := NB305_307.out;have hnc36 := NB307_305.out
        have hcz37_0 : w25.cell? ⟨gb305, 0, none⟩ = some (.int .i64 a2_0) := (blk_cell BK305.out 0).trans rfl
        have hcz37_1 : w25.cell? ⟨gb305, 1, none⟩ = some (.int .i64 a2_1) := (blk_cell BK305.out 1).trans rfl
        have hfz37_0 := blk_frozen BK305.out 0;have hfz37_1 := blk_frozen BK305.out 1
        go_wp2_with (first | (go_at_call 19; (with_reducible refine (formularybase_Within.calls 0 a2_0 a2_1 t312 _ A33.out).mono ?_); rintro e w' ⟨rfl, ⟨nd, rfl⟩⟩))
        go_meet
        case rel => exact ⟨_, (t312), (by first | rfl | (simp; done) | (simp [*]; done)), H', ⟨by first | omega | exact Nat.le_refl _⟩, ⟨bk BK304.out⟩, ⟨bk BK305.out⟩, ⟨bk BK306.out⟩, ⟨bk BK307.out⟩, ⟨by repeat (first | (with_reducible first | exact HB.out | apply below_alloc | apply pw_below_drewN | apply below_drew1 | refine below_set ?_ GE304.out | refine below_set ?_ GE305.out | refine below_set ?_ GE306.out | refine below_set ?_ GE307.out) | exact HB.out)⟩⟩
      ·rw [if_neg c32] at H
       have c32b0 : (a0 == 4) = false := beq_eq_false_iff_ne.mpr c32
       have c32b1 : (a0 != 4) = true := bne_iff_ne.mpr c32
       as_aux_lemma =>
        have H' := Aside0.mk H
        clear H
        go_wp2
        go_meet
        case rel => exact ⟨_, (false), (by first | rfl | (simp; done) | (simp [*]; done)), H', ⟨by first | omega | exact Nat.le_refl _⟩, ⟨bk BK304.out⟩, ⟨bk BK305.out⟩, ⟨bk BK306.out⟩, ⟨bk BK307.out⟩, ⟨by repeat (first | (with_reducible first | exact HB.out | apply below_alloc | apply pw_below_drewN | apply below_drew1 | refine below_set ?_ GE304.out | refine below_set ?_ GE305.out | refine below_set ?_ GE306.out | refine below_set ?_ GE307.out) | exact HB.out)⟩⟩
    case rest =>
     clear HC10;obtain ⟨kq, x50_9, rfl, HA, HJ9, BK304, BK305, BK306, BK307, HB⟩ := hcut
     cases kq with
     | zero => exact absurd HA.out (by simp [fr7_RangeOf.j0])
     | succ kj9 =>
      have H := HA.out;clear HA;simp only [fr7_RangeOf.j0] at H
      by_cases c38 : x50_9 = true
      ·subst c38
       have H1 : (some (0, 0, 11)) = some (r1, r2, r3) := by rw [if_pos rfl] at H; exact H
       clear H;have H := H1;clear H1
       as_aux_lemma =>
        simp only [Option.some.injEq, Prod.mk.injEq] at H;obtain ⟨rfl, rfl, rfl⟩ := H;have hnb39 := NB307_304.out;have hnc39 := NB304_307.out;have hnb40 := NB307_305.out;have hnc40 := NB305_307.out;have hnb41 := NB307_306.out;have hnc41 := NB306_307.out
        have hcz42_0 : wc.cell? ⟨gb307, 0, none⟩ = some (.int .i64 0) := (blk_cell BK307.out 0).trans rfl
        have hcz42_1 : wc.cell? ⟨gb307, 1, none⟩ = some (.int .i64 0) := (blk_cell BK307.out 1).trans rfl
        have hfz42_0 := blk_frozen BK307.out 0;have hfz42_1 := blk_frozen BK307.out 1;have hnb43 := NB306_304.out;have hnc43 := NB304_306.out;have hnb44 := NB306_305.out;have hnc44 := NB305_306.out
        have hcz45_0 : wc.cell? ⟨gb306, 0, none⟩ = some (.int .i64 0) := (blk_cell BK306.out 0).trans rfl
        have hcz45_1 : wc.cell? ⟨gb306, 1, none⟩ = some (.int .i64 0) := (blk_cell BK306.out 1).trans rfl
        have hfz45_0 := blk_frozen BK306.out 0;have hfz45_1 := blk_frozen BK306.out 1
        go_wp2
        refine bodyPost_ret (results_ct rfl _ _ gb306 35 #[.int .i64 0, .int .i64 0] (0, 0) _ rfl (by refine bk (blk_put (cs := #[.int .i64 0, .int .i64 0]) ?_ 1 _ rfl); refine bk (blk_put (cs := #[.int .i64 0, .int .i64 0]) ?_ 0 _ rfl); exact bk BK306.out) Try.underlying35 rfl (by kernel_rfl)) rfl ?_
        exact ⟨by first | rfl | (simp [*] <;> rfl), by repeat (first | (with_reducible first | exact HB.out | apply below_alloc | apply pw_below_drewN | apply below_drew1 | refine below_set ?_ GE304.out | refine below_set ?_ GE305.out | refine below_set ?_ GE306.out | refine below_set ?_ GE307.out) | exact HB.out)⟩
      ·replace c38 := Bool.eq_false_iff.mpr c38
       subst c38
       have H1 : ((fr7_ends.f kj9 a1_0 a1_1).bind fun t313 => ((fr7_ends.f kj9 a2_0 a2_1).bind fun t316 => (if a0 = 4 then (if (wrap64 (a1_1 - a1_0)) ≥ 200 then (fr7_RangeOf.j1 kj9 a0 true a1_0 a1_1 a2_0 a2_1 0 0) else (fr7_RangeOf.j1 kj9 a0 (decide ((wrap64 (a2_1 - a2_0)) ≥ 200)) a1_0 a1_1 a2_0 a2_1 0 0)) else (fr7_RangeOf.j2 kj9 a0 t313 t316 0 0)))) = some (r1, r2, r3) := by rw [if_neg (show ¬ (false = true) by decide)] at H; exact H
       clear H;have H := H1;clear H1;replace H := Option.bind_eq_some_iff.mp H;obtain ⟨t313, A460, H⟩ := H
       try dsimp only at H
       have A46 := Aside0.mk A460;clear A460;replace H := Option.bind_eq_some_iff.mp H;obtain ⟨t316, A470, H⟩ := H
       try dsimp only at H
       have A47 := Aside0.mk A470;clear A470;have HC48 := Aside0.mk H;clear H
       try go_wp2
       have n0_ := Aside0.mk (blk_drew BK304.out);have n1_ := Aside0.mk (blk_drew BK305.out);have n2_ := Aside0.mk (blk_drew BK306.out);have n3_ := Aside0.mk (blk_drew BK307.out);have n4_ := Aside0.mk (below_drew1 HB.out);clear BK304;clear BK305;clear BK306;clear BK307;clear HB;have BK304 := n0_;have BK305 := n1_;have BK306 := n2_;have BK307 := n3_;have HB := n4_;clear n0_ n1_ n2_ n3_ n4_
       refine start_ (n := 6) (S := fun w' => w'.cell? ⟨gb304, 0, none⟩ = some (.int .i64 a1_0) ∧ w'.cell? ⟨gb304, 1, none⟩ = some (.int .i64 a1_1) ∧ w'.cell? ⟨gb305, 0, none⟩ = some (.int .i64 a2_0) ∧ w'.cell? ⟨gb305, 1, none⟩ = some (.int .i64 a2_1)) (ds := []) #[false, false, false, false, false, false] (by kernel_rfl) rfl rfl ⟨(blk_cell BK304.out 0).trans rfl, (blk_cell BK304.out 1).trans rfl, (blk_cell BK305.out 0).trans rfl, (blk_cell BK305.out 1).trans rfl⟩ (fun hHeld => ?_)
       generalize wc.drew = w49 at BK304 BK305 BK306 BK307 HB hHeld ⊢
       refine take_ (i := 0) (N := some 52) (v := ?_) (a' := ?_) #[true, false, false, false, false, false] rfl rfl (by kernel_rfl) (fun _ _ _ h => h) (Or.inl ⟨by rfl, ?_⟩) hHeld ?_ ?_
       rotate_left
       ·rintro w' ⟨s0, s1, s2, s3⟩
        go_simp
        with_reducible rfl
       rotate_left
       ·simp only [Act.put, List.setIfInBounds_toArray, List.set_cons_zero, List.set_cons_succ, i64_w, i32_w]
        rfl
       refine take_ (i := 2) (N := some 54) (v := ?_) (a' := ?_) #[true, false, true, false, false, false] rfl rfl (by kernel_rfl) (fun _ _ _ h => h) (Or.inl ⟨by rfl, ?_⟩) hHeld ?_ ?_
       rotate_left
       ·rintro w' ⟨s0, s1, s2, s3⟩
        go_simp
        with_reducible rfl
       rotate_left
       ·simp only [Act.put, List.setIfInBounds_toArray, List.set_cons_zero, List.set_cons_succ, i64_w, i32_w]
        rfl
       refine one_ (i := 1) (N := some 53) #[true, true, true, false, false, false] rfl rfl (by kernel_rfl) (by decide) (fun K hK => ?_)
       refine goes_ Try.func65 (by kernel_rfl) rfl #[.agg #[.int .i64 a1_0, .int .i64 a1_1]] (by rfl) rfl rfl (by (try simp only [List.map_toArray, List.map_cons, List.map_nil]); first | done | rfl) ?_
       with_reducible refine (fr7_ends.calls kj9 a1_0 a1_1 t313 _ A46.out).mono ?_
       rintro e w50 ⟨v314, rfl, ho0, hb⟩
       refine ⟨_, rfl, ?_⟩
       have n0_ := Aside0.mk (Kd.R_lower ho0 (below_size (by repeat (first | (with_reducible first | exact HB.out | apply below_alloc | apply pw_below_drewN | apply below_drew1 | refine below_set ?_ GE304.out | refine below_set ?_ GE305.out | refine below_set ?_ GE306.out | refine below_set ?_ GE307.out) | exact HB.out))))
       have n1_ := Aside0.mk (blk_below (g := gb304) (o := .cells #[.int .i64 a1_0, .int .i64 a1_1] 35 (0, 0)) (bk BK304.out) hb);have n2_ := Aside0.mk (blk_below (g := gb305) (o := .cells #[.int .i64 a2_0, .int .i64 a2_1] 35 (0, 0)) (bk BK305.out) hb);have n3_ := Aside0.mk (blk_below (g := gb306) (o := .cells #[.int .i64 0, .int .i64 0] 35 (0, 0)) (bk BK306.out) hb);have n4_ := Aside0.mk (blk_below (g := gb307) (o := .cells #[.int .i64 0, .int .i64 0] 35 (0, 0)) (bk BK307.out) hb)
       have n5_ := Aside0.mk (below_step (by repeat (first | (with_reducible first | exact HB.out | apply below_alloc | apply pw_below_drewN | apply below_drew1 | refine below_set ?_ GE304.out | refine below_set ?_ GE305.out | refine below_set ?_ GE306.out | refine below_set ?_ GE307.out) | exact HB.out)) hb)
       clear BK304;clear BK305;clear BK306;clear BK307;clear HB;have HO315 := n0_;have BK304 := n1_;have BK305 := n2_;have BK306 := n3_;have BK307 := n4_;have HB := n5_;clear n0_ n1_ n2_ n3_ n4_ n5_
       (try clear hb)
       (try clear hb2)
       (try clear hk)
       (try clear hi)
       (try clear ho0)
       refine hK.out _ _ ⟨(blk_cell BK304.out 0).trans rfl, (blk_cell BK304.out 1).trans rfl, (blk_cell BK305.out 0).trans rfl, (blk_cell BK305.out 1).trans rfl⟩ (fun hHeld => ?_)
       clear hK K
       refine norm_ (a' := ?_) ?_ ?_
       rotate_left
       ·show Act.put _ (some 53) _ = _
        simp only [Act.put, List.setIfInBounds_toArray, List.set_cons_zero, List.set_cons_succ, i64_w, i32_w]
        rfl
       refine one_ (i := 3) (N := some 55) #[true, true, true, true, false, false] rfl rfl (by kernel_rfl) (by decide) (fun K hK => ?_)
       refine goes_ Try.func65 (by kernel_rfl) rfl #[.agg #[.int .i64 a2_0, .int .i64 a2_1]] (by rfl) rfl rfl (by (try simp only [List.map_toArray, List.map_cons, List.map_nil]); first | done | rfl) ?_
       with_reducible refine (fr7_ends.calls kj9 a2_0 a2_1 t316 _ A47.out).mono ?_
       rintro e w51 ⟨v317, rfl, ho0, hb⟩
       refine ⟨_, rfl, ?_⟩
       have n0_ := Aside0.mk (Kd.R_elder' (by (with_reducible repeat (first | apply Kd.R_alloc | apply Kd.R_drewN | apply Kd.R_drew)); exact HO315.out) (Kd.R_base ho0) hb)
       have n1_ := Aside0.mk (Kd.R_lower (Kd.R_new' ho0 (Kd.R_lt (by (with_reducible repeat (first | apply Kd.R_alloc | apply Kd.R_drewN | apply Kd.R_drew)); exact HO315.out))) (below_size (by repeat (first | (with_reducible first | exact HB.out | apply below_alloc | apply pw_below_drewN | apply below_drew1 | refine below_set ?_ GE304.out | refine below_set ?_ GE305.out | refine below_set ?_ GE306.out | refine below_set ?_ GE307.out) | exact HB.out))))
       have n2_ := Aside0.mk (blk_below (g := gb304) (o := .cells #[.int .i64 a1_0, .int .i64 a1_1] 35 (0, 0)) (bk BK304.out) hb);have n3_ := Aside0.mk (blk_below (g := gb305) (o := .cells #[.int .i64 a2_0, .int .i64 a2_1] 35 (0, 0)) (bk BK305.out) hb);have n4_ := Aside0.mk (blk_below (g := gb306) (o := .cells #[.int .i64 0, .int .i64 0] 35 (0, 0)) (bk BK306.out) hb);have n5_ := Aside0.mk (blk_below (g := gb307) (o := .cells #[.int .i64 0, .int .i64 0] 35 (0, 0)) (bk BK307.out) hb)
       have n6_ := Aside0.mk (below_step (by repeat (first | (with_reducible first | exact HB.out | apply below_alloc | apply pw_below_drewN | apply below_drew1 | refine below_set ?_ GE304.out | refine below_set ?_ GE305.out | refine below_set ?_ GE306.out | refine below_set ?_ GE307.out) | exact HB.out)) hb)
       clear HO315;clear BK304;clear BK305;clear BK306;clear BK307;clear HB;have HO315 := n0_;have HO318 := n1_;have BK304 := n2_;have BK305 := n3_;have BK306 := n4_;have BK307 := n5_;have HB := n6_;clear n0_ n1_ n2_ n3_ n4_ n5_ n6_
       (try clear hb)
       (try clear hb2)
       (try clear hk)
       (try clear hi)
       (try clear ho0)
       refine hK.out _ _ ⟨(blk_cell BK304.out 0).trans rfl, (blk_cell BK304.out 1).trans rfl, (blk_cell BK305.out 0).trans rfl, (blk_cell BK305.out 1).trans rfl⟩ (fun hHeld => ?_)
       clear hK K
       refine norm_ (a' := ?_) ?_ ?_
       rotate_left
       ·show Act.put _ (some 55) _ = _
        simp only [Act.put, List.setIfInBounds_toArray, List.set_cons_zero, List.set_cons_succ, i64_w, i32_w]
        rfl
       refine pure_ (i := 4) (N := some 12) (v := ?_) (a' := ?_) #[true, true, true, true, true, false] rfl rfl (by kernel_rfl) (fun _ _ _ h => h) (Or.inl ⟨by rfl, ?_⟩) ?_ ?_
       rotate_left
       ·intro w'
        go_simp
        with_reducible rfl
       rotate_left
       ·simp only [Act.put, List.setIfInBounds_toArray, List.set_cons_zero, List.set_cons_succ, i64_w, i32_w]
        rfl
       refine pure_ (i := 5) (N := some 13) (v := ?_) (a' := ?_) #[true, true, true, true, true, true] rfl rfl (by kernel_rfl) (fun _ _ _ h => h) (Or.inl ⟨by rfl, ?_⟩) ?_ ?_
       rotate_left
       ·intro w'
        go_simp
        with_reducible rfl
       rotate_left
       ·simp only [Act.put, List.setIfInBounds_toArray, List.set_cons_zero, List.set_cons_succ, i64_w, i32_w]
        rfl
       refine done_ (by kernel_rfl) ?_
       go_upto_if 57 with (fail)
       go_cut [12, 13] (fun v12 v13 wc => ∃ (kq : Nat) (x12_47 : List Int) (x13_47 : List Int) (x307000_47 : Int) (x307001_47 : Int), Aside0 (fr7_RangeOf.j2 kq a0 x12_47 x13_47 0 0 = some (r1, r2, r3)) ∧ Aside0 (kq ≤ kj9) ∧ Aside0 (Kd.R (Kd.int .i64) 3 wc w.heap.size (fun k_ => some k_ ≠ (v13 : Value).ownBlock) v12 x12_47) ∧ Aside0 (Kd.R (Kd.int .i64) 3 wc w.heap.size (fun k_ => some k_ ≠ (v12 : Value).ownBlock) v13 x13_47) ∧ Aside0 (wc.heap[gb304]? = some (.cells #[.int .i64 a1_0, .int .i64 a1_1] 35 (0, 0))) ∧ Aside0 (wc.heap[gb305]? = some (.cells #[.int .i64 a2_0, .int .i64 a2_1] 35 (0, 0))) ∧ Aside0 (wc.heap[gb306]? = some (.cells #[.int .i64 x307000_47, .int .i64 x307001_47] 35 (0, 0))) ∧ Aside0 (wc.heap[gb307]? = some (.cells #[.int .i64 0, .int .i64 0] 35 (0, 0))) ∧ Aside0 (Below w.heap.size w wc))
       case first =>
        have H := HC48.out;clear HC48
        by_cases c52 : a0 = 4
        ·rw [if_pos c52] at H
         have c52b0 : (a0 == 4) = true := beq_iff_eq.mpr c52
         have c52b1 : (a0 != 4) = false := bne_eq_false_iff_eq.mpr c52
         clear c52
         (first | rw [c52b0] | (simp only [i64_w, i32_w]; rw [c52b0]) | skip)
         have HC53 := Aside0.mk H;clear H
         go_upto_region 15 with (fail)
         go_cut [71] (fun v71 wc => ∃ (kq : Nat) (x71_52 : Bool), v71 = .bool x71_52 ∧ Aside0 (fr7_RangeOf.j1 kq a0 x71_52 a1_0 a1_1 a2_0 a2_1 0 0 = some (r1, r2, r3)) ∧ Aside0 (kq ≤ kj9) ∧ Aside0 (wc.heap[gb304]? = some (.cells #[.int .i64 a1_0, .int .i64 a1_1] 35 (0, 0))) ∧ Aside0 (wc.heap[gb305]? = some (.cells #[.int .i64 a2_0, .int .i64 a2_1] 35 (0, 0))) ∧ Aside0 (wc.heap[gb306]? = some (.cells #[.int .i64 0, .int .i64 0] 35 (0, 0))) ∧ Aside0 (wc.heap[gb307]? = some (.cells #[.int .i64 0, .int .i64 0] 35 (0, 0))) ∧ Aside0 (Below w.heap.size w wc))
         case first =>
          have H := HC53.out;clear HC53
          by_cases c54 : (wrap64 (a1_1 - a1_0)) ≥ 200
          ·rw [if_pos c54] at H
           have c54b0 : decide (200 ≤ (wrap64 (a1_1 - a1_0))) = true := decide_eq_true c54
           clear c54
           (first | rw [c54b0] | (simp only [i64_w, i32_w]; rw [c54b0]) | skip)
           as_aux_lemma =>
            have H' := Aside0.mk H
            clear H;have hnb55 := NB304_305.out;have hnc55 := NB305_304.out;have hnb56 := NB304_306.out;have hnc56 := NB306_304.out;have hnb57 := NB304_307.out;have hnc57 := NB307_304.out
            have hcz58_0 : w51.cell? ⟨gb304, 0, none⟩ = some (.int .i64 a1_0) := (blk_cell BK304.out 0).trans rfl
            have hcz58_1 : w51.cell? ⟨gb304, 1, none⟩ = some (.int .i64 a1_1) := (blk_cell BK304.out 1).trans rfl
            have hfz58_0 := blk_frozen BK304.out 0;have hfz58_1 := blk_frozen BK304.out 1
            go_wp2
            go_meet
            case rel => exact ⟨_, (true), (by first | rfl | (simp; done) | (simp [*]; done)), H', ⟨by have := HJ9.out; first | omega | exact Nat.le_refl _⟩, ⟨bk BK304.out⟩, ⟨bk BK305.out⟩, ⟨bk BK306.out⟩, ⟨bk BK307.out⟩, ⟨by repeat (first | (with_reducible first | exact HB.out | apply below_alloc | apply pw_below_drewN | apply below_drew1 | refine below_set ?_ GE304.out | refine below_set ?_ GE305.out | refine below_set ?_ GE306.out | refine below_set ?_ GE307.out) | exact HB.out)⟩⟩
          ·rw [if_neg c54] at H
           have c54b0 : decide (200 ≤ (wrap64 (a1_1 - a1_0))) = false := decide_eq_false c54
           clear c54
           (first | rw [c54b0] | (simp only [i64_w, i32_w]; rw [c54b0]) | skip)
           as_aux_lemma =>
            have H' := Aside0.mk H
            clear H;have hnb59 := NB304_305.out;have hnc59 := NB305_304.out;have hnb60 := NB304_306.out;have hnc60 := NB306_304.out;have hnb61 := NB304_307.out;have hnc61 := NB307_304.out
            have hcz62_0 : w51.cell? ⟨gb304, 0, none⟩ = some (.int .i64 a1_0) := (blk_cell BK304.out 0).trans rfl
            have hcz62_1 : w51.cell? ⟨gb304, 1, none⟩ = some (.int .i64 a1_1) := (blk_cell BK304.out 1).trans rfl
            have hfz62_0 := blk_frozen BK304.out 0;have hfz62_1 := blk_frozen BK304.out 1;have hnb63 := NB305_306.out;have hnc63 := NB306_305.out;have hnb64 := NB305_307.out;have hnc64 := NB307_305.out
            have hcz65_0 : w51.cell? ⟨gb305, 0, none⟩ = some (.int .i64 a2_0) := (blk_cell BK305.out 0).trans rfl
            have hcz65_1 : w51.cell? ⟨gb305, 1, none⟩ = some (.int .i64 a2_1) := (blk_cell BK305.out 1).trans rfl
            have hfz65_0 := blk_frozen BK305.out 0;have hfz65_1 := blk_frozen BK305.out 1
            go_wp2
            go_meet
            case rel => exact ⟨_, (decide ((wrap64 (a2_1 - a2_0)) ≥ 200)), (by first | rfl | (simp; done) | (simp [*]; done)), H', ⟨by have := HJ9.out; first | omega | exact Nat.le_refl _⟩, ⟨bk BK304.out⟩, ⟨bk BK305.out⟩, ⟨bk BK306.out⟩, ⟨bk BK307.out⟩, ⟨by repeat (first | (with_reducible first | exact HB.out | apply below_alloc | apply pw_below_drewN | apply below_drew1 | refine below_set ?_ GE304.out | refine below_set ?_ GE305.out | refine below_set ?_ GE306.out | refine below_set ?_ GE307.out) | exact HB.out)⟩⟩
         case rest =>
          clear HC53;obtain ⟨kq, x71_52, rfl, HA, HJ52, BK304, BK305, BK306, BK307, HB⟩ := hcut
          cases kq with
          | zero => exact absurd HA.out (by simp [fr7_RangeOf.j1])
          | succ kj52 =>
           have H := HA.out;clear HA;simp only [fr7_RangeOf.j1] at H
           by_cases c66 : x71_52 = true
           ·subst c66
            have H1 : (some (0, 0, 8)) = some (r1, r2, r3) := by rw [if_pos rfl] at H; exact H
            clear H;have H := H1;clear H1
            as_aux_lemma =>
             simp only [Option.some.injEq, Prod.mk.injEq] at H;obtain ⟨rfl, rfl, rfl⟩ := H;have hnb67 := NB307_304.out;have hnc67 := NB304_307.out;have hnb68 := NB307_305.out;have hnc68 := NB305_307.out;have hnb69 := NB307_306.out;have hnc69 := NB306_307.out
             have hcz70_0 : wc.cell? ⟨gb307, 0, none⟩ = some (.int .i64 0) := (blk_cell BK307.out 0).trans rfl
             have hcz70_1 : wc.cell? ⟨gb307, 1, none⟩ = some (.int .i64 0) := (blk_cell BK307.out 1).trans rfl
             have hfz70_0 := blk_frozen BK307.out 0;have hfz70_1 := blk_frozen BK307.out 1;have hnb71 := NB306_304.out;have hnc71 := NB304_306.out;have hnb72 := NB306_305.out;have hnc72 := NB305_306.out
             have hcz73_0 : wc.cell? ⟨gb306, 0, none⟩ = some (.int .i64 0) := (blk_cell BK306.out 0).trans rfl
             have hcz73_1 : wc.cell? ⟨gb306, 1, none⟩ = some (.int .i64 0) := (blk_cell BK306.out 1).trans rfl
             have hfz73_0 := blk_frozen BK306.out 0;have hfz73_1 := blk_frozen BK306.out 1
             go_wp2
             refine bodyPost_ret (results_ct rfl _ _ gb306 35 #[.int .i64 0, .int .i64 0] (0, 0) _ rfl (by refine bk (blk_put (cs := #[.int .i64 0, .int .i64 0]) ?_ 1 _ rfl); refine bk (blk_put (cs := #[.int .i64 0, .int .i64 0]) ?_ 0 _ rfl); exact bk BK306.out) Try.underlying35 rfl (by kernel_rfl)) rfl ?_
             exact ⟨by first | rfl | (simp [*] <;> rfl), by repeat (first | (with_reducible first | exact HB.out | apply below_alloc | apply pw_below_drewN | apply below_drew1 | refine below_set ?_ GE304.out | refine below_set ?_ GE305.out | refine below_set ?_ GE306.out | refine below_set ?_ GE307.out) | exact HB.out)⟩
           ·replace c66 := Bool.eq_false_iff.mpr c66
            subst c66
            have H1 : ((fr7_members.f kj52 a1_0 a1_1).bind fun t319 => ((fr7_members.f kj52 a2_0 a2_1).bind fun t322 => (fr7_RangeOf.j2 kj52 a0 t319 t322 0 0))) = some (r1, r2, r3) := by rw [if_neg (show ¬ (false = true) by decide)] at H; exact H
            clear H;have H := H1;clear H1;replace H := Option.bind_eq_some_iff.mp H;obtain ⟨t319, A740, H⟩ := H
            try dsimp only at H
            have A74 := Aside0.mk A740;clear A740;replace H := Option.bind_eq_some_iff.mp H;obtain ⟨t322, A750, H⟩ := H
            try dsimp only at H
            have A75 := Aside0.mk A750;clear A750
            as_aux_lemma =>
             have H' := Aside0.mk H
             clear H
             try go_wp2
             have n0_ := Aside0.mk (blk_drew BK304.out);have n1_ := Aside0.mk (blk_drew BK305.out);have n2_ := Aside0.mk (blk_drew BK306.out);have n3_ := Aside0.mk (blk_drew BK307.out);have n4_ := Aside0.mk (below_drew1 HB.out);clear BK304;clear BK305;clear BK306;clear BK307;clear HB;have BK304 := n0_;have BK305 := n1_;have BK306 := n2_;have BK307 := n3_;have HB := n4_;clear n0_ n1_ n2_ n3_ n4_
             refine start_ (n := 6) (S := fun w' => w'.cell? ⟨gb304, 0, none⟩ = some (.int .i64 a1_0) ∧ w'.cell? ⟨gb304, 1, none⟩ = some (.int .i64 a1_1) ∧ w'.cell? ⟨gb305, 0, none⟩ = some (.int .i64 a2_0) ∧ w'.cell? ⟨gb305, 1, none⟩ = some (.int .i64 a2_1)) (ds := []) #[false, false, false, false, false, false] (by kernel_rfl) rfl rfl ⟨(blk_cell BK304.out 0).trans rfl, (blk_cell BK304.out 1).trans rfl, (blk_cell BK305.out 0).trans rfl, (blk_cell BK305.out 1).trans rfl⟩ (fun hHeld => ?_)
             generalize wc.drew = w76 at BK304 BK305 BK306 BK307 HB hHeld ⊢
             refine take_ (i := 0) (N := some 73) (v := ?_) (a' := ?_) #[true, false, false, false, false, false] rfl rfl (by kernel_rfl) (fun _ _ _ h => h) (Or.inl ⟨by rfl, ?_⟩) hHeld ?_ ?_
             rotate_left
             ·rintro w' ⟨s0, s1, s2, s3⟩
              go_simp
              with_reducible rfl
             rotate_left
             ·simp only [Act.put, List.setIfInBounds_toArray, List.set_cons_zero, List.set_cons_succ, i64_w, i32_w]
              rfl
             refine take_ (i := 2) (N := some 75) (v := ?_) (a' := ?_) #[true, false, true, false, false, false] rfl rfl (by kernel_rfl) (fun _ _ _ h => h) (Or.inl ⟨by rfl, ?_⟩) hHeld ?_ ?_
             rotate_left
             ·rintro w' ⟨s0, s1, s2, s3⟩
              go_simp
              with_reducible rfl
             rotate_left
             ·simp only [Act.put, List.setIfInBounds_toArray, List.set_cons_zero, List.set_cons_succ, i64_w, i32_w]
              rfl
             refine one_ (i := 1) (N := some 74) #[true, true, true, false, false, false] rfl rfl (by kernel_rfl) (by decide) (fun K hK => ?_)
             refine goes_ Try.func66 (by kernel_rfl) rfl #[.agg #[.int .i64 a1_0, .int .i64 a1_1]] (by rfl) rfl rfl (by (try simp only [List.map_toArray, List.map_cons, List.map_nil]); first | done | rfl) ?_
             with_reducible refine (fr7_members.calls kj52 a1_0 a1_1 t319 _ A74.out).mono ?_
             rintro e w77 ⟨v320, rfl, ho0, hb⟩
             refine ⟨_, rfl, ?_⟩
             have n0_ := Aside0.mk (Kd.R_lower ho0 (below_size (by repeat (first | (with_reducible first | exact HB.out | apply below_alloc | apply pw_below_drewN | apply below_drew1 | refine below_set ?_ GE304.out | refine below_set ?_ GE305.out | refine below_set ?_ GE306.out | refine below_set ?_ GE307.out) | exact HB.out))))
             have n1_ := Aside0.mk (blk_below (g := gb304) (o := .cells #[.int .i64 a1_0, .int .i64 a1_1] 35 (0, 0)) (bk BK304.out) hb);have n2_ := Aside0.mk (blk_below (g := gb305) (o := .cells #[.int .i64 a2_0, .int .i64 a2_1] 35 (0, 0)) (bk BK305.out) hb);have n3_ := Aside0.mk (blk_below (g := gb306) (o := .cells #[.int .i64 0, .int .i64 0] 35 (0, 0)) (bk BK306.out) hb);have n4_ := Aside0.mk (blk_below (g := gb307) (o := .cells #[.int .i64 0, .int .i64 0] 35 (0, 0)) (bk BK307.out) hb)
             have n5_ := Aside0.mk (below_step (by repeat (first | (with_reducible first | exact HB.out | apply below_alloc | apply pw_below_drewN | apply below_drew1 | refine below_set ?_ GE304.out | refine below_set ?_ GE305.out | refine below_set ?_ GE306.out | refine below_set ?_ GE307.out) | exact HB.out)) hb)
             clear BK304;clear BK305;clear BK306;clear BK307;clear HB;have HO321 := n0_;have BK304 := n1_;have BK305 := n2_;have BK306 := n3_;have BK307 := n4_;have HB := n5_;clear n0_ n1_ n2_ n3_ n4_ n5_
             (try clear hb)
             (try clear hb2)
             (try clear hk)
             (try clear hi)
             (try clear ho0)
             refine hK.out _ _ ⟨(blk_cell BK304.out 0).trans rfl, (blk_cell BK304.out 1).trans rfl, (blk_cell BK305.out 0).trans rfl, (blk_cell BK305.out 1).trans rfl⟩ (fun hHeld => ?_)
             clear hK K
             refine norm_ (a' := ?_) ?_ ?_
             rotate_left
             ·show Act.put _ (some 74) _ = _
              simp only [Act.put, List.setIfInBounds_toArray, List.set_cons_zero, List.set_cons_succ, i64_w, i32_w]
              rfl
             refine one_ (i := 3) (N := some 76) #[true, true, true, true, false, false] rfl rfl (by kernel_rfl) (by decide) (fun K hK => ?_)
             refine goes_ Try.func66 (by kernel_rfl) rfl #[.agg #[.int .i64 a2_0, .int .i64 a2_1]] (by rfl) rfl rfl (by (try simp only [List.map_toArray, List.map_cons, List.map_nil]); first | done | rfl) ?_
             with_reducible refine (fr7_members.calls kj52 a2_0 a2_1 t322 _ A75.out).mono ?_
             rintro e w78 ⟨v323, rfl, ho0, hb⟩
             refine ⟨_, rfl, ?_⟩
             have n0_ := Aside0.mk (Kd.R_elder' (by (with_reducible repeat (first | apply Kd.R_alloc | apply Kd.R_drewN | apply Kd.R_drew)); exact HO321.out) (Kd.R_base ho0) hb)
             have n1_ := Aside0.mk (Kd.R_lower (Kd.R_new' ho0 (Kd.R_lt (by (with_reducible repeat (first | apply Kd.R_alloc | apply Kd.R_drewN | apply Kd.R_drew)); exact HO321.out))) (below_size (by repeat (first | (with_reducible first | exact HB.out | apply below_alloc | apply pw_below_drewN | apply below_drew1 | refine below_set ?_ GE304.out | refine below_set ?_ GE305.out | refine below_set ?_ GE306.out | refine below_set ?_ GE307.out) | exact HB.out))))
             have n2_ := Aside0.mk (blk_below (g := gb304) (o := .cells #[.int .i64 a1_0, .int .i64 a1_1] 35 (0, 0)) (bk BK304.out) hb);have n3_ := Aside0.mk (blk_below (g := gb305) (o := .cells #[.int .i64 a2_0, .int .i64 a2_1] 35 (0, 0)) (bk BK305.out) hb);have n4_ := Aside0.mk (blk_below (g := gb306) (o := .cells #[.int .i64 0, .int .i64 0] 35 (0, 0)) (bk BK306.out) hb);have n5_ := Aside0.mk (blk_below (g := gb307) (o := .cells #[.int .i64 0, .int .i64 0] 35 (0, 0)) (bk BK307.out) hb)
             have n6_ := Aside0.mk (below_step (by repeat (first | (with_reducible first | exact HB.out | apply below_alloc | apply pw_below_drewN | apply below_drew1 | refine below_set ?_ GE304.out | refine below_set ?_ GE305.out | refine below_set ?_ GE306.out | refine below_set ?_ GE307.out) | exact HB.out)) hb)
             clear HO321;clear BK304;clear BK305;clear BK306;clear BK307;clear HB;have HO321 := n0_;have HO324 := n1_;have BK304 := n2_;have BK305 := n3_;have BK306 := n4_;have BK307 := n5_;have HB := n6_;clear n0_ n1_ n2_ n3_ n4_ n5_ n6_
             (try clear hb)
             (try clear hb2)
             (try clear hk)
             (try clear hi)
             (try clear ho0)
             refine hK.out _ _ ⟨(blk_cell BK304.out 0).trans rfl, (blk_cell BK304.out 1).trans rfl, (blk_cell BK305.out 0).trans rfl, (blk_cell BK305.out 1).trans rfl⟩ (fun hHeld => ?_)
             clear hK K
             refine norm_ (a' := ?_) ?_ ?_
             rotate_left
             ·show Act.put _ (some 76) _ = _
              simp only [Act.put, List.setIfInBounds_toArray, List.set_cons_zero, List.set_cons_succ, i64_w, i32_w]
              rfl
             refine pure_ (i := 4) (N := some 12) (v := ?_) (a' := ?_) #[true, true, true, true, true, false] rfl rfl (by kernel_rfl) (fun _ _ _ h => h) (Or.inl ⟨by rfl, ?_⟩) ?_ ?_
             rotate_left
             ·intro w'
              go_simp
              with_reducible rfl
             rotate_left
             ·simp only [Act.put, List.setIfInBounds_toArray, List.set_cons_zero, List.set_cons_succ, i64_w, i32_w]
              rfl
             refine pure_ (i := 5) (N := some 13) (v := ?_) (a' := ?_) #[true, true, true, true, true, true] rfl rfl (by kernel_rfl) (fun _ _ _ h => h) (Or.inl ⟨by rfl, ?_⟩) ?_ ?_
             rotate_left
             ·intro w'
              go_simp
              with_reducible rfl
             rotate_left
             ·simp only [Act.put, List.setIfInBounds_toArray, List.set_cons_zero, List.set_cons_succ, i64_w, i32_w]
              rfl
             refine done_ (by kernel_rfl) ?_
             try go_wp2
             go_meet
             case rel => exact ⟨_, (t319), (t322), (0), (0), H', ⟨by have := HJ9.out; have := HJ52.out; first | omega | exact Nat.le_refl _⟩, ⟨by (with_reducible repeat (first | apply Kd.R_alloc | apply Kd.R_drewN | apply Kd.R_drew)); exact Kd.R_mono HO321.out (fun _ hk => hk.2)⟩, ⟨by (with_reducible repeat (first | apply Kd.R_alloc | apply Kd.R_drewN | apply Kd.R_drew)); exact Kd.R_mono HO324.out (fun _ hk => hk.2)⟩, ⟨bk BK304.out⟩, ⟨bk BK305.out⟩, ⟨bk BK306.out⟩, ⟨bk BK307.out⟩, ⟨by repeat (first | (with_reducible first | exact HB.out | apply below_alloc | apply pw_below_drewN | apply below_drew1 | refine below_set ?_ GE304.out | refine below_set ?_ GE305.out | refine below_set ?_ GE306.out | refine below_set ?_ GE307.out) | exact HB.out)⟩⟩
        ·rw [if_neg c52] at H
         have c52b0 : (a0 == 4) = false := beq_eq_false_iff_ne.mpr c52
         have c52b1 : (a0 != 4) = true := bne_iff_ne.mpr c52
         (first | rw [c52b0] | (simp only [i64_w, i32_w]; rw [c52b0]) | skip)
         as_aux_lemma =>
          have H' := Aside0.mk H
          clear H
          go_wp2
          go_meet
          case rel => exact ⟨_, (t313), (t316), (0), (0), H', ⟨by have := HJ9.out; first | omega | exact Nat.le_refl _⟩, ⟨by (with_reducible repeat (first | apply Kd.R_alloc | apply Kd.R_drewN | apply Kd.R_drew)); exact Kd.R_mono HO315.out (fun _ hk => hk.2)⟩, ⟨by (with_reducible repeat (first | apply Kd.R_alloc | apply Kd.R_drewN | apply Kd.R_drew)); exact Kd.R_mono HO318.out (fun _ hk => hk.2)⟩, ⟨bk BK304.out⟩, ⟨bk BK305.out⟩, ⟨bk BK306.out⟩, ⟨bk BK307.out⟩, ⟨by repeat (first | (with_reducible first | exact HB.out | apply below_alloc | apply pw_below_drewN | apply below_drew1 | refine below_set ?_ GE304.out | refine below_set ?_ GE305.out | refine below_set ?_ GE306.out | refine below_set ?_ GE307.out) | exact HB.out)⟩⟩
       case rest =>
        clear HC48;obtain ⟨kq, x12_47, x13_47, x307000_47, x307001_47, HA, HJ47, HO_12, HO_13, BK304, BK305, BK306, BK307, HB⟩ := hcut
        cases kq with
        | zero => exact absurd HA.out (by simp [fr7_RangeOf.j2])
        | succ kj47 =>
         have H := HA.out;clear HA;simp only [fr7_RangeOf.j2] at H
         have H' := Aside0.mk H
         clear H;have hnb79 := NB307_304.out;have hnc79 := NB304_307.out;have hnb80 := NB307_305.out;have hnc80 := NB305_307.out;have hnb81 := NB307_306.out;have hnc81 := NB306_307.out
         have hcz82_0 : wc.cell? ⟨gb307, 0, none⟩ = some (.int .i64 0) := (blk_cell BK307.out 0).trans rfl
         have hcz82_1 : wc.cell? ⟨gb307, 1, none⟩ = some (.int .i64 0) := (blk_cell BK307.out 1).trans rfl
         have hfz82_0 := blk_frozen BK307.out 0;have hfz82_1 := blk_frozen BK307.out 1
         go_wp2_with (first | ((with_reducible refine gate_dst (N := 14) rfl ?_); refine box_event ?hg (N := 14) ?hd (cs := #[.int .i64 0, .int .i64 0]) (t := 35) ?hr ?_; (case hd => rfl); (case hg => rfl); (case hr => first | (go_simp; done) | (go_simp; rfl)); intro gb325 hg w83 hbox hb; have n0_ := Aside0.mk (Kd.R_below (by (with_reducible repeat (first | apply Kd.R_alloc | apply Kd.R_drewN | apply Kd.R_drew)); exact HO_12.out) hb); have n1_ := Aside0.mk (Kd.R_below (by (with_reducible repeat (first | apply Kd.R_alloc | apply Kd.R_drewN | apply Kd.R_drew)); exact HO_13.out) hb); have n2_ := Aside0.mk (blk_below (g := gb304) (o := .cells #[.int .i64 a1_0, .int .i64 a1_1] 35 (0, 0)) (bk BK304.out) hb); have n3_ := Aside0.mk (blk_below (g := gb305) (o := .cells #[.int .i64 a2_0, .int .i64 a2_1] 35 (0, 0)) (bk BK305.out) hb); have n4_ := Aside0.mk (blk_below (g := gb306) (o := .cells #[.int .i64 x307000_47, .int .i64 x307001_47] 35 (0, 0)) (bk BK306.out) hb); have n5_ := Aside0.mk (blk_below (g := gb307) (o := .cells #[.int .i64 0, .int .i64 0] 35 (0, 0)) (bk BK307.out) hb); have n6_ := Aside0.mk (below_step (by repeat (first | (with_reducible first | exact HB.out | apply below_alloc | apply pw_below_drewN | apply below_drew1 | refine below_set ?_ GE304.out | refine below_set ?_ GE305.out | refine below_set ?_ GE306.out | refine below_set ?_ GE307.out) | exact HB.out)) hb); have n7_ := Aside0.mk (hbox); have n8_ := Aside0.mk ((by rw [hg]; exact (below_size (by repeat (first | (with_reducible first | exact HB.out | apply below_alloc | apply pw_below_drewN | apply below_drew1 | refine below_set ?_ GE304.out | refine below_set ?_ GE305.out | refine below_set ?_ GE306.out | refine below_set ?_ GE307.out) | exact HB.out))) : w.heap.size ≤ gb325)); have n9_ := Aside0.mk ((by rw [hg]; exact (below_size (by repeat (first | (with_reducible first | exact HB.out | apply below_alloc | apply pw_below_drewN | apply below_drew1 | refine below_set ?_ GE304.out | refine below_set ?_ GE305.out | refine below_set ?_ GE306.out | refine below_set ?_ GE307.out) | exact HB.out))) : w.heap.size ≤ gb325)); have n10_ := Aside0.mk ((by rw [hg]; exact Nat.ne_of_lt (blk_lt (g := gb304) (o := .cells #[.int .i64 a1_0, .int .i64 a1_1] 35 (0, 0)) (bk BK304.out)) : gb304 ≠ gb325)); have n11_ := Aside0.mk ((by rw [hg]; exact Nat.ne_of_gt (blk_lt (g := gb304) (o := .cells #[.int .i64 a1_0, .int .i64 a1_1] 35 (0, 0)) (bk BK304.out)) : gb325 ≠ gb304)); have n12_ := Aside0.mk ((by rw [hg]; exact Nat.ne_of_lt (blk_lt (g := gb305) (o := .cells #[.int .i64 a2_0, .int .i64 a2_1] 35 (0, 0)) (bk BK305.out)) : gb305 ≠ gb325)); have n13_ := Aside0.mk ((by rw [hg]; exact Nat.ne_of_gt (blk_lt (g := gb305) (o := .cells #[.int .i64 a2_0, .int .i64 a2_1] 35 (0, 0)) (bk BK305.out)) : gb325 ≠ gb305)); have n14_ := Aside0.mk ((by rw [hg]; exact Nat.ne_of_lt (blk_lt (g := gb306) (o := .cells #[.int .i64 x307000_47, .int .i64 x307001_47] 35 (0, 0)) (bk BK306.out)) : gb306 ≠ gb325)); have n15_ := Aside0.mk ((by rw [hg]; exact Nat.ne_of_gt (blk_lt (g := gb306) (o := .cells #[.int .i64 x307000_47, .int .i64 x307001_47] 35 (0, 0)) (bk BK306.out)) : gb325 ≠ gb306)); have n16_ := Aside0.mk ((by rw [hg]; exact Nat.ne_of_lt (blk_lt (g := gb307) (o := .cells #[.int .i64 0, .int .i64 0] 35 (0, 0)) (bk BK307.out)) : gb307 ≠ gb325)); have n17_ := Aside0.mk ((by rw [hg]; exact Nat.ne_of_gt (blk_lt (g := gb307) (o := .cells #[.int .i64 0, .int .i64 0] 35 (0, 0)) (bk BK307.out)) : gb325 ≠ gb307)); clear HO_12; clear HO_13; clear BK304; clear BK305; clear BK306; clear BK307; clear HB; have HO_12 := n0_; have HO_13 := n1_; have BK304 := n2_; have BK305 := n3_; have BK306 := n4_; have BK307 := n5_; have HB := n6_; have BK325 := n7_; have GW325 := n8_; have GE325 := n9_; have NB304_325 := n10_; have NB325_304 := n11_; have NB305_325 := n12_; have NB325_305 := n13_; have NB306_325 := n14_; have NB325_306 := n15_; have NB307_325 := n16_; have NB325_307 := n17_; clear n0_ n1_ n2_ n3_ n4_ n5_ n6_ n7_ n8_ n9_ n10_ n11_ n12_ n13_ n14_ n15_ n16_ n17_; clear hb hbox hg; have hnb84 := NB325_304.out; have hnc84 := NB304_325.out; have hnb85 := NB325_305.out; have hnc85 := NB305_325.out; have hnb86 := NB325_306.out; have hnc86 := NB306_325.out; have hnb87 := NB325_307.out; have hnc87 := NB307_325.out; have hcz88_0 : w83.cell? ⟨gb325, 0, none⟩ = some (.int .i64 0) := (blk_cell BK325.out 0).trans rfl; have hcz88_1 : w83.cell? ⟨gb325, 1, none⟩ = some (.int .i64 0) := (blk_cell BK325.out 1).trans rfl; have hfz88_0 := blk_frozen BK325.out 0; have hfz88_1 := blk_frozen BK325.out 1))
         go_loopg [15] kj47 (fun kq v15 w' => ∃ (x15_3 : Int) (x326000_3 : Int) (x326001_3 : Int), v15 = .int .i64 x15_3 ∧ Aside0 (fr7_RangeOf.l0 kq a0 x12_47 x13_47 x15_3 0 0 x326000_3 x326001_3 = some (r1, r2, r3)) ∧ Aside0 (kq ≤ kj47) ∧ Aside0 (Kd.R (Kd.int .i64) 3 w' w.heap.size (fun k_ => some k_ ≠ (u13 : Value).ownBlock) u12 x12_47) ∧ Aside0 (Kd.R (Kd.int .i64) 3 w' w.heap.size (fun k_ => some k_ ≠ (u12 : Value).ownBlock) u13 x13_47) ∧ Aside0 (w'.heap[gb304]? = some (.cells #[.int .i64 a1_0, .int .i64 a1_1] 35 (0, 0))) ∧ Aside0 (w'.heap[gb305]? = some (.cells #[.int .i64 a2_0, .int .i64 a2_1] 35 (0, 0))) ∧ Aside0 (w'.heap[gb306]? = some (.cells #[.int .i64 x307000_47, .int .i64 x307001_47] 35 (0, 0))) ∧ Aside0 (w'.heap[gb307]? = some (.cells #[.int .i64 0, .int .i64 0] 35 (0, 0))) ∧ Aside0 (w'.heap[gb325]? = some (.cells #[.int .i64 x326000_3, .int .i64 x326001_3] 35 (0, 0))) ∧ Aside0 (Below w.heap.size w w'))
         case atStart => exact ⟨(0), (0), (0), (by first | rfl | (simp; done) | (simp [*]; done)), H', ⟨Nat.le_refl _⟩, ⟨by (with_reducible repeat (first | apply Kd.R_alloc | apply Kd.R_drewN | apply Kd.R_drew)); exact Kd.R_mono (Kd.R_far (p := ⟨gb325, 1, none⟩) (Kd.R_far (p := ⟨gb325, 0, none⟩) (Kd.R_types HO_12.out BK325.out (by decide)) (fun _ hk => hk.2) (.int .i64 0)) (fun _ hk => hk.2) (.int .i64 0)) (fun _ hk => hk.1)⟩, ⟨by (with_reducible repeat (first | apply Kd.R_alloc | apply Kd.R_drewN | apply Kd.R_drew)); exact Kd.R_mono (Kd.R_far (p := ⟨gb325, 1, none⟩) (Kd.R_far (p := ⟨gb325, 0, none⟩) (Kd.R_types HO_13.out BK325.out (by decide)) (fun _ hk => hk.2) (.int .i64 0)) (fun _ hk => hk.2) (.int .i64 0)) (fun _ hk => hk.1)⟩, ⟨by refine bk (blk_far ?_ NB304_325.out _); refine bk (blk_far ?_ NB304_325.out _); exact bk BK304.out⟩, ⟨by refine bk (blk_far ?_ NB305_325.out _); refine bk (blk_far ?_ NB305_325.out _); exact bk BK305.out⟩, ⟨by refine bk (blk_far ?_ NB306_325.out _); refine bk (blk_far ?_ NB306_325.out _); exact bk BK306.out⟩, ⟨by refine bk (blk_far ?_ NB307_325.out _); refine bk (blk_far ?_ NB307_325.out _); exact bk BK307.out⟩, ⟨by refine bk (blk_put (cs := #[.int .i64 0, .int .i64 0]) ?_ 1 _ rfl); refine bk (blk_put (cs := #[.int .i64 0, .int .i64 0]) ?_ 0 _ rfl); exact bk BK325.out⟩, ⟨by repeat (first | (with_reducible first | exact HB.out | apply below_alloc | apply pw_below_drewN | apply below_drew1 | refine below_set ?_ GE304.out | refine below_set ?_ GE305.out | refine below_set ?_ GE306.out | refine below_set ?_ GE307.out | refine below_set ?_ GE325.out) | exact HB.out)⟩⟩
         case round =>
          clear H';obtain ⟨x15_3, x326000_3, x326001_3, rfl, HA, HK3, HO_12, HO_13, BK304, BK305, BK306, BK307, BK325, HB⟩ := hrel
          cases gk with
          | zero => exact absurd HA.out (by simp [fr7_RangeOf.l0])
          | succ k3 =>
           have H := HA.out;clear HA;simp only [fr7_RangeOf.l0] at H
           by_cases c89 : x15_3 < (x12_47.length : Int)
           ·rw [if_pos c89] at H
            have c89b0 : decide (x15_3 < (x12_47.length : Int)) = true := decide_eq_true c89
            clear c89
            have H' := Aside0.mk H
            clear H;obtain ⟨Ao90, co90, eo90⟩ := Kd.R_slice HO_12.out;subst eo90
            go_wp2
            go_loopg [16] k3 (fun kq v16 w' => ∃ (x16_4 : Int) (x326000_4 : Int) (x326001_4 : Int), v16 = .int .i64 x16_4 ∧ Aside0 (fr7_RangeOf.l1 kq a0 x12_47 x13_47 x15_3 x16_4 0 0 x326000_4 x326001_4 = some (r1, r2, r3)) ∧ Aside0 (kq ≤ k3) ∧ Aside0 (Kd.R (Kd.int .i64) 3 w' w.heap.size (fun k_ => some k_ ≠ (u13 : Value).ownBlock) (.slice Ao90 x12_47.length co90) x12_47) ∧ Aside0 (Kd.R (Kd.int .i64) 3 w' w.heap.size (fun k_ => some k_ ≠ ((.slice Ao90 x12_47.length co90) : Value).ownBlock) u13 x13_47) ∧ Aside0 (w'.heap[gb304]? = some (.cells #[.int .i64 a1_0, .int .i64 a1_1] 35 (0, 0))) ∧ Aside0 (w'.heap[gb305]? = some (.cells #[.int .i64 a2_0, .int .i64 a2_1] 35 (0, 0))) ∧ Aside0 (w'.heap[gb306]? = some (.cells #[.int .i64 x307000_47, .int .i64 x307001_47] 35 (0, 0))) ∧ Aside0 (w'.heap[gb307]? = some (.cells #[.int .i64 0, .int .i64 0] 35 (0, 0))) ∧ Aside0 (w'.heap[gb325]? = some (.cells #[.int .i64 x326000_4, .int .i64 x326001_4] 35 (0, 0))) ∧ Aside0 (Below w.heap.size w w'))
            case atStart => exact ⟨(0), (x326000_3), (x326001_3), (by first | rfl | (simp; done) | (simp [*]; done)), H', ⟨Nat.le_refl _⟩, ⟨by (with_reducible repeat (first | apply Kd.R_alloc | apply Kd.R_drewN | apply Kd.R_drew)); exact HO_12.out⟩, ⟨by (with_reducible repeat (first | apply Kd.R_alloc | apply Kd.R_drewN | apply Kd.R_drew)); exact HO_13.out⟩, ⟨bk BK304.out⟩, ⟨bk BK305.out⟩, ⟨bk BK306.out⟩, ⟨bk BK307.out⟩, ⟨bk BK325.out⟩, ⟨by repeat (first | (with_reducible first | exact HB.out | apply below_alloc | apply pw_below_drewN | apply below_drew1 | refine below_set ?_ GE304.out | refine below_set ?_ GE305.out | refine below_set ?_ GE306.out | refine below_set ?_ GE307.out | refine below_set ?_ GE325.out) | exact HB.out)⟩⟩
            case round =>
             clear H';obtain ⟨x16_4, x326000_4, x326001_4, rfl, HA, HK4, HO_12, HO_13, BK304, BK305, BK306, BK307, BK325, HB⟩ := hrel
             cases gk with
             | zero => exact absurd HA.out (by simp [fr7_RangeOf.l1])
             | succ k4 =>
              have H := HA.out;clear HA;simp only [fr7_RangeOf.l1] at H
              by_cases c91 : x16_4 < (x13_47.length : Int)
              ·rw [if_pos c91] at H
               have c91b0 : decide (x16_4 < (x13_47.length : Int)) = true := decide_eq_true c91
               clear c91
               by_cases c92 : 0 ≤ x15_3
               ·rw [if_pos c92] at H
                have c92b0 : decide (0 ≤ x15_3) = true := decide_eq_true c92
                clear c92
                by_cases c93 : x15_3 < (x12_47.length : Int)
                ·rw [if_pos c93] at H
                 have c93b0 : decide (x15_3 < (x12_47.length : Int)) = true := decide_eq_true c93
                 clear c93
                 by_cases c94 : 0 ≤ x16_4
                 ·rw [if_pos c94] at H
                  have c94b0 : decide (0 ≤ x16_4) = true := decide_eq_true c94
                  clear c94;replace H := Option.bind_eq_some_iff.mp H;obtain ⟨⟨t328, t329⟩, A950, H⟩ := H
                  try dsimp only at H
                  have A95 := Aside0.mk A950;clear A950
                  by_cases c96 : x15_3 = 0
                  ·rw [if_pos c96] at H
                   have c96b0 : (x15_3 == 0) = true := beq_iff_eq.mpr c96
                   have c96b1 : (x15_3 != 0) = false := bne_eq_false_iff_eq.mpr c96
                   clear c96
                   by_cases c97 : x16_4 = 0
                   ·rw [if_pos c97] at H
                    have c97b0 : (x16_4 == 0) = true := beq_iff_eq.mpr c97
                    have c97b1 : (x16_4 != 0) = false := bne_eq_false_iff_eq.mpr c97
                    clear c97
                    have hmn98 : mn t328 t328 = t328 := by simp [mn]
                    have hmx98 : mx t328 t328 = t328 := by simp [mx]
                    rw [hmn98, hmx98] at H
                    (try rw [hmn98] at A95)
                    (try rw [hmx98] at A95)



                    as_aux_lemma =>
                     have H' := Aside0.mk H
                     clear H;obtain ⟨Ao100, co100, eo100⟩ := Kd.R_slice HO_13.out;subst eo100
                     try go_wp2
                     have n0_ := Aside0.mk (Kd.R_drew HO_12.out);have n1_ := Aside0.mk (Kd.R_drew HO_13.out);have n2_ := Aside0.mk (blk_drew BK304.out);have n3_ := Aside0.mk (blk_drew BK305.out);have n4_ := Aside0.mk (blk_drew BK306.out);have n5_ := Aside0.mk (blk_drew BK307.out);have n6_ := Aside0.mk (blk_drew BK325.out);have n7_ := Aside0.mk (below_drew1 HB.out);clear HO_12;clear HO_13;clear BK304;clear BK305;clear BK306;clear BK307;clear BK325;clear HB;have HO_12 := n0_;have HO_13 := n1_;have BK304 := n2_;have BK305 := n3_;have BK306 := n4_;have BK307 := n5_;have BK325 := n6_;have HB := n7_;clear n0_ n1_ n2_ n3_ n4_ n5_ n6_ n7_
                     have p326 : 0 ≤ (x15_3 : Int) := of_decide_eq_true (by first | (with_reducible assumption) | assumption)
                     have q326 : x15_3 < (x12_47.length : Int) := of_decide_eq_true (by first | (with_reducible assumption) | assumption)
                     obtain ⟨ad326, e326, hx326_0⟩ := Kd.at_int (Kd.R_reads' HO_12.out).2.2 x15_3 p326 q326
                     cases e326
                     replace p326 := eq_true p326;replace q326 := eq_true q326
                     have p327 : 0 ≤ (x16_4 : Int) := of_decide_eq_true (by first | (with_reducible assumption) | assumption)
                     have q327 : x16_4 < (x13_47.length : Int) := of_decide_eq_true (by first | (with_reducible assumption) | assumption)
                     obtain ⟨ad327, e327, hx327_0⟩ := Kd.at_int (Kd.R_reads' HO_13.out).2.2 x16_4 p327 q327
                     cases e327
                     replace p327 := eq_true p327;replace q327 := eq_true q327
                     refine start_ (n := 15) (S := fun w' => w'.cell? (ad326.add (x15_3).toNat) = some (.int .i64 (rd x12_47 x15_3)) ∧ w'.cell? (ad327.add (x16_4).toNat) = some (.int .i64 (rd x13_47 x16_4))) (ds := []) #[false, false, false, false, false, false, false, false, false, false, false, false, false, false, false] (by kernel_rfl) rfl rfl ⟨hx326_0, hx327_0⟩ (fun hHeld => ?_); refine with_tabW fr7_RangeOf.tab25 fr7_RangeOf.bits25 (fun HT_ HW_ => ?_)
                     generalize wr.drew = w101 at HO_12 HO_13 BK304 BK305 BK306 BK307 BK325 HB hx326_0 hx327_0 hHeld ⊢
                     refine pure_ (i := 0) (N := some 91) (v := ?_) (a' := ?_) #[true, false, false, false, false, false, false, false, false, false, false, false, false, false, false] rfl rfl (any_of HT_.out (by kernel_rfl)) (fun _ _ _ h => h) (Or.inl ⟨by rfl, ?_⟩) ?_ ?_
                     rotate_left
                     ·intro w'
                      go_simp
                      with_reducible rfl
                     rotate_left
                     ·simp only [Act.put, List.setIfInBounds_toArray, List.set_cons_zero, List.set_cons_succ, i64_w, i32_w]
                      rfl
                     refine pure_ (i := 1) (N := some 92) (v := ?_) (a' := ?_) #[true, true, false, false, false, false, false, false, false, false, false, false, false, false, false] rfl rfl (any_of HT_.out (by kernel_rfl)) (fun _ _ _ h => h) (Or.inl ⟨by rfl, ?_⟩) ?_ ?_
                     rotate_left
                     ·intro w'
                      go_simp
                      with_reducible rfl
                     rotate_left
                     ·simp only [Act.put, List.setIfInBounds_toArray, List.set_cons_zero, List.set_cons_succ, i64_w, i32_w]
                      rfl
                     refine pure_ (i := 2) (N := some 93) (v := ?_) (a' := ?_) #[true, true, true, false, false, false, false, false, false, false, false, false, false, false, false] rfl rfl (any_of HT_.out (by kernel_rfl)) (fun _ _ _ h => h) (Or.inl ⟨by rfl, ?_⟩) ?_ ?_
                     rotate_left
                     ·intro w'
                      go_simp
                      with_reducible rfl
                     rotate_left
                     ·simp only [Act.put, List.setIfInBounds_toArray, List.set_cons_zero, List.set_cons_succ, i64_w, i32_w]
                      rfl
                     refine pure_ (i := 3) (N := some 94) (v := ?_) (a' := ?_) #[true, true, true, true, false, false, false, false, false, false, false, false, false, false, false] rfl rfl (any_of HT_.out (by kernel_rfl)) (fun _ _ _ h => h) (Or.inl ⟨by rfl, ?_⟩) ?_ ?_
                     rotate_left
                     ·intro w'
                      go_simp
                      with_reducible rfl
                     rotate_left
                     ·simp only [Act.put, List.setIfInBounds_toArray, List.set_cons_zero, List.set_cons_succ, i64_w, i32_w]
                      rfl
                     refine pure_ (i := 5) (N := some 96) (v := ?_) (a' := ?_) #[true, true, true, true, false, true, false, false, false, false, false, false, false, false, false] rfl rfl (any_of HT_.out (by kernel_rfl)) (fun _ _ _ h => h) (Or.inl ⟨by rfl, ?_⟩) ?_ ?_
                     rotate_left
                     ·intro w'
                      go_simp
                      with_reducible rfl
                     rotate_left
                     ·simp only [Act.put, List.setIfInBounds_toArray, List.set_cons_zero, List.set_cons_succ, i64_w, i32_w]
                      rfl
                     refine pure_ (i := 6) (N := some 97) (v := ?_) (a' := ?_) #[true, true, true, true, false, true, true, false, false, false, false, false, false, false, false] rfl rfl (any_of HT_.out (by kernel_rfl)) (fun _ _ _ h => h) (Or.inl ⟨by rfl, ?_⟩) ?_ ?_
                     rotate_left
                     ·intro w'
                      go_simp
                      with_reducible rfl
                     rotate_left
                     ·simp only [Act.put, List.setIfInBounds_toArray, List.set_cons_zero, List.set_cons_succ, i64_w, i32_w]
                      rfl
                     refine pure_ (i := 7) (N := some 98) (v := ?_) (a' := ?_) #[true, true, true, true, false, true, true, true, false, false, false, false, false, false, false] rfl rfl (any_of HT_.out (by kernel_rfl)) (fun _ _ _ h => h) (Or.inl ⟨by rfl, ?_⟩) ?_ ?_
                     rotate_left
                     ·intro w'
                      go_simp
                      with_reducible rfl
                     rotate_left
                     ·simp only [Act.put, List.setIfInBounds_toArray, List.set_cons_zero, List.set_cons_succ, i64_w, i32_w]
                      rfl
                     refine take_ (i := 4) (N := some 95) (v := ?_) (a' := ?_) #[true, true, true, true, true, true, true, true, false, false, false, false, false, false, false] rfl rfl (take_ofW HT_.out HW_.out (by kernel_rfl)) (fun _ _ _ h => h) (Or.inl ⟨by rfl, ?_⟩) hHeld ?_ ?_
                     rotate_left
                     ·rintro w' ⟨s0, s1⟩
                      go_simp
                      with_reducible rfl
                     rotate_left
                     ·simp only [Act.put, List.setIfInBounds_toArray, List.set_cons_zero, List.set_cons_succ, i64_w, i32_w]
                      rfl
                     refine take_ (i := 8) (N := some 99) (v := ?_) (a' := ?_) #[true, true, true, true, true, true, true, true, true, false, false, false, false, false, false] rfl rfl (take_ofW HT_.out HW_.out (by kernel_rfl)) (fun _ _ _ h => h) (Or.inl ⟨by rfl, ?_⟩) hHeld ?_ ?_
                     rotate_left
                     ·rintro w' ⟨s0, s1⟩
                      go_simp
                      with_reducible rfl
                     rotate_left
                     ·simp only [Act.put, List.setIfInBounds_toArray, List.set_cons_zero, List.set_cons_succ, i64_w, i32_w]
                      rfl
                     refine one_ (i := 9) (N := some 100) #[true, true, true, true, true, true, true, true, true, true, false, false, false, false, false] rfl rfl (one_of HT_.out (by kernel_rfl)) (by decide) (fun K hK => ?_)
                     refine goes_ Try.func44 (by kernel_rfl) rfl #[.int .i64 a0, .int .i64 (rd x12_47 x15_3), .int .i64 (rd x13_47 x16_4)] (by rfl) rfl rfl (by (try simp only [List.map_toArray, List.map_cons, List.map_nil]); first | done | rfl) ?_
                     with_reducible refine (fr7_Exact.calls k4 a0 (rd x12_47 x15_3) (rd x13_47 x16_4) t328 t329 _ A95.out).mono ?_
                     rintro e w102 ⟨rfl, hb⟩
                     have HS0_ := (hb.cell (World.block_lt_of_cell? _ _ (hHeld.1))).trans (hHeld.1);have HS1_ := (hb.cell (World.block_lt_of_cell? _ _ (hHeld.2))).trans (hHeld.2)
                     refine ⟨_, rfl, ?_⟩
                     have n0_ := Aside0.mk (Kd.R_below (by (with_reducible repeat (first | apply Kd.R_alloc | apply Kd.R_drewN | apply Kd.R_drew)); exact HO_12.out) hb)
                     have n1_ := Aside0.mk (Kd.R_below (by (with_reducible repeat (first | apply Kd.R_alloc | apply Kd.R_drewN | apply Kd.R_drew)); exact HO_13.out) hb)
                     have n2_ := Aside0.mk (blk_below (g := gb304) (o := .cells #[.int .i64 a1_0, .int .i64 a1_1] 35 (0, 0)) (bk BK304.out) hb);have n3_ := Aside0.mk (blk_below (g := gb305) (o := .cells #[.int .i64 a2_0, .int .i64 a2_1] 35 (0, 0)) (bk BK305.out) hb);have n4_ := Aside0.mk (blk_below (g := gb306) (o := .cells #[.int .i64 x307000_47, .int .i64 x307001_47] 35 (0, 0)) (bk BK306.out) hb);have n5_ := Aside0.mk (blk_below (g := gb307) (o := .cells #[.int .i64 0, .int .i64 0] 35 (0, 0)) (bk BK307.out) hb);have n6_ := Aside0.mk (blk_below (g := gb325) (o := .cells #[.int .i64 x326000_4, .int .i64 x326001_4] 35 (0, 0)) (bk BK325.out) hb)
                     have n7_ := Aside0.mk (below_step (by repeat (first | (with_reducible first | exact HB.out | apply below_alloc | apply pw_below_drewN | apply below_drew1 | refine below_set ?_ GE304.out | refine below_set ?_ GE305.out | refine below_set ?_ GE306.out | refine below_set ?_ GE307.out | refine below_set ?_ GE325.out) | exact HB.out)) hb)
                     clear HO_12;clear HO_13;clear BK304;clear BK305;clear BK306;clear BK307;clear BK325;clear HB;have HO_12 := n0_;have HO_13 := n1_;have BK304 := n2_;have BK305 := n3_;have BK306 := n4_;have BK307 := n5_;have BK325 := n6_;have HB := n7_;clear n0_ n1_ n2_ n3_ n4_ n5_ n6_ n7_
                     (try clear hb)
                     (try clear hb2)
                     (try clear hk)
                     (try clear hi)
                     refine hK.out _ _ ⟨HS0_, HS1_⟩ (fun hHeld => ?_)
                     clear hK K
                     refine norm_ (a' := ?_) ?_ ?_
                     rotate_left
                     ·show Act.put _ (some 100) _ = _
                      simp only [Act.put, List.setIfInBounds_toArray, List.set_cons_zero, List.set_cons_succ, i64_w, i32_w]
                      rfl
                     refine pure_ (i := 10) (N := some 90) (v := ?_) (a' := ?_) #[true, true, true, true, true, true, true, true, true, true, true, false, false, false, false] rfl rfl (any_of HT_.out (by kernel_rfl)) (fun _ _ _ h => h) (Or.inl ⟨by rfl, ?_⟩) ?_ ?_
                     rotate_left
                     ·intro w'
                      go_simp
                      with_reducible rfl
                     rotate_left
                     ·simp only [Act.put, List.setIfInBounds_toArray, List.set_cons_zero, List.set_cons_succ, i64_w, i32_w]
                      rfl
                     refine pure_ (i := 11) (N := some 101) (v := ?_) (a' := ?_) #[true, true, true, true, true, true, true, true, true, true, true, true, false, false, false] rfl rfl (any_of HT_.out (by kernel_rfl)) (fun _ _ _ h => h) (Or.inl ⟨by rfl, ?_⟩) ?_ ?_
                     rotate_left
                     ·intro w'
                      go_simp
                      with_reducible rfl
                     rotate_left
                     ·simp only [Act.put, List.setIfInBounds_toArray, List.set_cons_zero, List.set_cons_succ, i64_w, i32_w]
                      rfl
                     refine pure_ (i := 12) (N := some 102) (v := ?_) (a' := ?_) #[true, true, true, true, true, true, true, true, true, true, true, true, true, false, false] rfl rfl (any_of HT_.out (by kernel_rfl)) (fun _ _ _ h => h) (Or.inl ⟨by rfl, ?_⟩) ?_ ?_
                     rotate_left
                     ·intro w'
                      go_simp
                      with_reducible rfl
                     rotate_left
                     ·simp only [Act.put, List.setIfInBounds_toArray, List.set_cons_zero, List.set_cons_succ, i64_w, i32_w]
                      rfl
                     refine pure_ (i := 13) (N := some 17) (v := ?_) (a' := ?_) #[true, true, true, true, true, true, true, true, true, true, true, true, true, true, false] rfl rfl (any_of HT_.out (by kernel_rfl)) (fun _ _ _ h => h) (Or.inl ⟨by rfl, ?_⟩) ?_ ?_
                     rotate_left
                     ·intro w'
                      go_simp
                      with_reducible rfl
                     rotate_left
                     ·simp only [Act.put, List.setIfInBounds_toArray, List.set_cons_zero, List.set_cons_succ, i64_w, i32_w]
                      rfl
                     refine pure_ (i := 14) (N := some 18) (v := ?_) (a' := ?_) #[true, true, true, true, true, true, true, true, true, true, true, true, true, true, true] rfl rfl (any_of HT_.out (by kernel_rfl)) (fun _ _ _ h => h) (Or.inl ⟨by rfl, ?_⟩) ?_ ?_
                     rotate_left
                     ·intro w'
                      go_simp
                      with_reducible rfl
                     rotate_left
                     ·simp only [Act.put, List.setIfInBounds_toArray, List.set_cons_zero, List.set_cons_succ, i64_w, i32_w]
                      rfl
                     refine done_ (done_of HT_.out (by kernel_rfl)) ?_
                     have hnb103 := NB325_304.out;have hnc103 := NB304_325.out;have hnb104 := NB325_305.out;have hnc104 := NB305_325.out;have hnb105 := NB325_306.out;have hnc105 := NB306_325.out;have hnb106 := NB325_307.out;have hnc106 := NB307_325.out
                     have hcz107_0 : w102.cell? ⟨gb325, 0, none⟩ = some (.int .i64 x326000_4) := (blk_cell BK325.out 0).trans rfl
                     have hcz107_1 : w102.cell? ⟨gb325, 1, none⟩ = some (.int .i64 x326001_4) := (blk_cell BK325.out 1).trans rfl
                     have hfz107_0 := blk_frozen BK325.out 0;have hfz107_1 := blk_frozen BK325.out 1
                     try go_wp2
                     go_roundg k4
                     case measure => have := HJ9.out; have := HJ47.out; have := HK3.out; have := HK4.out; omega
                     case rel => exact ⟨(wrap64 (x16_4 + 1)), (t328), (t328), (by first | rfl | (simp; done) | (simp [*]; done)), H', ⟨by have := HJ9.out; have := HJ47.out; have := HK3.out; have := HK4.out; omega⟩, ⟨by (with_reducible repeat (first | apply Kd.R_alloc | apply Kd.R_drewN | apply Kd.R_drew)); exact Kd.R_mono (Kd.R_far (p := ⟨gb325, 1, none⟩) (Kd.R_far (p := ⟨gb325, 0, none⟩) (Kd.R_far (p := ⟨gb325, 1, none⟩) (Kd.R_far (p := ⟨gb325, 0, none⟩) (Kd.R_types HO_12.out BK325.out (by decide)) (fun _ hk => hk.2) (.int .i64 t328)) (fun _ hk => hk.2) (.int .i64 t328)) (fun _ hk => hk.2) (.int .i64 t328)) (fun _ hk => hk.2) (.int .i64 t328)) (fun _ hk => hk.1)⟩, ⟨by (with_reducible repeat (first | apply Kd.R_alloc | apply Kd.R_drewN | apply Kd.R_drew)); exact Kd.R_mono (Kd.R_far (p := ⟨gb325, 1, none⟩) (Kd.R_far (p := ⟨gb325, 0, none⟩) (Kd.R_far (p := ⟨gb325, 1, none⟩) (Kd.R_far (p := ⟨gb325, 0, none⟩) (Kd.R_types HO_13.out BK325.out (by decide)) (fun _ hk => hk.2) (.int .i64 t328)) (fun _ hk => hk.2) (.int .i64 t328)) (fun _ hk => hk.2) (.int .i64 t328)) (fun _ hk => hk.2) (.int .i64 t328)) (fun _ hk => hk.1)⟩, ⟨by refine bk (blk_far ?_ NB304_325.out _); refine bk (blk_far ?_ NB304_325.out _); refine bk (blk_far ?_ NB304_325.out _); refine bk (blk_far ?_ NB304_325.out _); exact bk BK304.out⟩, ⟨by refine bk (blk_far ?_ NB305_325.out _); refine bk (blk_far ?_ NB305_325.out _); refine bk (blk_far ?_ NB305_325.out _); refine bk (blk_far ?_ NB305_325.out _); exact bk BK305.out⟩, ⟨by refine bk (blk_far ?_ NB306_325.out _); refine bk (blk_far ?_ NB306_325.out _); refine bk (blk_far ?_ NB306_325.out _); refine bk (blk_far ?_ NB306_325.out _); exact bk BK306.out⟩, ⟨by refine bk (blk_far ?_ NB307_325.out _); refine bk (blk_far ?_ NB307_325.out _); refine bk (blk_far ?_ NB307_325.out _); refine bk (blk_far ?_ NB307_325.out _); exact bk BK307.out⟩, ⟨by refine bk (blk_put (cs := #[.int .i64 t328, .int .i64 t328]) ?_ 1 _ rfl); refine bk (blk_put (cs := #[.int .i64 t328, .int .i64 t328]) ?_ 0 _ rfl); refine bk (blk_put (cs := #[.int .i64 t328, .int .i64 x326001_4]) ?_ 1 _ rfl); refine bk (blk_put (cs := #[.int .i64 x326000_4, .int .i64 x326001_4]) ?_ 0 _ rfl); exact bk BK325.out⟩, ⟨by repeat (first | (with_reducible first | exact HB.out | apply below_alloc | apply pw_below_drewN | apply below_drew1 | refine below_set ?_ GE304.out | refine below_set ?_ GE305.out | refine below_set ?_ GE306.out | refine below_set ?_ GE307.out | refine below_set ?_ GE325.out) | exact HB.out)⟩⟩
                   ·rw [if_neg c97] at H
                    have c97b0 : (x16_4 == 0) = false := beq_eq_false_iff_ne.mpr c97
                    have c97b1 : (x16_4 != 0) = true := bne_iff_ne.mpr c97
                    obtain ⟨ji108, hji108⟩ : ∃ j_ : Int, (mn x326000_4 t328) = j_ := ⟨_, rfl⟩
                    replace H : (fr7_RangeOf.l1 k4 a0 x12_47 x13_47 x15_3 (wrap64 (x16_4 + 1)) 0 0 ji108 (mx x326001_4 t328)) = some (r1, r2, r3) := by first | (rw [hji108] at H; exact H) | (simp only [hji108] at H ⊢; exact H)
                    (try rw [hji108] at A95)
                    have hji108_ : (if t328 < x326000_4 then t328 else x326000_4) = ji108 := hji108
                    obtain ⟨ji109, hji109⟩ : ∃ j_ : Int, (mx x326001_4 t328) = j_ := ⟨_, rfl⟩
                    replace H : (fr7_RangeOf.l1 k4 a0 x12_47 x13_47 x15_3 (wrap64 (x16_4 + 1)) 0 0 ji108 ji109) = some (r1, r2, r3) := by first | (rw [hji109] at H; exact H) | (simp only [hji109] at H ⊢; exact H)
                    (try rw [hji109] at A95)
                    have hji109_ : (if x326001_4 < t328 then t328 else x326001_4) = ji109 := hji109
                    as_aux_lemma =>
                     have H' := Aside0.mk H
                     clear H;obtain ⟨Ao110, co110, eo110⟩ := Kd.R_slice HO_13.out;subst eo110
                     try go_wp2
                     have n0_ := Aside0.mk (Kd.R_drew HO_12.out);have n1_ := Aside0.mk (Kd.R_drew HO_13.out);have n2_ := Aside0.mk (blk_drew BK304.out);have n3_ := Aside0.mk (blk_drew BK305.out);have n4_ := Aside0.mk (blk_drew BK306.out);have n5_ := Aside0.mk (blk_drew BK307.out);have n6_ := Aside0.mk (blk_drew BK325.out);have n7_ := Aside0.mk (below_drew1 HB.out);clear HO_12;clear HO_13;clear BK304;clear BK305;clear BK306;clear BK307;clear BK325;clear HB;have HO_12 := n0_;have HO_13 := n1_;have BK304 := n2_;have BK305 := n3_;have BK306 := n4_;have BK307 := n5_;have BK325 := n6_;have HB := n7_;clear n0_ n1_ n2_ n3_ n4_ n5_ n6_ n7_
                     have p326 : 0 ≤ (x15_3 : Int) := of_decide_eq_true (by first | (with_reducible assumption) | assumption)
                     have q326 : x15_3 < (x12_47.length : Int) := of_decide_eq_true (by first | (with_reducible assumption) | assumption)
                     obtain ⟨ad326, e326, hx326_0⟩ := Kd.at_int (Kd.R_reads' HO_12.out).2.2 x15_3 p326 q326
                     cases e326
                     replace p326 := eq_true p326;replace q326 := eq_true q326
                     have p327 : 0 ≤ (x16_4 : Int) := of_decide_eq_true (by first | (with_reducible assumption) | assumption)
                     have q327 : x16_4 < (x13_47.length : Int) := of_decide_eq_true (by first | (with_reducible assumption) | assumption)
                     obtain ⟨ad327, e327, hx327_0⟩ := Kd.at_int (Kd.R_reads' HO_13.out).2.2 x16_4 p327 q327
                     cases e327
                     replace p327 := eq_true p327;replace q327 := eq_true q327
                     refine start_ (n := 15) (S := fun w' => w'.cell? (ad326.add (x15_3).toNat) = some (.int .i64 (rd x12_47 x15_3)) ∧ w'.cell? (ad327.add (x16_4).toNat) = some (.int .i64 (rd x13_47 x16_4))) (ds := []) #[false, false, false, false, false, false, false, false, false, false, false, false, false, false, false] (by kernel_rfl) rfl rfl ⟨hx326_0, hx327_0⟩ (fun hHeld => ?_); refine with_tabW fr7_RangeOf.tab25 fr7_RangeOf.bits25 (fun HT_ HW_ => ?_)
                     generalize wr.drew = w111 at HO_12 HO_13 BK304 BK305 BK306 BK307 BK325 HB hx326_0 hx327_0 hHeld ⊢
                     refine pure_ (i := 0) (N := some 91) (v := ?_) (a' := ?_) #[true, false, false, false, false, false, false, false, false, false, false, false, false, false, false] rfl rfl (any_of HT_.out (by kernel_rfl)) (fun _ _ _ h => h) (Or.inl ⟨by rfl, ?_⟩) ?_ ?_
                     rotate_left
                     ·intro w'
                      go_simp
                      with_reducible rfl
                     rotate_left
                     ·simp only [Act.put, List.setIfInBounds_toArray, List.set_cons_zero, List.set_cons_succ, i64_w, i32_w]
                      rfl
                     refine pure_ (i := 1) (N := some 92) (v := ?_) (a' := ?_) #[true, true, false, false, false, false, false, false, false, false, false, false, false, false, false] rfl rfl (any_of HT_.out (by kernel_rfl)) (fun _ _ _ h => h) (Or.inl ⟨by rfl, ?_⟩) ?_ ?_
                     rotate_left
                     ·intro w'
                      go_simp
                      with_reducible rfl
                     rotate_left
                     ·simp only [Act.put, List.setIfInBounds_toArray, List.set_cons_zero, List.set_cons_succ, i64_w, i32_w]
                      rfl
                     refine pure_ (i := 2) (N := some 93) (v := ?_) (a' := ?_) #[true, true, true, false, false, false, false, false, false, false, false, false, false, false, false] rfl rfl (any_of HT_.out (by kernel_rfl)) (fun _ _ _ h => h) (Or.inl ⟨by rfl, ?_⟩) ?_ ?_
                     rotate_left
                     ·intro w'
                      go_simp
                      with_reducible rfl
                     rotate_left
                     ·simp only [Act.put, List.setIfInBounds_toArray, List.set_cons_zero, List.set_cons_succ, i64_w, i32_w]
                      rfl
                     refine pure_ (i := 3) (N := some 94) (v := ?_) (a' := ?_) #[true, true, true, true, false, false, false, false, false, false, false, false, false, false, false] rfl rfl (any_of HT_.out (by kernel_rfl)) (fun _ _ _ h => h) (Or.inl ⟨by rfl, ?_⟩) ?_ ?_
                     rotate_left
                     ·intro w'
                      go_simp
                      with_reducible rfl
                     rotate_left
                     ·simp only [Act.put, List.setIfInBounds_toArray, List.set_cons_zero, List.set_cons_succ, i64_w, i32_w]
                      rfl
                     refine pure_ (i := 5) (N := some 96) (v := ?_) (a' := ?_) #[true, true, true, true, false, true, false, false, false, false, false, false, false, false, false] rfl rfl (any_of HT_.out (by kernel_rfl)) (fun _ _ _ h => h) (Or.inl ⟨by rfl, ?_⟩) ?_ ?_
                     rotate_left
                     ·intro w'
                      go_simp
                      with_reducible rfl
                     rotate_left
                     ·simp only [Act.put, List.setIfInBounds_toArray, List.set_cons_zero, List.set_cons_succ, i64_w, i32_w]
                      rfl
                     refine pure_ (i := 6) (N := some 97) (v := ?_) (a' := ?_) #[true, true, true, true, false, true, true, false, false, false, false, false, false, false, false] rfl rfl (any_of HT_.out (by kernel_rfl)) (fun _ _ _ h => h) (Or.inl ⟨by rfl, ?_⟩) ?_ ?_
                     rotate_left
                     ·intro w'
                      go_simp
                      with_reducible rfl
                     rotate_left
                     ·simp only [Act.put, List.setIfInBounds_toArray, List.set_cons_zero, List.set_cons_succ, i64_w, i32_w]
                      rfl
                     refine pure_ (i := 7) (N := some 98) (v := ?_) (a' := ?_) #[true, true, true, true, false, true, true, true, false, false, false, false, false, false, false] rfl rfl (any_of HT_.out (by kernel_rfl)) (fun _ _ _ h => h) (Or.inl ⟨by rfl, ?_⟩) ?_ ?_
                     rotate_left
                     ·intro w'
                      go_simp
                      with_reducible rfl
                     rotate_left
                     ·simp only [Act.put, List.setIfInBounds_toArray, List.set_cons_zero, List.set_cons_succ, i64_w, i32_w]
                      rfl
                     refine take_ (i := 4) (N := some 95) (v := ?_) (a' := ?_) #[true, true, true, true, true, true, true, true, false, false, false, false, false, false, false] rfl rfl (take_ofW HT_.out HW_.out (by kernel_rfl)) (fun _ _ _ h => h) (Or.inl ⟨by rfl, ?_⟩) hHeld ?_ ?_
                     rotate_left
                     ·rintro w' ⟨s0, s1⟩
                      go_simp
                      with_reducible rfl
                     rotate_left
                     ·simp only [Act.put, List.setIfInBounds_toArray, List.set_cons_zero, List.set_cons_succ, i64_w, i32_w]
                      rfl
                     refine take_ (i := 8) (N := some 99) (v := ?_) (a' := ?_) #[true, true, true, true, true, true, true, true, true, false, false, false, false, false, false] rfl rfl (take_ofW HT_.out HW_.out (by kernel_rfl)) (fun _ _ _ h => h) (Or.inl ⟨by rfl, ?_⟩) hHeld ?_ ?_
                     rotate_left
                     ·rintro w' ⟨s0, s1⟩
                      go_simp
                      with_reducible rfl
                     rotate_left
                     ·simp only [Act.put, List.setIfInBounds_toArray, List.set_cons_zero, List.set_cons_succ, i64_w, i32_w]
                      rfl
                     refine one_ (i := 9) (N := some 100) #[true, true, true, true, true, true, true, true, true, true, false, false, false, false, false] rfl rfl (one_of HT_.out (by kernel_rfl)) (by decide) (fun K hK => ?_)
                     refine goes_ Try.func44 (by kernel_rfl) rfl #[.int .i64 a0, .int .i64 (rd x12_47 x15_3), .int .i64 (rd x13_47 x16_4)] (by rfl) rfl rfl (by (try simp only [List.map_toArray, List.map_cons, List.map_nil]); first | done | rfl) ?_
                     with_reducible refine (fr7_Exact.calls k4 a0 (rd x12_47 x15_3) (rd x13_47 x16_4) t328 t329 _ A95.out).mono ?_
                     rintro e w112 ⟨rfl, hb⟩
                     have HS0_ := (hb.cell (World.block_lt_of_cell? _ _ (hHeld.1))).trans (hHeld.1);have HS1_ := (hb.cell (World.block_lt_of_cell? _ _ (hHeld.2))).trans (hHeld.2)
                     refine ⟨_, rfl, ?_⟩
                     have n0_ := Aside0.mk (Kd.R_below (by (with_reducible repeat (first | apply Kd.R_alloc | apply Kd.R_drewN | apply Kd.R_drew)); exact HO_12.out) hb)
                     have n1_ := Aside0.mk (Kd.R_below (by (with_reducible repeat (first | apply Kd.R_alloc | apply Kd.R_drewN | apply Kd.R_drew)); exact HO_13.out) hb)
                     have n2_ := Aside0.mk (blk_below (g := gb304) (o := .cells #[.int .i64 a1_0, .int .i64 a1_1] 35 (0, 0)) (bk BK304.out) hb);have n3_ := Aside0.mk (blk_below (g := gb305) (o := .cells #[.int .i64 a2_0, .int .i64 a2_1] 35 (0, 0)) (bk BK305.out) hb);have n4_ := Aside0.mk (blk_below (g := gb306) (o := .cells #[.int .i64 x307000_47, .int .i64 x307001_47] 35 (0, 0)) (bk BK306.out) hb);have n5_ := Aside0.mk (blk_below (g := gb307) (o := .cells #[.int .i64 0, .int .i64 0] 35 (0, 0)) (bk BK307.out) hb);have n6_ := Aside0.mk (blk_below (g := gb325) (o := .cells #[.int .i64 x326000_4, .int .i64 x326001_4] 35 (0, 0)) (bk BK325.out) hb)
                     have n7_ := Aside0.mk (below_step (by repeat (first | (with_reducible first | exact HB.out | apply below_alloc | apply pw_below_drewN | apply below_drew1 | refine below_set ?_ GE304.out | refine below_set ?_ GE305.out | refine below_set ?_ GE306.out | refine below_set ?_ GE307.out | refine below_set ?_ GE325.out) | exact HB.out)) hb)
                     clear HO_12;clear HO_13;clear BK304;clear BK305;clear BK306;clear BK307;clear BK325;clear HB;have HO_12 := n0_;have HO_13 := n1_;have BK304 := n2_;have BK305 := n3_;have BK306 := n4_;have BK307 := n5_;have BK325 := n6_;have HB := n7_;clear n0_ n1_ n2_ n3_ n4_ n5_ n6_ n7_
                     (try clear hb)
                     (try clear hb2)
                     (try clear hk)
                     (try clear hi)
                     refine hK.out _ _ ⟨HS0_, HS1_⟩ (fun hHeld => ?_)
                     clear hK K
                     refine norm_ (a' := ?_) ?_ ?_
                     rotate_left
                     ·show Act.put _ (some 100) _ = _
                      simp only [Act.put, List.setIfInBounds_toArray, List.set_cons_zero, List.set_cons_succ, i64_w, i32_w]
                      rfl
                     refine pure_ (i := 10) (N := some 90) (v := ?_) (a' := ?_) #[true, true, true, true, true, true, true, true, true, true, true, false, false, false, false] rfl rfl (any_of HT_.out (by kernel_rfl)) (fun _ _ _ h => h) (Or.inl ⟨by rfl, ?_⟩) ?_ ?_
                     rotate_left
                     ·intro w'
                      go_simp
                      with_reducible rfl
                     rotate_left
                     ·simp only [Act.put, List.setIfInBounds_toArray, List.set_cons_zero, List.set_cons_succ, i64_w, i32_w]
                      rfl
                     refine pure_ (i := 11) (N := some 101) (v := ?_) (a' := ?_) #[true, true, true, true, true, true, true, true, true, true, true, true, false, false, false] rfl rfl (any_of HT_.out (by kernel_rfl)) (fun _ _ _ h => h) (Or.inl ⟨by rfl, ?_⟩) ?_ ?_
                     rotate_left
                     ·intro w'
                      go_simp
                      with_reducible rfl
                     rotate_left
                     ·simp only [Act.put, List.setIfInBounds_toArray, List.set_cons_zero, List.set_cons_succ, i64_w, i32_w]
                      rfl
                     refine pure_ (i := 12) (N := some 102) (v := ?_) (a' := ?_) #[true, true, true, true, true, true, true, true, true, true, true, true, true, false, false] rfl rfl (any_of HT_.out (by kernel_rfl)) (fun _ _ _ h => h) (Or.inl ⟨by rfl, ?_⟩) ?_ ?_
                     rotate_left
                     ·intro w'
                      go_simp
                      with_reducible rfl
                     rotate_left
                     ·simp only [Act.put, List.setIfInBounds_toArray, List.set_cons_zero, List.set_cons_succ, i64_w, i32_w]
                      rfl
                     refine pure_ (i := 13) (N := some 17) (v := ?_) (a' := ?_) #[true, true, true, true, true, true, true, true, true, true, true, true, true, true, false] rfl rfl (any_of HT_.out (by kernel_rfl)) (fun _ _ _ h => h) (Or.inl ⟨by rfl, ?_⟩) ?_ ?_
                     rotate_left
                     ·intro w'
                      go_simp
                      with_reducible rfl
                     rotate_left
                     ·simp only [Act.put, List.setIfInBounds_toArray, List.set_cons_zero, List.set_cons_succ, i64_w, i32_w]
                      rfl
                     refine pure_ (i := 14) (N := some 18) (v := ?_) (a' := ?_) #[true, true, true, true, true, true, true, true, true, true, true, true, true, true, true] rfl rfl (any_of HT_.out (by kernel_rfl)) (fun _ _ _ h => h) (Or.inl ⟨by rfl, ?_⟩) ?_ ?_
                     rotate_left
                     ·intro w'
                      go_simp
                      with_reducible rfl
                     rotate_left
                     ·simp only [Act.put, List.setIfInBounds_toArray, List.set_cons_zero, List.set_cons_succ, i64_w, i32_w]
                      rfl
                     refine done_ (done_of HT_.out (by kernel_rfl)) ?_
                     have hnb113 := NB325_304.out;have hnc113 := NB304_325.out;have hnb114 := NB325_305.out;have hnc114 := NB305_325.out;have hnb115 := NB325_306.out;have hnc115 := NB306_325.out;have hnb116 := NB325_307.out;have hnc116 := NB307_325.out
                     have hcz117_0 : w112.cell? ⟨gb325, 0, none⟩ = some (.int .i64 x326000_4) := (blk_cell BK325.out 0).trans rfl
                     have hcz117_1 : w112.cell? ⟨gb325, 1, none⟩ = some (.int .i64 x326001_4) := (blk_cell BK325.out 1).trans rfl
                     have hfz117_0 := blk_frozen BK325.out 0;have hfz117_1 := blk_frozen BK325.out 1
                     try go_wp2
                     go_roundg k4
                     case measure => have := HJ9.out; have := HJ47.out; have := HK3.out; have := HK4.out; omega
                     case rel => exact ⟨(wrap64 (x16_4 + 1)), (ji108), (ji109), (by first | rfl | (simp; done) | (simp [*]; done)), H', ⟨by have := HJ9.out; have := HJ47.out; have := HK3.out; have := HK4.out; omega⟩, ⟨by (with_reducible repeat (first | apply Kd.R_alloc | apply Kd.R_drewN | apply Kd.R_drew)); exact Kd.R_mono (Kd.R_far (p := ⟨gb325, 1, none⟩) (Kd.R_far (p := ⟨gb325, 0, none⟩) (Kd.R_types HO_12.out BK325.out (by decide)) (fun _ hk => hk.2) (.int .i64 ji108)) (fun _ hk => hk.2) (.int .i64 ji109)) (fun _ hk => hk.1)⟩, ⟨by (with_reducible repeat (first | apply Kd.R_alloc | apply Kd.R_drewN | apply Kd.R_drew)); exact Kd.R_mono (Kd.R_far (p := ⟨gb325, 1, none⟩) (Kd.R_far (p := ⟨gb325, 0, none⟩) (Kd.R_types HO_13.out BK325.out (by decide)) (fun _ hk => hk.2) (.int .i64 ji108)) (fun _ hk => hk.2) (.int .i64 ji109)) (fun _ hk => hk.1)⟩, ⟨by refine bk (blk_far ?_ NB304_325.out _); refine bk (blk_far ?_ NB304_325.out _); exact bk BK304.out⟩, ⟨by refine bk (blk_far ?_ NB305_325.out _); refine bk (blk_far ?_ NB305_325.out _); exact bk BK305.out⟩, ⟨by refine bk (blk_far ?_ NB306_325.out _); refine bk (blk_far ?_ NB306_325.out _); exact bk BK306.out⟩, ⟨by refine bk (blk_far ?_ NB307_325.out _); refine bk (blk_far ?_ NB307_325.out _); exact bk BK307.out⟩, ⟨by refine bk (blk_put (cs := #[.int .i64 ji108, .int .i64 x326001_4]) ?_ 1 _ rfl); refine bk (blk_put (cs := #[.int .i64 x326000_4, .int .i64 x326001_4]) ?_ 0 _ rfl); exact bk BK325.out⟩, ⟨by repeat (first | (with_reducible first | exact HB.out | apply below_alloc | apply pw_below_drewN | apply below_drew1 | refine below_set ?_ GE304.out | refine below_set ?_ GE305.out | refine below_set ?_ GE306.out | refine below_set ?_ GE307.out | refine below_set ?_ GE325.out) | exact HB.out)⟩⟩
                  ·rw [if_neg c96] at H
                   have c96b0 : (x15_3 == 0) = false := beq_eq_false_iff_ne.mpr c96
                   have c96b1 : (x15_3 != 0) = true := bne_iff_ne.mpr c96
                   obtain ⟨ji118, hji118⟩ : ∃ j_ : Int, (mn x326000_4 t328) = j_ := ⟨_, rfl⟩
                   replace H : (fr7_RangeOf.l1 k4 a0 x12_47 x13_47 x15_3 (wrap64 (x16_4 + 1)) 0 0 ji118 (mx x326001_4 t328)) = some (r1, r2, r3) := by first | (rw [hji118] at H; exact H) | (simp only [hji118] at H ⊢; exact H)
                   (try rw [hji118] at A95)
                   have hji118_ : (if t328 < x326000_4 then t328 else x326000_4) = ji118 := hji118
                   obtain ⟨ji119, hji119⟩ : ∃ j_ : Int, (mx x326001_4 t328) = j_ := ⟨_, rfl⟩
                   replace H : (fr7_RangeOf.l1 k4 a0 x12_47 x13_47 x15_3 (wrap64 (x16_4 + 1)) 0 0 ji118 ji119) = some (r1, r2, r3) := by first | (rw [hji119] at H; exact H) | (simp only [hji119] at H ⊢; exact H)
                   (try rw [hji119] at A95)
                   have hji119_ : (if x326001_4 < t328 then t328 else x326001_4) = ji119 := hji119
                   as_aux_lemma =>
                    have H' := Aside0.mk H
                    clear H;obtain ⟨Ao120, co120, eo120⟩ := Kd.R_slice HO_13.out;subst eo120
                    try go_wp2
                    have n0_ := Aside0.mk (Kd.R_drew HO_12.out);have n1_ := Aside0.mk (Kd.R_drew HO_13.out);have n2_ := Aside0.mk (blk_drew BK304.out);have n3_ := Aside0.mk (blk_drew BK305.out);have n4_ := Aside0.mk (blk_drew BK306.out);have n5_ := Aside0.mk (blk_drew BK307.out);have n6_ := Aside0.mk (blk_drew BK325.out);have n7_ := Aside0.mk (below_drew1 HB.out);clear HO_12;clear HO_13;clear BK304;clear BK305;clear BK306;clear BK307;clear BK325;clear HB;have HO_12 := n0_;have HO_13 := n1_;have BK304 := n2_;have BK305 := n3_;have BK306 := n4_;have BK307 := n5_;have BK325 := n6_;have HB := n7_;clear n0_ n1_ n2_ n3_ n4_ n5_ n6_ n7_
                    have p326 : 0 ≤ (x15_3 : Int) := of_decide_eq_true (by first | (with_reducible assumption) | assumption)
                    have q326 : x15_3 < (x12_47.length : Int) := of_decide_eq_true (by first | (with_reducible assumption) | assumption)
                    obtain ⟨ad326, e326, hx326_0⟩ := Kd.at_int (Kd.R_reads' HO_12.out).2.2 x15_3 p326 q326
                    cases e326
                    replace p326 := eq_true p326;replace q326 := eq_true q326
                    have p327 : 0 ≤ (x16_4 : Int) := of_decide_eq_true (by first | (with_reducible assumption) | assumption)
                    have q327 : x16_4 < (x13_47.length : Int) := of_decide_eq_true (by first | (with_reducible assumption) | assumption)
                    obtain ⟨ad327, e327, hx327_0⟩ := Kd.at_int (Kd.R_reads' HO_13.out).2.2 x16_4 p327 q327
                    cases e327
                    replace p327 := eq_true p327;replace q327 := eq_true q327
                    refine start_ (n := 15) (S := fun w' => w'.cell? (ad326.add (x15_3).toNat) = some (.int .i64 (rd x12_47 x15_3)) ∧ w'.cell? (ad327.add (x16_4).toNat) = some (.int .i64 (rd x13_47 x16_4))) (ds := []) #[false, false, false, false, false, false, false, false, false, false, false, false, false, false, false] (by kernel_rfl) rfl rfl ⟨hx326_0, hx327_0⟩ (fun hHeld => ?_); refine with_tabW fr7_RangeOf.tab25 fr7_RangeOf.bits25 (fun HT_ HW_ => ?_)
                    generalize wr.drew = w121 at HO_12 HO_13 BK304 BK305 BK306 BK307 BK325 HB hx326_0 hx327_0 hHeld ⊢
                    refine pure_ (i := 0) (N := some 91) (v := ?_) (a' := ?_) #[true, false, false, false, false, false, false, false, false, false, false, false, false, false, false] rfl rfl (any_of HT_.out (by kernel_rfl)) (fun _ _ _ h => h) (Or.inl ⟨by rfl, ?_⟩) ?_ ?_
                    rotate_left
                    ·intro w'
                     go_simp
                     with_reducible rfl
                    rotate_left
                    ·simp only [Act.put, List.setIfInBounds_toArray, List.set_cons_zero, List.set_cons_succ, i64_w, i32_w]
                     rfl
                    refine pure_ (i := 1) (N := some 92) (v := ?_) (a' := ?_) #[true, true, false, false, false, false, false, false, false, false, false, false, false, false, false] rfl rfl (any_of HT_.out (by kernel_rfl)) (fun _ _ _ h => h) (Or.inl ⟨by rfl, ?_⟩) ?_ ?_
                    rotate_left
                    ·intro w'
                     go_simp
                     with_reducible rfl
                    rotate_left
                    ·simp only [Act.put, List.setIfInBounds_toArray, List.set_cons_zero, List.set_cons_succ, i64_w, i32_w]
                     rfl
                    refine pure_ (i := 2) (N := some 93) (v := ?_) (a' := ?_) #[true, true, true, false, false, false, false, false, false, false, false, false, false, false, false] rfl rfl (any_of HT_.out (by kernel_rfl)) (fun _ _ _ h => h) (Or.inl ⟨by rfl, ?_⟩) ?_ ?_
                    rotate_left
                    ·intro w'
                     go_simp
                     with_reducible rfl
                    rotate_left
                    ·simp only [Act.put, List.setIfInBounds_toArray, List.set_cons_zero, List.set_cons_succ, i64_w, i32_w]
                     rfl
                    refine pure_ (i := 3) (N := some 94) (v := ?_) (a' := ?_) #[true, true, true, true, false, false, false, false, false, false, false, false, false, false, false] rfl rfl (any_of HT_.out (by kernel_rfl)) (fun _ _ _ h => h) (Or.inl ⟨by rfl, ?_⟩) ?_ ?_
                    rotate_left
                    ·intro w'
                     go_simp
                     with_reducible rfl
                    rotate_left
                    ·simp only [Act.put, List.setIfInBounds_toArray, List.set_cons_zero, List.set_cons_succ, i64_w, i32_w]
                     rfl
                    refine pure_ (i := 5) (N := some 96) (v := ?_) (a' := ?_) #[true, true, true, true, false, true, false, false, false, false, false, false, false, false, false] rfl rfl (any_of HT_.out (by kernel_rfl)) (fun _ _ _ h => h) (Or.inl ⟨by rfl, ?_⟩) ?_ ?_
                    rotate_left
                    ·intro w'
                     go_simp
                     with_reducible rfl
                    rotate_left
                    ·simp only [Act.put, List.setIfInBounds_toArray, List.set_cons_zero, List.set_cons_succ, i64_w, i32_w]
                     rfl
                    refine pure_ (i := 6) (N := some 97) (v := ?_) (a' := ?_) #[true, true, true, true, false, true, true, false, false, false, false, false, false, false, false] rfl rfl (any_of HT_.out (by kernel_rfl)) (fun _ _ _ h => h) (Or.inl ⟨by rfl, ?_⟩) ?_ ?_
                    rotate_left
                    ·intro w'
                     go_simp
                     with_reducible rfl
                    rotate_left
                    ·simp only [Act.put, List.setIfInBounds_toArray, List.set_cons_zero, List.set_cons_succ, i64_w, i32_w]
                     rfl
                    refine pure_ (i := 7) (N := some 98) (v := ?_) (a' := ?_) #[true, true, true, true, false, true, true, true, false, false, false, false, false, false, false] rfl rfl (any_of HT_.out (by kernel_rfl)) (fun _ _ _ h => h) (Or.inl ⟨by rfl, ?_⟩) ?_ ?_
                    rotate_left
                    ·intro w'
                     go_simp
                     with_reducible rfl
                    rotate_left
                    ·simp only [Act.put, List.setIfInBounds_toArray, List.set_cons_zero, List.set_cons_succ, i64_w, i32_w]
                     rfl
                    refine take_ (i := 4) (N := some 95) (v := ?_) (a' := ?_) #[true, true, true, true, true, true, true, true, false, false, false, false, false, false, false] rfl rfl (take_ofW HT_.out HW_.out (by kernel_rfl)) (fun _ _ _ h => h) (Or.inl ⟨by rfl, ?_⟩) hHeld ?_ ?_
                    rotate_left
                    ·rintro w' ⟨s0, s1⟩
                     go_simp
                     with_reducible rfl
                    rotate_left
                    ·simp only [Act.put, List.setIfInBounds_toArray, List.set_cons_zero, List.set_cons_succ, i64_w, i32_w]
                     rfl
                    refine take_ (i := 8) (N := some 99) (v := ?_) (a' := ?_) #[true, true, true, true, true, true, true, true, true, false, false, false, false, false, false] rfl rfl (take_ofW HT_.out HW_.out (by kernel_rfl)) (fun _ _ _ h => h) (Or.inl ⟨by rfl, ?_⟩) hHeld ?_ ?_
                    rotate_left
                    ·rintro w' ⟨s0, s1⟩
                     go_simp
                     with_reducible rfl
                    rotate_left
                    ·simp only [Act.put, List.setIfInBounds_toArray, List.set_cons_zero, List.set_cons_succ, i64_w, i32_w]
                     rfl
                    refine one_ (i := 9) (N := some 100) #[true, true, true, true, true, true, true, true, true, true, false, false, false, false, false] rfl rfl (one_of HT_.out (by kernel_rfl)) (by decide) (fun K hK => ?_)
                    refine goes_ Try.func44 (by kernel_rfl) rfl #[.int .i64 a0, .int .i64 (rd x12_47 x15_3), .int .i64 (rd x13_47 x16_4)] (by rfl) rfl rfl (by (try simp only [List.map_toArray, List.map_cons, List.map_nil]); first | done | rfl) ?_
                    with_reducible refine (fr7_Exact.calls k4 a0 (rd x12_47 x15_3) (rd x13_47 x16_4) t328 t329 _ A95.out).mono ?_
                    rintro e w122 ⟨rfl, hb⟩
                    have HS0_ := (hb.cell (World.block_lt_of_cell? _ _ (hHeld.1))).trans (hHeld.1);have HS1_ := (hb.cell (World.block_lt_of_cell? _ _ (hHeld.2))).trans (hHeld.2)
                    refine ⟨_, rfl, ?_⟩
                    have n0_ := Aside0.mk (Kd.R_below (by (with_reducible repeat (first | apply Kd.R_alloc | apply Kd.R_drewN | apply Kd.R_drew)); exact HO_12.out) hb)
                    have n1_ := Aside0.mk (Kd.R_below (by (with_reducible repeat (first | apply Kd.R_alloc | apply Kd.R_drewN | apply Kd.R_drew)); exact HO_13.out) hb)
                    have n2_ := Aside0.mk (blk_below (g := gb304) (o := .cells #[.int .i64 a1_0, .int .i64 a1_1] 35 (0, 0)) (bk BK304.out) hb);have n3_ := Aside0.mk (blk_below (g := gb305) (o := .cells #[.int .i64 a2_0, .int .i64 a2_1] 35 (0, 0)) (bk BK305.out) hb);have n4_ := Aside0.mk (blk_below (g := gb306) (o := .cells #[.int .i64 x307000_47, .int .i64 x307001_47] 35 (0, 0)) (bk BK306.out) hb);have n5_ := Aside0.mk (blk_below (g := gb307) (o := .cells #[.int .i64 0, .int .i64 0] 35 (0, 0)) (bk BK307.out) hb);have n6_ := Aside0.mk (blk_below (g := gb325) (o := .cells #[.int .i64 x326000_4, .int .i64 x326001_4] 35 (0, 0)) (bk BK325.out) hb)
                    have n7_ := Aside0.mk (below_step (by repeat (first | (with_reducible first | exact HB.out | apply below_alloc | apply pw_below_drewN | apply below_drew1 | refine below_set ?_ GE304.out | refine below_set ?_ GE305.out | refine below_set ?_ GE306.out | refine below_set ?_ GE307.out | refine below_set ?_ GE325.out) | exact HB.out)) hb)
                    clear HO_12;clear HO_13;clear BK304;clear BK305;clear BK306;clear BK307;clear BK325;clear HB;have HO_12 := n0_;have HO_13 := n1_;have BK304 := n2_;have BK305 := n3_;have BK306 := n4_;have BK307 := n5_;have BK325 := n6_;have HB := n7_;clear n0_ n1_ n2_ n3_ n4_ n5_ n6_ n7_
                    (try clear hb)
                    (try clear hb2)
                    (try clear hk)
                    (try clear hi)
                    refine hK.out _ _ ⟨HS0_, HS1_⟩ (fun hHeld => ?_)
                    clear hK K
                    refine norm_ (a' := ?_) ?_ ?_
                    rotate_left
                    ·show Act.put _ (some 100) _ = _
                     simp only [Act.put, List.setIfInBounds_toArray, List.set_cons_zero, List.set_cons_succ, i64_w, i32_w]
                     rfl
                    refine pure_ (i := 10) (N := some 90) (v := ?_) (a' := ?_) #[true, true, true, true, true, true, true, true, true, true, true, false, false, false, false] rfl rfl (any_of HT_.out (by kernel_rfl)) (fun _ _ _ h => h) (Or.inl ⟨by rfl, ?_⟩) ?_ ?_
                    rotate_left
                    ·intro w'
                     go_simp
                     with_reducible rfl
                    rotate_left
                    ·simp only [Act.put, List.setIfInBounds_toArray, List.set_cons_zero, List.set_cons_succ, i64_w, i32_w]
                     rfl
                    refine pure_ (i := 11) (N := some 101) (v := ?_) (a' := ?_) #[true, true, true, true, true, true, true, true, true, true, true, true, false, false, false] rfl rfl (any_of HT_.out (by kernel_rfl)) (fun _ _ _ h => h) (Or.inl ⟨by rfl, ?_⟩) ?_ ?_
                    rotate_left
                    ·intro w'
                     go_simp
                     with_reducible rfl
                    rotate_left
                    ·simp only [Act.put, List.setIfInBounds_toArray, List.set_cons_zero, List.set_cons_succ, i64_w, i32_w]
                     rfl
                    refine pure_ (i := 12) (N := some 102) (v := ?_) (a' := ?_) #[true, true, true, true, true, true, true, true, true, true, true, true, true, false, false] rfl rfl (any_of HT_.out (by kernel_rfl)) (fun _ _ _ h => h) (Or.inl ⟨by rfl, ?_⟩) ?_ ?_
                    rotate_left
                    ·intro w'
                     go_simp
                     with_reducible rfl
                    rotate_left
                    ·simp only [Act.put, List.setIfInBounds_toArray, List.set_cons_zero, List.set_cons_succ, i64_w, i32_w]
                     rfl
                    refine pure_ (i := 13) (N := some 17) (v := ?_) (a' := ?_) #[true, true, true, true, true, true, true, true, true, true, true, true, true, true, false] rfl rfl (any_of HT_.out (by kernel_rfl)) (fun _ _ _ h => h) (Or.inl ⟨by rfl, ?_⟩) ?_ ?_
                    rotate_left
                    ·intro w'
                     go_simp
                     with_reducible rfl
                    rotate_left
                    ·simp only [Act.put, List.setIfInBounds_toArray, List.set_cons_zero, List.set_cons_succ, i64_w, i32_w]
                     rfl
                    refine pure_ (i := 14) (N := some 18) (v := ?_) (a' := ?_) #[true, true, true, true, true, true, true, true, true, true, true, true, true, true, true] rfl rfl (any_of HT_.out (by kernel_rfl)) (fun _ _ _ h => h) (Or.inl ⟨by rfl, ?_⟩) ?_ ?_
                    rotate_left
                    ·intro w'
                     go_simp
                     with_reducible rfl
                    rotate_left
                    ·simp only [Act.put, List.setIfInBounds_toArray, List.set_cons_zero, List.set_cons_succ, i64_w, i32_w]
                     rfl
                    refine done_ (done_of HT_.out (by kernel_rfl)) ?_
                    have hnb123 := NB325_304.out;have hnc123 := NB304_325.out;have hnb124 := NB325_305.out;have hnc124 := NB305_325.out;have hnb125 := NB325_306.out;have hnc125 := NB306_325.out;have hnb126 := NB325_307.out;have hnc126 := NB307_325.out
                    have hcz127_0 : w122.cell? ⟨gb325, 0, none⟩ = some (.int .i64 x326000_4) := (blk_cell BK325.out 0).trans rfl
                    have hcz127_1 : w122.cell? ⟨gb325, 1, none⟩ = some (.int .i64 x326001_4) := (blk_cell BK325.out 1).trans rfl
                    have hfz127_0 := blk_frozen BK325.out 0;have hfz127_1 := blk_frozen BK325.out 1
                    try go_wp2
                    go_roundg k4
                    case measure => have := HJ9.out; have := HJ47.out; have := HK3.out; have := HK4.out; omega
                    case rel => exact ⟨(wrap64 (x16_4 + 1)), (ji118), (ji119), (by first | rfl | (simp; done) | (simp [*]; done)), H', ⟨by have := HJ9.out; have := HJ47.out; have := HK3.out; have := HK4.out; omega⟩, ⟨by (with_reducible repeat (first | apply Kd.R_alloc | apply Kd.R_drewN | apply Kd.R_drew)); exact Kd.R_mono (Kd.R_far (p := ⟨gb325, 1, none⟩) (Kd.R_far (p := ⟨gb325, 0, none⟩) (Kd.R_types HO_12.out BK325.out (by decide)) (fun _ hk => hk.2) (.int .i64 ji118)) (fun _ hk => hk.2) (.int .i64 ji119)) (fun _ hk => hk.1)⟩, ⟨by (with_reducible repeat (first | apply Kd.R_alloc | apply Kd.R_drewN | apply Kd.R_drew)); exact Kd.R_mono (Kd.R_far (p := ⟨gb325, 1, none⟩) (Kd.R_far (p := ⟨gb325, 0, none⟩) (Kd.R_types HO_13.out BK325.out (by decide)) (fun _ hk => hk.2) (.int .i64 ji118)) (fun _ hk => hk.2) (.int .i64 ji119)) (fun _ hk => hk.1)⟩, ⟨by refine bk (blk_far ?_ NB304_325.out _); refine bk (blk_far ?_ NB304_325.out _); exact bk BK304.out⟩, ⟨by refine bk (blk_far ?_ NB305_325.out _); refine bk (blk_far ?_ NB305_325.out _); exact bk BK305.out⟩, ⟨by refine bk (blk_far ?_ NB306_325.out _); refine bk (blk_far ?_ NB306_325.out _); exact bk BK306.out⟩, ⟨by refine bk (blk_far ?_ NB307_325.out _); refine bk (blk_far ?_ NB307_325.out _); exact bk BK307.out⟩, ⟨by refine bk (blk_put (cs := #[.int .i64 ji118, .int .i64 x326001_4]) ?_ 1 _ rfl); refine bk (blk_put (cs := #[.int .i64 x326000_4, .int .i64 x326001_4]) ?_ 0 _ rfl); exact bk BK325.out⟩, ⟨by repeat (first | (with_reducible first | exact HB.out | apply below_alloc | apply pw_below_drewN | apply below_drew1 | refine below_set ?_ GE304.out | refine below_set ?_ GE305.out | refine below_set ?_ GE306.out | refine below_set ?_ GE307.out | refine below_set ?_ GE325.out) | exact HB.out)⟩⟩
                 ·rw [if_neg c94] at H
                  exact absurd H (by simp)
                ·rw [if_neg c93] at H
                 exact absurd H (by simp)
               ·rw [if_neg c92] at H
                exact absurd H (by simp)
              ·rw [if_neg c91] at H
               have c91b0 : decide (x16_4 < (x13_47.length : Int)) = false := decide_eq_false c91
               clear c91
               as_aux_lemma =>
                have H' := Aside0.mk H
                clear H;obtain ⟨Ao128, co128, eo128⟩ := Kd.R_slice HO_13.out;subst eo128
                go_wp2
                go_roundg k4
                case measure => have := HJ9.out; have := HJ47.out; have := HK3.out; have := HK4.out; omega
                case rel => exact ⟨(wrap64 (x15_3 + 1)), (x326000_4), (x326001_4), (by first | rfl | (simp; done) | (simp [*]; done)), H', ⟨by have := HJ9.out; have := HJ47.out; have := HK3.out; have := HK4.out; omega⟩, ⟨by (with_reducible repeat (first | apply Kd.R_alloc | apply Kd.R_drewN | apply Kd.R_drew)); exact HO_12.out⟩, ⟨by (with_reducible repeat (first | apply Kd.R_alloc | apply Kd.R_drewN | apply Kd.R_drew)); exact HO_13.out⟩, ⟨bk BK304.out⟩, ⟨bk BK305.out⟩, ⟨bk BK306.out⟩, ⟨bk BK307.out⟩, ⟨bk BK325.out⟩, ⟨by repeat (first | (with_reducible first | exact HB.out | apply below_alloc | apply pw_below_drewN | apply below_drew1 | refine below_set ?_ GE304.out | refine below_set ?_ GE305.out | refine below_set ?_ GE306.out | refine below_set ?_ GE307.out | refine below_set ?_ GE325.out) | exact HB.out)⟩⟩
           ·rw [if_neg c89] at H
            have c89b0 : decide (x15_3 < (x12_47.length : Int)) = false := decide_eq_false c89
            clear c89;replace H := Option.bind_eq_some_iff.mp H;obtain ⟨t330, A1290, H⟩ := H
            try dsimp only at H
            have A129 := Aside0.mk A1290;clear A1290
            by_cases c130 : t330 = true
            ·subst c130
             have H1 : ((fr7_IsInteger.f x326001_3).bind fun t331 => (if t331 = true then (some (x326000_3, x326001_3, 0)) else (some (0, 0, 28)))) = some (r1, r2, r3) := by rw [if_pos rfl] at H; exact H
             clear H;have H := H1;clear H1;replace H := Option.bind_eq_some_iff.mp H;obtain ⟨t331, A1310, H⟩ := H
             try dsimp only at H
             have A131 := Aside0.mk A1310;clear A1310
             by_cases c132 : t331 = true
             ·subst c132
              have H1 : (some (x326000_3, x326001_3, 0)) = some (r1, r2, r3) := by rw [if_pos rfl] at H; exact H
              clear H;have H := H1;clear H1
              as_aux_lemma =>
               simp only [Option.some.injEq, Prod.mk.injEq] at H;obtain ⟨rfl, rfl, rfl⟩ := H;obtain ⟨Ao133, co133, eo133⟩ := Kd.R_slice HO_12.out;subst eo133;have hnb134 := NB325_304.out;have hnc134 := NB304_325.out;have hnb135 := NB325_305.out;have hnc135 := NB305_325.out;have hnb136 := NB325_306.out;have hnc136 := NB306_325.out;have hnb137 := NB325_307.out;have hnc137 := NB307_325.out
               have hcz138_0 : wr.cell? ⟨gb325, 0, none⟩ = some (.int .i64 x326000_3) := (blk_cell BK325.out 0).trans rfl
               have hcz138_1 : wr.cell? ⟨gb325, 1, none⟩ = some (.int .i64 x326001_3) := (blk_cell BK325.out 1).trans rfl
               have hfz138_0 := blk_frozen BK325.out 0;have hfz138_1 := blk_frozen BK325.out 1
               go_wp2_with (first | ((with_reducible refine gate_callee (f := 45) rfl ?_); refine goesL_ (some 123) rfl rfl Try.func45 (by kernel_rfl) rfl #[.int .i64 x326000_3] rfl (by (try simp only [List.map_toArray, List.map_cons, List.map_nil]); first | done | rfl) ?_; (with_reducible refine (fr7_IsInteger.calls x326000_3 true _ A129.out).mono ?_); rintro e w' ⟨rfl, ⟨nd, rfl⟩⟩; refine ⟨_, rfl, ?_⟩; (try (rw [drewN_self wr]; generalize hq_ : World.drewN wr _ = wr; have n0_ : Aside0 (Kd.R (Kd.int .i64) 3 wr w.heap.size (fun k_ => some k_ ≠ (u13 : Value).ownBlock) (.slice Ao133 x12_47.length co133) x12_47) := ⟨by rw [← hq_]; exact (by (with_reducible repeat (first | apply Kd.R_alloc | apply Kd.R_drewN | apply Kd.R_drew)); exact HO_12.out)⟩; have n1_ : Aside0 (Kd.R (Kd.int .i64) 3 wr w.heap.size (fun k_ => some k_ ≠ (.slice Ao133 x12_47.length co133 : Value).ownBlock) u13 x13_47) := ⟨by rw [← hq_]; exact (by (with_reducible repeat (first | apply Kd.R_alloc | apply Kd.R_drewN | apply Kd.R_drew)); exact HO_13.out)⟩; have n2_ : Aside0 (wr.heap[gb304]? = some (.cells #[.int .i64 a1_0, .int .i64 a1_1] 35 (0, 0))) := ⟨by rw [← hq_]; exact (bk BK304.out)⟩; have n3_ : Aside0 (wr.heap[gb305]? = some (.cells #[.int .i64 a2_0, .int .i64 a2_1] 35 (0, 0))) := ⟨by rw [← hq_]; exact (bk BK305.out)⟩; have n4_ : Aside0 (wr.heap[gb306]? = some (.cells #[.int .i64 x307000_47, .int .i64 x307001_47] 35 (0, 0))) := ⟨by rw [← hq_]; exact (bk BK306.out)⟩; have n5_ : Aside0 (wr.heap[gb307]? = some (.cells #[.int .i64 0, .int .i64 0] 35 (0, 0))) := ⟨by rw [← hq_]; exact (bk BK307.out)⟩; have n6_ : Aside0 (wr.heap[gb325]? = some (.cells #[.int .i64 x326000_3, .int .i64 x326001_3] 35 (0, 0))) := ⟨by rw [← hq_]; exact (bk BK325.out)⟩; have n7_ : Aside0 (Below w.heap.size w wr) := ⟨by rw [← hq_]; exact (by repeat (first | (with_reducible first | exact HB.out | apply below_alloc | apply pw_below_drewN | apply below_drew1 | refine below_set ?_ GE304.out | refine below_set ?_ GE305.out | refine below_set ?_ GE306.out | refine below_set ?_ GE307.out | refine below_set ?_ GE325.out) | exact HB.out))⟩; clear HO_12 HO_13 BK304 BK305 BK306 BK307 BK325 HB hq_; have HO_12 := n0_; have HO_13 := n1_; have BK304 := n2_; have BK305 := n3_; have BK306 := n4_; have BK307 := n5_; have BK325 := n6_; have HB := n7_; clear n0_ n1_ n2_ n3_ n4_ n5_ n6_ n7_)); have hczb_0 : wr.cell? ⟨gb325, 0, none⟩ = some (.int .i64 x326000_3) := (blk_cell BK325.out 0).trans rfl; have hczb_1 : wr.cell? ⟨gb325, 1, none⟩ = some (.int .i64 x326001_3) := (blk_cell BK325.out 1).trans rfl) | (go_at_call 45; (with_reducible refine (fr7_IsInteger.calls x326001_3 true _ A131.out).mono ?_); rintro e w' ⟨rfl, ⟨nd, rfl⟩⟩; (try (rw [drewN_self wr]; generalize hq_ : World.drewN wr _ = wr; have n0_ : Aside0 (Kd.R (Kd.int .i64) 3 wr w.heap.size (fun k_ => some k_ ≠ (u13 : Value).ownBlock) (.slice Ao133 x12_47.length co133) x12_47) := ⟨by rw [← hq_]; exact (by (with_reducible repeat (first | apply Kd.R_alloc | apply Kd.R_drewN | apply Kd.R_drew)); exact HO_12.out)⟩; have n1_ : Aside0 (Kd.R (Kd.int .i64) 3 wr w.heap.size (fun k_ => some k_ ≠ (.slice Ao133 x12_47.length co133 : Value).ownBlock) u13 x13_47) := ⟨by rw [← hq_]; exact (by (with_reducible repeat (first | apply Kd.R_alloc | apply Kd.R_drewN | apply Kd.R_drew)); exact HO_13.out)⟩; have n2_ : Aside0 (wr.heap[gb304]? = some (.cells #[.int .i64 a1_0, .int .i64 a1_1] 35 (0, 0))) := ⟨by rw [← hq_]; exact (bk BK304.out)⟩; have n3_ : Aside0 (wr.heap[gb305]? = some (.cells #[.int .i64 a2_0, .int .i64 a2_1] 35 (0, 0))) := ⟨by rw [← hq_]; exact (bk BK305.out)⟩; have n4_ : Aside0 (wr.heap[gb306]? = some (.cells #[.int .i64 x307000_47, .int .i64 x307001_47] 35 (0, 0))) := ⟨by rw [← hq_]; exact (bk BK306.out)⟩; have n5_ : Aside0 (wr.heap[gb307]? = some (.cells #[.int .i64 0, .int .i64 0] 35 (0, 0))) := ⟨by rw [← hq_]; exact (bk BK307.out)⟩; have n6_ : Aside0 (wr.heap[gb325]? = some (.cells #[.int .i64 x326000_3, .int .i64 x326001_3] 35 (0, 0))) := ⟨by rw [← hq_]; exact (bk BK325.out)⟩; have n7_ : Aside0 (Below w.heap.size w wr) := ⟨by rw [← hq_]; exact (by repeat (first | (with_reducible first | exact HB.out | apply below_alloc | apply pw_below_drewN | apply below_drew1 | refine below_set ?_ GE304.out | refine below_set ?_ GE305.out | refine below_set ?_ GE306.out | refine below_set ?_ GE307.out | refine below_set ?_ GE325.out) | exact HB.out))⟩; clear HO_12 HO_13 BK304 BK305 BK306 BK307 BK325 HB hq_; have HO_12 := n0_; have HO_13 := n1_; have BK304 := n2_; have BK305 := n3_; have BK306 := n4_; have BK307 := n5_; have BK325 := n6_; have HB := n7_; clear n0_ n1_ n2_ n3_ n4_ n5_ n6_ n7_)); have hnb139 := NB306_304.out; have hnc139 := NB304_306.out; have hnb140 := NB306_305.out; have hnc140 := NB305_306.out; have hnb141 := NB306_307.out; have hnc141 := NB307_306.out; have hcz142_0 : wr.cell? ⟨gb306, 0, none⟩ = some (.int .i64 x307000_47) := (blk_cell BK306.out 0).trans rfl; have hcz142_1 : wr.cell? ⟨gb306, 1, none⟩ = some (.int .i64 x307001_47) := (blk_cell BK306.out 1).trans rfl; have hfz142_0 := blk_frozen BK306.out 0; have hfz142_1 := blk_frozen BK306.out 1; have hczc_0 : wr.cell? ⟨gb325, 0, none⟩ = some (.int .i64 x326000_3) := (blk_cell BK325.out 0).trans rfl; have hczc_1 : wr.cell? ⟨gb325, 1, none⟩ = some (.int .i64 x326001_3) := (blk_cell BK325.out 1).trans rfl))
               refine bodyPost_ret (results_ct rfl _ _ gb306 35 #[.int .i64 x326000_3, .int .i64 x326001_3] (0, 0) _ rfl (by refine bk (blk_put (cs := #[.int .i64 x326000_3, .int .i64 x307001_47]) ?_ 1 _ rfl); refine bk (blk_put (cs := #[.int .i64 x307000_47, .int .i64 x307001_47]) ?_ 0 _ rfl); exact bk BK306.out) Try.underlying35 rfl (by kernel_rfl)) rfl ?_
               exact ⟨by first | rfl | (simp [*] <;> rfl), by repeat (first | (with_reducible first | exact HB.out | apply below_alloc | apply pw_below_drewN | apply below_drew1 | refine below_set ?_ GE304.out | refine below_set ?_ GE305.out | refine below_set ?_ GE306.out | refine below_set ?_ GE307.out | refine below_set ?_ GE325.out) | exact HB.out)⟩
             ·replace c132 := Bool.eq_false_iff.mpr c132
              subst c132
              have H1 : (some (0, 0, 28)) = some (r1, r2, r3) := by rw [if_neg (show ¬ (false = true) by decide)] at H; exact H
              clear H;have H := H1;clear H1
              as_aux_lemma =>
               simp only [Option.some.injEq, Prod.mk.injEq] at H;obtain ⟨rfl, rfl, rfl⟩ := H;obtain ⟨Ao143, co143, eo143⟩ := Kd.R_slice HO_12.out;subst eo143;have hnb144 := NB325_304.out;have hnc144 := NB304_325.out;have hnb145 := NB325_305.out;have hnc145 := NB305_325.out;have hnb146 := NB325_306.out;have hnc146 := NB306_325.out;have hnb147 := NB325_307.out;have hnc147 := NB307_325.out
               have hcz148_0 : wr.cell? ⟨gb325, 0, none⟩ = some (.int .i64 x326000_3) := (blk_cell BK325.out 0).trans rfl
               have hcz148_1 : wr.cell? ⟨gb325, 1, none⟩ = some (.int .i64 x326001_3) := (blk_cell BK325.out 1).trans rfl
               have hfz148_0 := blk_frozen BK325.out 0;have hfz148_1 := blk_frozen BK325.out 1
               go_wp2_with (first | ((with_reducible refine gate_callee (f := 45) rfl ?_); refine goesL_ (some 123) rfl rfl Try.func45 (by kernel_rfl) rfl #[.int .i64 x326000_3] rfl (by (try simp only [List.map_toArray, List.map_cons, List.map_nil]); first | done | rfl) ?_; (with_reducible refine (fr7_IsInteger.calls x326000_3 true _ A129.out).mono ?_); rintro e w' ⟨rfl, ⟨nd, rfl⟩⟩; refine ⟨_, rfl, ?_⟩; (try (rw [drewN_self wr]; generalize hq_ : World.drewN wr _ = wr; have n0_ : Aside0 (Kd.R (Kd.int .i64) 3 wr w.heap.size (fun k_ => some k_ ≠ (u13 : Value).ownBlock) (.slice Ao143 x12_47.length co143) x12_47) := ⟨by rw [← hq_]; exact (by (with_reducible repeat (first | apply Kd.R_alloc | apply Kd.R_drewN | apply Kd.R_drew)); exact HO_12.out)⟩; have n1_ : Aside0 (Kd.R (Kd.int .i64) 3 wr w.heap.size (fun k_ => some k_ ≠ (.slice Ao143 x12_47.length co143 : Value).ownBlock) u13 x13_47) := ⟨by rw [← hq_]; exact (by (with_reducible repeat (first | apply Kd.R_alloc | apply Kd.R_drewN | apply Kd.R_drew)); exact HO_13.out)⟩; have n2_ : Aside0 (wr.heap[gb304]? = some (.cells #[.int .i64 a1_0, .int .i64 a1_1] 35 (0, 0))) := ⟨by rw [← hq_]; exact (bk BK304.out)⟩; have n3_ : Aside0 (wr.heap[gb305]? = some (.cells #[.int .i64 a2_0, .int .i64 a2_1] 35 (0, 0))) := ⟨by rw [← hq_]; exact (bk BK305.out)⟩; have n4_ : Aside0 (wr.heap[gb306]? = some (.cells #[.int .i64 x307000_47, .int .i64 x307001_47] 35 (0, 0))) := ⟨by rw [← hq_]; exact (bk BK306.out)⟩; have n5_ : Aside0 (wr.heap[gb307]? = some (.cells #[.int .i64 0, .int .i64 0] 35 (0, 0))) := ⟨by rw [← hq_]; exact (bk BK307.out)⟩; have n6_ : Aside0 (wr.heap[gb325]? = some (.cells #[.int .i64 x326000_3, .int .i64 x326001_3] 35 (0, 0))) := ⟨by rw [← hq_]; exact (bk BK325.out)⟩; have n7_ : Aside0 (Below w.heap.size w wr) := ⟨by rw [← hq_]; exact (by repeat (first | (with_reducible first | exact HB.out | apply below_alloc | apply pw_below_drewN | apply below_drew1 | refine below_set ?_ GE304.out | refine below_set ?_ GE305.out | refine below_set ?_ GE306.out | refine below_set ?_ GE307.out | refine below_set ?_ GE325.out) | exact HB.out))⟩; clear HO_12 HO_13 BK304 BK305 BK306 BK307 BK325 HB hq_; have HO_12 := n0_; have HO_13 := n1_; have BK304 := n2_; have BK305 := n3_; have BK306 := n4_; have BK307 := n5_; have BK325 := n6_; have HB := n7_; clear n0_ n1_ n2_ n3_ n4_ n5_ n6_ n7_)); have hczb_0 : wr.cell? ⟨gb325, 0, none⟩ = some (.int .i64 x326000_3) := (blk_cell BK325.out 0).trans rfl; have hczb_1 : wr.cell? ⟨gb325, 1, none⟩ = some (.int .i64 x326001_3) := (blk_cell BK325.out 1).trans rfl) | (go_at_call 45; (with_reducible refine (fr7_IsInteger.calls x326001_3 false _ A131.out).mono ?_); rintro e w' ⟨rfl, ⟨nd, rfl⟩⟩; (try (rw [drewN_self wr]; generalize hq_ : World.drewN wr _ = wr; have n0_ : Aside0 (Kd.R (Kd.int .i64) 3 wr w.heap.size (fun k_ => some k_ ≠ (u13 : Value).ownBlock) (.slice Ao143 x12_47.length co143) x12_47) := ⟨by rw [← hq_]; exact (by (with_reducible repeat (first | apply Kd.R_alloc | apply Kd.R_drewN | apply Kd.R_drew)); exact HO_12.out)⟩; have n1_ : Aside0 (Kd.R (Kd.int .i64) 3 wr w.heap.size (fun k_ => some k_ ≠ (.slice Ao143 x12_47.length co143 : Value).ownBlock) u13 x13_47) := ⟨by rw [← hq_]; exact (by (with_reducible repeat (first | apply Kd.R_alloc | apply Kd.R_drewN | apply Kd.R_drew)); exact HO_13.out)⟩; have n2_ : Aside0 (wr.heap[gb304]? = some (.cells #[.int .i64 a1_0, .int .i64 a1_1] 35 (0, 0))) := ⟨by rw [← hq_]; exact (bk BK304.out)⟩; have n3_ : Aside0 (wr.heap[gb305]? = some (.cells #[.int .i64 a2_0, .int .i64 a2_1] 35 (0, 0))) := ⟨by rw [← hq_]; exact (bk BK305.out)⟩; have n4_ : Aside0 (wr.heap[gb306]? = some (.cells #[.int .i64 x307000_47, .int .i64 x307001_47] 35 (0, 0))) := ⟨by rw [← hq_]; exact (bk BK306.out)⟩; have n5_ : Aside0 (wr.heap[gb307]? = some (.cells #[.int .i64 0, .int .i64 0] 35 (0, 0))) := ⟨by rw [← hq_]; exact (bk BK307.out)⟩; have n6_ : Aside0 (wr.heap[gb325]? = some (.cells #[.int .i64 x326000_3, .int .i64 x326001_3] 35 (0, 0))) := ⟨by rw [← hq_]; exact (bk BK325.out)⟩; have n7_ : Aside0 (Below w.heap.size w wr) := ⟨by rw [← hq_]; exact (by repeat (first | (with_reducible first | exact HB.out | apply below_alloc | apply pw_below_drewN | apply below_drew1 | refine below_set ?_ GE304.out | refine below_set ?_ GE305.out | refine below_set ?_ GE306.out | refine below_set ?_ GE307.out | refine below_set ?_ GE325.out) | exact HB.out))⟩; clear HO_12 HO_13 BK304 BK305 BK306 BK307 BK325 HB hq_; have HO_12 := n0_; have HO_13 := n1_; have BK304 := n2_; have BK305 := n3_; have BK306 := n4_; have BK307 := n5_; have BK325 := n6_; have HB := n7_; clear n0_ n1_ n2_ n3_ n4_ n5_ n6_ n7_)); have hnb149 := NB307_304.out; have hnc149 := NB304_307.out; have hnb150 := NB307_305.out; have hnc150 := NB305_307.out; have hnb151 := NB307_306.out; have hnc151 := NB306_307.out; have hcz152_0 : wr.cell? ⟨gb307, 0, none⟩ = some (.int .i64 0) := (blk_cell BK307.out 0).trans rfl; have hcz152_1 : wr.cell? ⟨gb307, 1, none⟩ = some (.int .i64 0) := (blk_cell BK307.out 1).trans rfl; have hfz152_0 := blk_frozen BK307.out 0; have hfz152_1 := blk_frozen BK307.out 1; have hnb153 := NB306_304.out; have hnc153 := NB304_306.out; have hnb154 := NB306_305.out; have hnc154 := NB305_306.out; have hcz155_0 : wr.cell? ⟨gb306, 0, none⟩ = some (.int .i64 x307000_47) := (blk_cell BK306.out 0).trans rfl; have hcz155_1 : wr.cell? ⟨gb306, 1, none⟩ = some (.int .i64 x307001_47) := (blk_cell BK306.out 1).trans rfl; have hfz155_0 := blk_frozen BK306.out 0; have hfz155_1 := blk_frozen BK306.out 1; have hczc_0 : wr.cell? ⟨gb325, 0, none⟩ = some (.int .i64 x326000_3) := (blk_cell BK325.out 0).trans rfl; have hczc_1 : wr.cell? ⟨gb325, 1, none⟩ = some (.int .i64 x326001_3) := (blk_cell BK325.out 1).trans rfl))
               refine bodyPost_ret (results_ct rfl _ _ gb306 35 #[.int .i64 0, .int .i64 0] (0, 0) _ rfl (by refine bk (blk_put (cs := #[.int .i64 0, .int .i64 x307001_47]) ?_ 1 _ rfl); refine bk (blk_put (cs := #[.int .i64 x307000_47, .int .i64 x307001_47]) ?_ 0 _ rfl); exact bk BK306.out) Try.underlying35 rfl (by kernel_rfl)) rfl ?_
               exact ⟨by first | rfl | (simp [*] <;> rfl), by repeat (first | (with_reducible first | exact HB.out | apply below_alloc | apply pw_below_drewN | apply below_drew1 | refine below_set ?_ GE304.out | refine below_set ?_ GE305.out | refine below_set ?_ GE306.out | refine below_set ?_ GE307.out | refine below_set ?_ GE325.out) | exact HB.out)⟩
            ·replace c130 := Bool.eq_false_iff.mpr c130
             subst c130
             have H1 : (some (0, 0, 28)) = some (r1, r2, r3) := by rw [if_neg (show ¬ (false = true) by decide)] at H; exact H
             clear H;have H := H1;clear H1
             as_aux_lemma =>
              simp only [Option.some.injEq, Prod.mk.injEq] at H;obtain ⟨rfl, rfl, rfl⟩ := H;obtain ⟨Ao156, co156, eo156⟩ := Kd.R_slice HO_12.out;subst eo156;have hnb157 := NB325_304.out;have hnc157 := NB304_325.out;have hnb158 := NB325_305.out;have hnc158 := NB305_325.out;have hnb159 := NB325_306.out;have hnc159 := NB306_325.out;have hnb160 := NB325_307.out;have hnc160 := NB307_325.out
              have hcz161_0 : wr.cell? ⟨gb325, 0, none⟩ = some (.int .i64 x326000_3) := (blk_cell BK325.out 0).trans rfl
              have hcz161_1 : wr.cell? ⟨gb325, 1, none⟩ = some (.int .i64 x326001_3) := (blk_cell BK325.out 1).trans rfl
              have hfz161_0 := blk_frozen BK325.out 0;have hfz161_1 := blk_frozen BK325.out 1
              go_wp2_with (first | ((with_reducible refine gate_callee (f := 45) rfl ?_); refine goesL_ (some 123) rfl rfl Try.func45 (by kernel_rfl) rfl #[.int .i64 x326000_3] rfl (by (try simp only [List.map_toArray, List.map_cons, List.map_nil]); first | done | rfl) ?_; (with_reducible refine (fr7_IsInteger.calls x326000_3 false _ A129.out).mono ?_); rintro e w' ⟨rfl, ⟨nd, rfl⟩⟩; refine ⟨_, rfl, ?_⟩; (try (rw [drewN_self wr]; generalize hq_ : World.drewN wr _ = wr; have n0_ : Aside0 (Kd.R (Kd.int .i64) 3 wr w.heap.size (fun k_ => some k_ ≠ (u13 : Value).ownBlock) (.slice Ao156 x12_47.length co156) x12_47) := ⟨by rw [← hq_]; exact (by (with_reducible repeat (first | apply Kd.R_alloc | apply Kd.R_drewN | apply Kd.R_drew)); exact HO_12.out)⟩; have n1_ : Aside0 (Kd.R (Kd.int .i64) 3 wr w.heap.size (fun k_ => some k_ ≠ (.slice Ao156 x12_47.length co156 : Value).ownBlock) u13 x13_47) := ⟨by rw [← hq_]; exact (by (with_reducible repeat (first | apply Kd.R_alloc | apply Kd.R_drewN | apply Kd.R_drew)); exact HO_13.out)⟩; have n2_ : Aside0 (wr.heap[gb304]? = some (.cells #[.int .i64 a1_0, .int .i64 a1_1] 35 (0, 0))) := ⟨by rw [← hq_]; exact (bk BK304.out)⟩; have n3_ : Aside0 (wr.heap[gb305]? = some (.cells #[.int .i64 a2_0, .int .i64 a2_1] 35 (0, 0))) := ⟨by rw [← hq_]; exact (bk BK305.out)⟩; have n4_ : Aside0 (wr.heap[gb306]? = some (.cells #[.int .i64 x307000_47, .int .i64 x307001_47] 35 (0, 0))) := ⟨by rw [← hq_]; exact (bk BK306.out)⟩; have n5_ : Aside0 (wr.heap[gb307]? = some (.cells #[.int .i64 0, .int .i64 0] 35 (0, 0))) := ⟨by rw [← hq_]; exact (bk BK307.out)⟩; have n6_ : Aside0 (wr.heap[gb325]? = some (.cells #[.int .i64 x326000_3, .int .i64 x326001_3] 35 (0, 0))) := ⟨by rw [← hq_]; exact (bk BK325.out)⟩; have n7_ : Aside0 (Below w.heap.size w wr) := ⟨by rw [← hq_]; exact (by repeat (first | (with_reducible first | exact HB.out | apply below_alloc | apply pw_below_drewN | apply below_drew1 | refine below_set ?_ GE304.out | refine below_set ?_ GE305.out | refine below_set ?_ GE306.out | refine below_set ?_ GE307.out | refine below_set ?_ GE325.out) | exact HB.out))⟩; clear HO_12 HO_13 BK304 BK305 BK306 BK307 BK325 HB hq_; have HO_12 := n0_; have HO_13 := n1_; have BK304 := n2_; have BK305 := n3_; have BK306 := n4_; have BK307 := n5_; have BK325 := n6_; have HB := n7_; clear n0_ n1_ n2_ n3_ n4_ n5_ n6_ n7_)); have hnb162 := NB307_304.out; have hnc162 := NB304_307.out; have hnb163 := NB307_305.out; have hnc163 := NB305_307.out; have hnb164 := NB307_306.out; have hnc164 := NB306_307.out; have hcz165_0 : wr.cell? ⟨gb307, 0, none⟩ = some (.int .i64 0) := (blk_cell BK307.out 0).trans rfl; have hcz165_1 : wr.cell? ⟨gb307, 1, none⟩ = some (.int .i64 0) := (blk_cell BK307.out 1).trans rfl; have hfz165_0 := blk_frozen BK307.out 0; have hfz165_1 := blk_frozen BK307.out 1; have hnb166 := NB306_304.out; have hnc166 := NB304_306.out; have hnb167 := NB306_305.out; have hnc167 := NB305_306.out; have hcz168_0 : wr.cell? ⟨gb306, 0, none⟩ = some (.int .i64 x307000_47) := (blk_cell BK306.out 0).trans rfl; have hcz168_1 : wr.cell? ⟨gb306, 1, none⟩ = some (.int .i64 x307001_47) := (blk_cell BK306.out 1).trans rfl; have hfz168_0 := blk_frozen BK306.out 0; have hfz168_1 := blk_frozen BK306.out 1; have hczc_0 : wr.cell? ⟨gb325, 0, none⟩ = some (.int .i64 x326000_3) := (blk_cell BK325.out 0).trans rfl; have hczc_1 : wr.cell? ⟨gb325, 1, none⟩ = some (.int .i64 x326001_3) := (blk_cell BK325.out 1).trans rfl))
              refine bodyPost_ret (results_ct rfl _ _ gb306 35 #[.int .i64 0, .int .i64 0] (0, 0) _ rfl (by refine bk (blk_put (cs := #[.int .i64 0, .int .i64 x307001_47]) ?_ 1 _ rfl); refine bk (blk_put (cs := #[.int .i64 x307000_47, .int .i64 x307001_47]) ?_ 0 _ rfl); exact bk BK306.out) Try.underlying35 rfl (by kernel_rfl)) rfl ?_
              exact ⟨by first | rfl | (simp [*] <;> rfl), by repeat (first | (with_reducible first | exact HB.out | apply below_alloc | apply pw_below_drewN | apply below_drew1 | refine below_set ?_ GE304.out | refine below_set ?_ GE305.out | refine below_set ?_ GE306.out | refine below_set ?_ GE307.out | refine below_set ?_ GE325.out) | exact HB.out)⟩
   ·rw [if_neg c9] at H
    have c9b0 : (t310 == 0) = false := beq_eq_false_iff_ne.mpr c9
    have c9b1 : (t310 != 0) = true := bne_iff_ne.mpr c9
    as_aux_lemma =>
     simp only [Option.some.injEq, Prod.mk.injEq] at H;obtain ⟨rfl, rfl, rfl⟩ := H
     go_enter Try.func23, Try.ntmps23
     go_wp2_with (first | ((with_reducible refine gate_dst (N := 4) rfl ?_); refine box_event ?hg (N := 4) ?hd (cs := #[.int .i64 a1_0, .int .i64 a1_1]) (t := 35) ?hr ?_; (case hd => rfl); (case hg => rfl); (case hr => first | (go_simp; done) | (go_simp; rfl)); intro gb304 hg w169 hbox hb; have n0_ := Aside0.mk (below_step (bw HB.out) hb); have n1_ := Aside0.mk (hbox); have n2_ := Aside0.mk ((by rw [hg]; exact (below_size (bw HB.out)) : w.heap.size ≤ gb304)); have n3_ := Aside0.mk ((by rw [hg]; exact (below_size (bw HB.out)) : w.heap.size ≤ gb304)); clear HB; have HB := n0_; have BK304 := n1_; have GW304 := n2_; have GE304 := n3_; clear n0_ n1_ n2_ n3_; clear hb hbox hg) | ((with_reducible refine gate_dst (N := 5) rfl ?_); refine box_event ?hg (N := 5) ?hd (cs := #[.int .i64 a2_0, .int .i64 a2_1]) (t := 35) ?hr ?_; (case hd => rfl); (case hg => rfl); (case hr => first | (go_simp; done) | (go_simp; rfl)); intro gb305 hg w170 hbox hb; have n0_ := Aside0.mk (blk_below (g := gb304) (o := .cells #[.int .i64 a1_0, .int .i64 a1_1] 35 (0, 0)) (bk BK304.out) hb); have n1_ := Aside0.mk (below_step (by repeat (first | (with_reducible first | exact HB.out | apply below_alloc | apply pw_below_drewN | apply below_drew1 | refine below_set ?_ GE304.out) | exact HB.out)) hb); have n2_ := Aside0.mk (hbox); have n3_ := Aside0.mk ((by rw [hg]; exact (below_size (by repeat (first | (with_reducible first | exact HB.out | apply below_alloc | apply pw_below_drewN | apply below_drew1 | refine below_set ?_ GE304.out) | exact HB.out))) : w.heap.size ≤ gb305)); have n4_ := Aside0.mk ((by rw [hg]; exact (below_size (by repeat (first | (with_reducible first | exact HB.out | apply below_alloc | apply pw_below_drewN | apply below_drew1 | refine below_set ?_ GE304.out) | exact HB.out))) : w.heap.size ≤ gb305)); have n5_ := Aside0.mk ((by rw [hg]; exact Nat.ne_of_lt (blk_lt (g := gb304) (o := .cells #[.int .i64 a1_0, .int .i64 a1_1] 35 (0, 0)) (bk BK304.out)) : gb304 ≠ gb305)); have n6_ := Aside0.mk ((by rw [hg]; exact Nat.ne_of_gt (blk_lt (g := gb304) (o := .cells #[.int .i64 a1_0, .int .i64 a1_1] 35 (0, 0)) (bk BK304.out)) : gb305 ≠ gb304)); clear BK304; clear HB; have BK304 := n0_; have HB := n1_; have BK305 := n2_; have GW305 := n3_; have GE305 := n4_; have NB304_305 := n5_; have NB305_304 := n6_; clear n0_ n1_ n2_ n3_ n4_ n5_ n6_; clear hb hbox hg) | ((with_reducible refine gate_dst (N := 6) rfl ?_); refine box_event ?hg (N := 6) ?hd (cs := #[.int .i64 0, .int .i64 0]) (t := 35) ?hr ?_; (case hd => rfl); (case hg => rfl); (case hr => first | (go_simp; done) | (go_simp; rfl)); intro gb306 hg w171 hbox hb; have n0_ := Aside0.mk (blk_below (g := gb304) (o := .cells #[.int .i64 a1_0, .int .i64 a1_1] 35 (0, 0)) (bk BK304.out) hb); have n1_ := Aside0.mk (blk_below (g := gb305) (o := .cells #[.int .i64 a2_0, .int .i64 a2_1] 35 (0, 0)) (bk BK305.out) hb); have n2_ := Aside0.mk (below_step (by repeat (first | (with_reducible first | exact HB.out | apply below_alloc | apply pw_below_drewN | apply below_drew1 | refine below_set ?_ GE304.out | refine below_set ?_ GE305.out) | exact HB.out)) hb); have n3_ := Aside0.mk (hbox); have n4_ := Aside0.mk ((by rw [hg]; exact (below_size (by repeat (first | (with_reducible first | exact HB.out | apply below_alloc | apply pw_below_drewN | apply below_drew1 | refine below_set ?_ GE304.out | refine below_set ?_ GE305.out) | exact HB.out))) : w.heap.size ≤ gb306)); have n5_ := Aside0.mk ((by rw [hg]; exact (below_size (by repeat (first | (with_reducible first | exact HB.out | apply below_alloc | apply pw_below_drewN | apply below_drew1 | refine below_set ?_ GE304.out | refine below_set ?_ GE305.out) | exact HB.out))) : w.heap.size ≤ gb306)); have n6_ := Aside0.mk ((by rw [hg]; exact Nat.ne_of_lt (blk_lt (g := gb304) (o := .cells #[.int .i64 a1_0, .int .i64 a1_1] 35 (0, 0)) (bk BK304.out)) : gb304 ≠ gb306)); have n7_ := Aside0.mk ((by rw [hg]; exact Nat.ne_of_gt (blk_lt (g := gb304) (o := .cells #[.int .i64 a1_0, .int .i64 a1_1] 35 (0, 0)) (bk BK304.out)) : gb306 ≠ gb304)); have n8_ := Aside0.mk ((by rw [hg]; exact Nat.ne_of_lt (blk_lt (g := gb305) (o := .cells #[.int .i64 a2_0, .int .i64 a2_1] 35 (0, 0)) (bk BK305.out)) : gb305 ≠ gb306)); have n9_ := Aside0.mk ((by rw [hg]; exact Nat.ne_of_gt (blk_lt (g := gb305) (o := .cells #[.int .i64 a2_0, .int .i64 a2_1] 35 (0, 0)) (bk BK305.out)) : gb306 ≠ gb305)); clear BK304; clear BK305; clear HB; have BK304 := n0_; have BK305 := n1_; have HB := n2_; have BK306 := n3_; have GW306 := n4_; have GE306 := n5_; have NB304_306 := n6_; have NB306_304 := n7_; have NB305_306 := n8_; have NB306_305 := n9_; clear n0_ n1_ n2_ n3_ n4_ n5_ n6_ n7_ n8_ n9_; clear hb hbox hg) | ((with_reducible refine gate_dst (N := 8) rfl ?_); refine box_event ?hg (N := 8) ?hd (cs := #[.int .i64 0, .int .i64 0]) (t := 35) ?hr ?_; (case hd => rfl); (case hg => rfl); (case hr => first | (go_simp; done) | (go_simp; rfl)); intro gb307 hg w172 hbox hb; have n0_ := Aside0.mk (blk_below (g := gb304) (o := .cells #[.int .i64 a1_0, .int .i64 a1_1] 35 (0, 0)) (bk BK304.out) hb); have n1_ := Aside0.mk (blk_below (g := gb305) (o := .cells #[.int .i64 a2_0, .int .i64 a2_1] 35 (0, 0)) (bk BK305.out) hb); have n2_ := Aside0.mk (blk_below (g := gb306) (o := .cells #[.int .i64 0, .int .i64 0] 35 (0, 0)) (bk BK306.out) hb); have n3_ := Aside0.mk (below_step (by repeat (first | (with_reducible first | exact HB.out | apply below_alloc | apply pw_below_drewN | apply below_drew1 | refine below_set ?_ GE304.out | refine below_set ?_ GE305.out | refine below_set ?_ GE306.out) | exact HB.out)) hb); have n4_ := Aside0.mk (hbox); have n5_ := Aside0.mk ((by rw [hg]; exact (below_size (by repeat (first | (with_reducible first | exact HB.out | apply below_alloc | apply pw_below_drewN | apply below_drew1 | refine below_set ?_ GE304.out | refine below_set ?_ GE305.out | refine below_set ?_ GE306.out) | exact HB.out))) : w.heap.size ≤ gb307)); have n6_ := Aside0.mk ((by rw [hg]; exact (below_size (by repeat (first | (with_reducible first | exact HB.out | apply below_alloc | apply pw_below_drewN | apply below_drew1 | refine below_set ?_ GE304.out | refine below_set ?_ GE305.out | refine below_set ?_ GE306.out) | exact HB.out))) : w.heap.size ≤ gb307)); have n7_ := Aside0.mk ((by rw [hg]; exact Nat.ne_of_lt (blk_lt (g := gb304) (o := .cells #[.int .i64 a1_0, .int .i64 a1_1] 35 (0, 0)) (bk BK304.out)) : gb304 ≠ gb307)); have n8_ := Aside0.mk ((by rw [hg]; exact Nat.ne_of_gt (blk_lt (g := gb304) (o := .cells #[.int .i64 a1_0, .int .i64 a1_1] 35 (0, 0)) (bk BK304.out)) : gb307 ≠ gb304)); have n9_ := Aside0.mk ((by rw [hg]; exact Nat.ne_of_lt (blk_lt (g := gb305) (o := .cells #[.int .i64 a2_0, .int .i64 a2_1] 35 (0, 0)) (bk BK305.out)) : gb305 ≠ gb307)); have n10_ := Aside0.mk ((by rw [hg]; exact Nat.ne_of_gt (blk_lt (g := gb305) (o := .cells #[.int .i64 a2_0, .int .i64 a2_1] 35 (0, 0)) (bk BK305.out)) : gb307 ≠ gb305)); have n11_ := Aside0.mk ((by rw [hg]; exact Nat.ne_of_lt (blk_lt (g := gb306) (o := .cells #[.int .i64 0, .int .i64 0] 35 (0, 0)) (bk BK306.out)) : gb306 ≠ gb307)); have n12_ := Aside0.mk ((by rw [hg]; exact Nat.ne_of_gt (blk_lt (g := gb306) (o := .cells #[.int .i64 0, .int .i64 0] 35 (0, 0)) (bk BK306.out)) : gb307 ≠ gb306)); clear BK304; clear BK305; clear BK306; clear HB; have BK304 := n0_; have BK305 := n1_; have BK306 := n2_; have HB := n3_; have BK307 := n4_; have GW307 := n5_; have GE307 := n6_; have NB304_307 := n7_; have NB307_304 := n8_; have NB305_307 := n9_; have NB307_305 := n10_; have NB306_307 := n11_; have NB307_306 := n12_; clear n0_ n1_ n2_ n3_ n4_ n5_ n6_ n7_ n8_ n9_ n10_ n11_ n12_; clear hb hbox hg; have hnb173 := NB307_304.out; have hnc173 := NB304_307.out; have hnb174 := NB307_305.out; have hnc174 := NB305_307.out; have hnb175 := NB307_306.out; have hnc175 := NB306_307.out; have hcz176_0 : w172.cell? ⟨gb307, 0, none⟩ = some (.int .i64 0) := (blk_cell BK307.out 0).trans rfl; have hcz176_1 : w172.cell? ⟨gb307, 1, none⟩ = some (.int .i64 0) := (blk_cell BK307.out 1).trans rfl; have hfz176_0 := blk_frozen BK307.out 0; have hfz176_1 := blk_frozen BK307.out 1) | ((with_reducible refine gate_callee (f := 56) rfl ?_); refine goesL_ (some 21) rfl rfl Try.func56 (by kernel_rfl) rfl #[.int .i64 a0, .int .i64 9] rfl (by (try simp only [List.map_toArray, List.map_cons, List.map_nil]); first | done | rfl) ?_; (with_reducible refine (fr7_OpErr.calls a0 9 t308 _ A4.out).mono ?_); rintro e w' ⟨rfl, ⟨nd, rfl⟩⟩; refine ⟨_, rfl, ?_⟩; have hnb177 := NB304_305.out; have hnc177 := NB305_304.out; have hnb178 := NB304_306.out; have hnc178 := NB306_304.out; have hcz179_0 : w172.cell? ⟨gb304, 0, none⟩ = some (.int .i64 a1_0) := (blk_cell BK304.out 0).trans rfl; have hcz179_1 : w172.cell? ⟨gb304, 1, none⟩ = some (.int .i64 a1_1) := (blk_cell BK304.out 1).trans rfl; have hfz179_0 := blk_frozen BK304.out 0; have hfz179_1 := blk_frozen BK304.out 1) | ((with_reducible refine gate_callee (f := 64) rfl ?_); refine goesL_ (some 27) rfl rfl Try.func64 (by kernel_rfl) rfl #[.agg #[.int .i64 a1_0, .int .i64 a1_1]] rfl (by (try simp only [List.map_toArray, List.map_cons, List.map_nil]); first | done | rfl) ?_; (with_reducible refine (fr7_rangeErr.calls k a1_0 a1_1 t309 _ A6.out).mono ?_); rintro e w180 ⟨rfl, hb⟩; refine ⟨_, rfl, ?_⟩; have n0_ := Aside0.mk (blk_below (g := gb304) (o := .cells #[.int .i64 a1_0, .int .i64 a1_1] 35 (0, 0)) (by refine bk (blk_far ?_ NB304_307.out _); refine bk (blk_far ?_ NB304_307.out _); exact bk BK304.out) hb); have n1_ := Aside0.mk (blk_below (g := gb305) (o := .cells #[.int .i64 a2_0, .int .i64 a2_1] 35 (0, 0)) (by refine bk (blk_far ?_ NB305_307.out _); refine bk (blk_far ?_ NB305_307.out _); exact bk BK305.out) hb); have n2_ := Aside0.mk (blk_below (g := gb306) (o := .cells #[.int .i64 0, .int .i64 0] 35 (0, 0)) (by refine bk (blk_far ?_ NB306_307.out _); refine bk (blk_far ?_ NB306_307.out _); exact bk BK306.out) hb); have n3_ := Aside0.mk (blk_below (g := gb307) (o := .cells #[.int .i64 0, .int .i64 0] 35 (0, 0)) (by refine bk (blk_put (cs := #[.int .i64 0, .int .i64 0]) ?_ 1 _ rfl); refine bk (blk_put (cs := #[.int .i64 0, .int .i64 0]) ?_ 0 _ rfl); exact bk BK307.out) hb); have n4_ := Aside0.mk (below_step (by repeat (first | (with_reducible first | exact HB.out | apply below_alloc | apply pw_below_drewN | apply below_drew1 | refine below_set ?_ GE304.out | refine below_set ?_ GE305.out | refine below_set ?_ GE306.out | refine below_set ?_ GE307.out) | exact HB.out)) hb); clear BK304; clear BK305; clear BK306; clear BK307; clear HB; have BK304 := n0_; have BK305 := n1_; have BK306 := n2_; have BK307 := n3_; have HB := n4_; clear n0_ n1_ n2_ n3_ n4_; (try clear hb); (try clear hb2); (try clear hk); (try clear hi); have hnb181 := NB305_306.out; have hnc181 := NB306_305.out; have hcz182_0 : w180.cell? ⟨gb305, 0, none⟩ = some (.int .i64 a2_0) := (blk_cell BK305.out 0).trans rfl; have hcz182_1 : w180.cell? ⟨gb305, 1, none⟩ = some (.int .i64 a2_1) := (blk_cell BK305.out 1).trans rfl; have hfz182_0 := blk_frozen BK305.out 0; have hfz182_1 := blk_frozen BK305.out 1) | ((with_reducible refine gate_callee (f := 64) rfl ?_); refine goesL_ (some 33) rfl rfl Try.func64 (by kernel_rfl) rfl #[.agg #[.int .i64 a2_0, .int .i64 a2_1]] rfl (by (try simp only [List.map_toArray, List.map_cons, List.map_nil]); first | done | rfl) ?_; (with_reducible refine (fr7_rangeErr.calls k a2_0 a2_1 t310 _ A8.out).mono ?_); rintro e w183 ⟨rfl, hb⟩; refine ⟨_, rfl, ?_⟩; have n0_ := Aside0.mk (blk_below (g := gb304) (o := .cells #[.int .i64 a1_0, .int .i64 a1_1] 35 (0, 0)) (bk BK304.out) hb); have n1_ := Aside0.mk (blk_below (g := gb305) (o := .cells #[.int .i64 a2_0, .int .i64 a2_1] 35 (0, 0)) (bk BK305.out) hb); have n2_ := Aside0.mk (blk_below (g := gb306) (o := .cells #[.int .i64 0, .int .i64 0] 35 (0, 0)) (bk BK306.out) hb); have n3_ := Aside0.mk (blk_below (g := gb307) (o := .cells #[.int .i64 0, .int .i64 0] 35 (0, 0)) (bk BK307.out) hb); have n4_ := Aside0.mk (below_step (by repeat (first | (with_reducible first | exact HB.out | apply below_alloc | apply pw_below_drewN | apply below_drew1 | refine below_set ?_ GE304.out | refine below_set ?_ GE305.out | refine below_set ?_ GE306.out | refine below_set ?_ GE307.out) | exact HB.out)) hb); clear BK304; clear BK305; clear BK306; clear BK307; clear HB; have BK304 := n0_; have BK305 := n1_; have BK306 := n2_; have BK307 := n3_; have HB := n4_; clear n0_ n1_ n2_ n3_ n4_; (try clear hb); (try clear hb2); (try clear hk); (try clear hi); have hcz184_0 : w183.cell? ⟨gb307, 0, none⟩ = some (.int .i64 0) := (blk_cell BK307.out 0).trans rfl; have hcz184_1 : w183.cell? ⟨gb307, 1, none⟩ = some (.int .i64 0) := (blk_cell BK307.out 1).trans rfl; have hfz184_0 := blk_frozen BK307.out 0; have hfz184_1 := blk_frozen BK307.out 1; have hcz185_0 : w183.cell? ⟨gb306, 0, none⟩ = some (.int .i64 0) := (blk_cell BK306.out 0).trans rfl; have hcz185_1 : w183.cell? ⟨gb306, 1, none⟩ = some (.int .i64 0) := (blk_cell BK306.out 1).trans rfl; have hfz185_0 := blk_frozen BK306.out 0; have hfz185_1 := blk_frozen BK306.out 1))
     refine bodyPost_ret (results_ct rfl _ _ gb306 35 #[.int .i64 0, .int .i64 0] (0, 0) _ rfl (by refine bk (blk_put (cs := #[.int .i64 0, .int .i64 0]) ?_ 1 _ rfl); refine bk (blk_put (cs := #[.int .i64 0, .int .i64 0]) ?_ 0 _ rfl); exact bk BK306.out) Try.underlying35 rfl (by kernel_rfl)) rfl ?_
     exact ⟨by first | rfl | (simp [*] <;> rfl), by repeat (first | (with_reducible first | exact HB.out | apply below_alloc | apply pw_below_drewN | apply below_drew1 | refine below_set ?_ GE304.out | refine below_set ?_ GE305.out | refine below_set ?_ GE306.out | refine below_set ?_ GE307.out) | exact HB.out)⟩
  ·rw [if_neg c7] at H
   have c7b0 : (t309 == 0) = false := beq_eq_false_iff_ne.mpr c7
   have c7b1 : (t309 != 0) = true := bne_iff_ne.mpr c7
   as_aux_lemma =>
    simp only [Option.some.injEq, Prod.mk.injEq] at H;obtain ⟨rfl, rfl, rfl⟩ := H
    go_enter Try.func23, Try.ntmps23
    go_wp2_with (first | ((with_reducible refine gate_dst (N := 4) rfl ?_); refine box_event ?hg (N := 4) ?hd (cs := #[.int .i64 a1_0, .int .i64 a1_1]) (t := 35) ?hr ?_; (case hd => rfl); (case hg => rfl); (case hr => first | (go_simp; done) | (go_simp; rfl)); intro gb304 hg w186 hbox hb; have n0_ := Aside0.mk (below_step (bw HB.out) hb); have n1_ := Aside0.mk (hbox); have n2_ := Aside0.mk ((by rw [hg]; exact (below_size (bw HB.out)) : w.heap.size ≤ gb304)); have n3_ := Aside0.mk ((by rw [hg]; exact (below_size (bw HB.out)) : w.heap.size ≤ gb304)); clear HB; have HB := n0_; have BK304 := n1_; have GW304 := n2_; have GE304 := n3_; clear n0_ n1_ n2_ n3_; clear hb hbox hg) | ((with_reducible refine gate_dst (N := 5) rfl ?_); refine box_event ?hg (N := 5) ?hd (cs := #[.int .i64 a2_0, .int .i64 a2_1]) (t := 35) ?hr ?_; (case hd => rfl); (case hg => rfl); (case hr => first | (go_simp; done) | (go_simp; rfl)); intro gb305 hg w187 hbox hb; have n0_ := Aside0.mk (blk_below (g := gb304) (o := .cells #[.int .i64 a1_0, .int .i64 a1_1] 35 (0, 0)) (bk BK304.out) hb); have n1_ := Aside0.mk (below_step (by repeat (first | (with_reducible first | exact HB.out | apply below_alloc | apply pw_below_drewN | apply below_drew1 | refine below_set ?_ GE304.out) | exact HB.out)) hb); have n2_ := Aside0.mk (hbox); have n3_ := Aside0.mk ((by rw [hg]; exact (below_size (by repeat (first | (with_reducible first | exact HB.out | apply below_alloc | apply pw_below_drewN | apply below_drew1 | refine below_set ?_ GE304.out) | exact HB.out))) : w.heap.size ≤ gb305)); have n4_ := Aside0.mk ((by rw [hg]; exact (below_size (by repeat (first | (with_reducible first | exact HB.out | apply below_alloc | apply pw_below_drewN | apply below_drew1 | refine below_set ?_ GE304.out) | exact HB.out))) : w.heap.size ≤ gb305)); have n5_ := Aside0.mk ((by rw [hg]; exact Nat.ne_of_lt (blk_lt (g := gb304) (o := .cells #[.int .i64 a1_0, .int .i64 a1_1] 35 (0, 0)) (bk BK304.out)) : gb304 ≠ gb305)); have n6_ := Aside0.mk ((by rw [hg]; exact Nat.ne_of_gt (blk_lt (g := gb304) (o := .cells #[.int .i64 a1_0, .int .i64 a1_1] 35 (0, 0)) (bk BK304.out)) : gb305 ≠ gb304)); clear BK304; clear HB; have BK304 := n0_; have HB := n1_; have BK305 := n2_; have GW305 := n3_; have GE305 := n4_; have NB304_305 := n5_; have NB305_304 := n6_; clear n0_ n1_ n2_ n3_ n4_ n5_ n6_; clear hb hbox hg) | ((with_reducible refine gate_dst (N := 6) rfl ?_); refine box_event ?hg (N := 6) ?hd (cs := #[.int .i64 0, .int .i64 0]) (t := 35) ?hr ?_; (case hd => rfl); (case hg => rfl); (case hr => first | (go_simp; done) | (go_simp; rfl)); intro gb306 hg w188 hbox hb; have n0_ := Aside0.mk (blk_below (g := gb304) (o := .cells #[.int .i64 a1_0, .int .i64 a1_1] 35 (0, 0)) (bk BK304.out) hb); have n1_ := Aside0.mk (blk_below (g := gb305) (o := .cells #[.int .i64 a2_0, .int .i64 a2_1] 35 (0, 0)) (bk BK305.out) hb); have n2_ := Aside0.mk (below_step (by repeat (first | (with_reducible first | exact HB.out | apply below_alloc | apply pw_below_drewN | apply below_drew1 | refine below_set ?_ GE304.out | refine below_set ?_ GE305.out) | exact HB.out)) hb); have n3_ := Aside0.mk (hbox); have n4_ := Aside0.mk ((by rw [hg]; exact (below_size (by repeat (first | (with_reducible first | exact HB.out | apply below_alloc | apply pw_below_drewN | apply below_drew1 | refine below_set ?_ GE304.out | refine below_set ?_ GE305.out) | exact HB.out))) : w.heap.size ≤ gb306)); have n5_ := Aside0.mk ((by rw [hg]; exact (below_size (by repeat (first | (with_reducible first | exact HB.out | apply below_alloc | apply pw_below_drewN | apply below_drew1 | refine below_set ?_ GE304.out | refine below_set ?_ GE305.out) | exact HB.out))) : w.heap.size ≤ gb306)); have n6_ := Aside0.mk ((by rw [hg]; exact Nat.ne_of_lt (blk_lt (g := gb304) (o := .cells #[.int .i64 a1_0, .int .i64 a1_1] 35 (0, 0)) (bk BK304.out)) : gb304 ≠ gb306)); have n7_ := Aside0.mk ((by rw [hg]; exact Nat.ne_of_gt (blk_lt (g := gb304) (o := .cells #[.int .i64 a1_0, .int .i64 a1_1] 35 (0, 0)) (bk BK304.out)) : gb306 ≠ gb304)); have n8_ := Aside0.mk ((by rw [hg]; exact Nat.ne_of_lt (blk_lt (g := gb305) (o := .cells #[.int .i64 a2_0, .int .i64 a2_1] 35 (0, 0)) (bk BK305.out)) : gb305 ≠ gb306)); have n9_ := Aside0.mk ((by rw [hg]; exact Nat.ne_of_gt (blk_lt (g := gb305) (o := .cells #[.int .i64 a2_0, .int .i64 a2_1] 35 (0, 0)) (bk BK305.out)) : gb306 ≠ gb305)); clear BK304; clear BK305; clear HB; have BK304 := n0_; have BK305 := n1_; have HB := n2_; have BK306 := n3_; have GW306 := n4_; have GE306 := n5_; have NB304_306 := n6_; have NB306_304 := n7_; have NB305_306 := n8_; have NB306_305 := n9_; clear n0_ n1_ n2_ n3_ n4_ n5_ n6_ n7_ n8_ n9_; clear hb hbox hg) | ((with_reducible refine gate_dst (N := 8) rfl ?_); refine box_event ?hg (N := 8) ?hd (cs := #[.int .i64 0, .int .i64 0]) (t := 35) ?hr ?_; (case hd => rfl); (case hg => rfl); (case hr => first | (go_simp; done) | (go_simp; rfl)); intro gb307 hg w189 hbox hb; have n0_ := Aside0.mk (blk_below (g := gb304) (o := .cells #[.int .i64 a1_0, .int .i64 a1_1] 35 (0, 0)) (bk BK304.out) hb); have n1_ := Aside0.mk (blk_below (g := gb305) (o := .cells #[.int .i64 a2_0, .int .i64 a2_1] 35 (0, 0)) (bk BK305.out) hb); have n2_ := Aside0.mk (blk_below (g := gb306) (o := .cells #[.int .i64 0, .int .i64 0] 35 (0, 0)) (bk BK306.out) hb); have n3_ := Aside0.mk (below_step (by repeat (first | (with_reducible first | exact HB.out | apply below_alloc | apply pw_below_drewN | apply below_drew1 | refine below_set ?_ GE304.out | refine below_set ?_ GE305.out | refine below_set ?_ GE306.out) | exact HB.out)) hb); have n4_ := Aside0.mk (hbox); have n5_ := Aside0.mk ((by rw [hg]; exact (below_size (by repeat (first | (with_reducible first | exact HB.out | apply below_alloc | apply pw_below_drewN | apply below_drew1 | refine below_set ?_ GE304.out | refine below_set ?_ GE305.out | refine below_set ?_ GE306.out) | exact HB.out))) : w.heap.size ≤ gb307)); have n6_ := Aside0.mk ((by rw [hg]; exact (below_size (by repeat (first | (with_reducible first | exact HB.out | apply below_alloc | apply pw_below_drewN | apply below_drew1 | refine below_set ?_ GE304.out | refine below_set ?_ GE305.out | refine below_set ?_ GE306.out) | exact HB.out))) : w.heap.size ≤ gb307)); have n7_ := Aside0.mk ((by rw [hg]; exact Nat.ne_of_lt (blk_lt (g := gb304) (o := .cells #[.int .i64 a1_0, .int .i64 a1_1] 35 (0, 0)) (bk BK304.out)) : gb304 ≠ gb307)); have n8_ := Aside0.mk ((by rw [hg]; exact Nat.ne_of_gt (blk_lt (g := gb304) (o := .cells #[.int .i64 a1_0, .int .i64 a1_1] 35 (0, 0)) (bk BK304.out)) : gb307 ≠ gb304)); have n9_ := Aside0.mk ((by rw [hg]; exact Nat.ne_of_lt (blk_lt (g := gb305) (o := .cells #[.int .i64 a2_0, .int .i64 a2_1] 35 (0, 0)) (bk BK305.out)) : gb305 ≠ gb307)); have n10_ := Aside0.mk ((by rw [hg]; exact Nat.ne_of_gt (blk_lt (g := gb305) (o := .cells #[.int .i64 a2_0, .int .i64 a2_1] 35 (0, 0)) (bk BK305.out)) : gb307 ≠ gb305)); have n11_ := Aside0.mk ((by rw [hg]; exact Nat.ne_of_lt (blk_lt (g := gb306) (o := .cells #[.int .i64 0, .int .i64 0] 35 (0, 0)) (bk BK306.out)) : gb306 ≠ gb307)); have n12_ := Aside0.mk ((by rw [hg]; exact Nat.ne_of_gt (blk_lt (g := gb306) (o := .cells #[.int .i64 0, .int .i64 0] 35 (0, 0)) (bk BK306.out)) : gb307 ≠ gb306)); clear BK304; clear BK305; clear BK306; clear HB; have BK304 := n0_; have BK305 := n1_; have BK306 := n2_; have HB := n3_; have BK307 := n4_; have GW307 := n5_; have GE307 := n6_; have NB304_307 := n7_; have NB307_304 := n8_; have NB305_307 := n9_; have NB307_305 := n10_; have NB306_307 := n11_; have NB307_306 := n12_; clear n0_ n1_ n2_ n3_ n4_ n5_ n6_ n7_ n8_ n9_ n10_ n11_ n12_; clear hb hbox hg; have hnb190 := NB307_304.out; have hnc190 := NB304_307.out; have hnb191 := NB307_305.out; have hnc191 := NB305_307.out; have hnb192 := NB307_306.out; have hnc192 := NB306_307.out; have hcz193_0 : w189.cell? ⟨gb307, 0, none⟩ = some (.int .i64 0) := (blk_cell BK307.out 0).trans rfl; have hcz193_1 : w189.cell? ⟨gb307, 1, none⟩ = some (.int .i64 0) := (blk_cell BK307.out 1).trans rfl; have hfz193_0 := blk_frozen BK307.out 0; have hfz193_1 := blk_frozen BK307.out 1) | ((with_reducible refine gate_callee (f := 56) rfl ?_); refine goesL_ (some 21) rfl rfl Try.func56 (by kernel_rfl) rfl #[.int .i64 a0, .int .i64 9] rfl (by (try simp only [List.map_toArray, List.map_cons, List.map_nil]); first | done | rfl) ?_; (with_reducible refine (fr7_OpErr.calls a0 9 t308 _ A4.out).mono ?_); rintro e w' ⟨rfl, ⟨nd, rfl⟩⟩; refine ⟨_, rfl, ?_⟩; have hnb194 := NB304_305.out; have hnc194 := NB305_304.out; have hnb195 := NB304_306.out; have hnc195 := NB306_304.out; have hcz196_0 : w189.cell? ⟨gb304, 0, none⟩ = some (.int .i64 a1_0) := (blk_cell BK304.out 0).trans rfl; have hcz196_1 : w189.cell? ⟨gb304, 1, none⟩ = some (.int .i64 a1_1) := (blk_cell BK304.out 1).trans rfl; have hfz196_0 := blk_frozen BK304.out 0; have hfz196_1 := blk_frozen BK304.out 1) | ((with_reducible refine gate_callee (f := 64) rfl ?_); refine goesL_ (some 27) rfl rfl Try.func64 (by kernel_rfl) rfl #[.agg #[.int .i64 a1_0, .int .i64 a1_1]] rfl (by (try simp only [List.map_toArray, List.map_cons, List.map_nil]); first | done | rfl) ?_; (with_reducible refine (fr7_rangeErr.calls k a1_0 a1_1 t309 _ A6.out).mono ?_); rintro e w197 ⟨rfl, hb⟩; refine ⟨_, rfl, ?_⟩; have n0_ := Aside0.mk (blk_below (g := gb304) (o := .cells #[.int .i64 a1_0, .int .i64 a1_1] 35 (0, 0)) (by refine bk (blk_far ?_ NB304_307.out _); refine bk (blk_far ?_ NB304_307.out _); exact bk BK304.out) hb); have n1_ := Aside0.mk (blk_below (g := gb305) (o := .cells #[.int .i64 a2_0, .int .i64 a2_1] 35 (0, 0)) (by refine bk (blk_far ?_ NB305_307.out _); refine bk (blk_far ?_ NB305_307.out _); exact bk BK305.out) hb); have n2_ := Aside0.mk (blk_below (g := gb306) (o := .cells #[.int .i64 0, .int .i64 0] 35 (0, 0)) (by refine bk (blk_far ?_ NB306_307.out _); refine bk (blk_far ?_ NB306_307.out _); exact bk BK306.out) hb); have n3_ := Aside0.mk (blk_below (g := gb307) (o := .cells #[.int .i64 0, .int .i64 0] 35 (0, 0)) (by refine bk (blk_put (cs := #[.int .i64 0, .int .i64 0]) ?_ 1 _ rfl); refine bk (blk_put (cs := #[.int .i64 0, .int .i64 0]) ?_ 0 _ rfl); exact bk BK307.out) hb); have n4_ := Aside0.mk (below_step (by repeat (first | (with_reducible first | exact HB.out | apply below_alloc | apply pw_below_drewN | apply below_drew1 | refine below_set ?_ GE304.out | refine below_set ?_ GE305.out | refine below_set ?_ GE306.out | refine below_set ?_ GE307.out) | exact HB.out)) hb); clear BK304; clear BK305; clear BK306; clear BK307; clear HB; have BK304 := n0_; have BK305 := n1_; have BK306 := n2_; have BK307 := n3_; have HB := n4_; clear n0_ n1_ n2_ n3_ n4_; (try clear hb); (try clear hb2); (try clear hk); (try clear hi); have hcz198_0 : w197.cell? ⟨gb307, 0, none⟩ = some (.int .i64 0) := (blk_cell BK307.out 0).trans rfl; have hcz198_1 : w197.cell? ⟨gb307, 1, none⟩ = some (.int .i64 0) := (blk_cell BK307.out 1).trans rfl; have hfz198_0 := blk_frozen BK307.out 0; have hfz198_1 := blk_frozen BK307.out 1; have hnb199 := NB306_305.out; have hnc199 := NB305_306.out; have hcz200_0 : w197.cell? ⟨gb306, 0, none⟩ = some (.int .i64 0) := (blk_cell BK306.out 0).trans rfl; have hcz200_1 : w197.cell? ⟨gb306, 1, none⟩ = some (.int .i64 0) := (blk_cell BK306.out 1).trans rfl; have hfz200_0 := blk_frozen BK306.out 0; have hfz200_1 := blk_frozen BK306.out 1))
    refine bodyPost_ret (results_ct rfl _ _ gb306 35 #[.int .i64 0, .int .i64 0] (0, 0) _ rfl (by refine bk (blk_put (cs := #[.int .i64 0, .int .i64 0]) ?_ 1 _ rfl); refine bk (blk_put (cs := #[.int .i64 0, .int .i64 0]) ?_ 0 _ rfl); exact bk BK306.out) Try.underlying35 rfl (by kernel_rfl)) rfl ?_
    exact ⟨by first | rfl | (simp [*] <;> rfl), by repeat (first | (with_reducible first | exact HB.out | apply below_alloc | apply pw_below_drewN | apply below_drew1 | refine below_set ?_ GE304.out | refine below_set ?_ GE305.out | refine below_set ?_ GE306.out | refine below_set ?_ GE307.out) | exact HB.out)⟩
 ·rw [if_neg c5] at H
  have c5b0 : (t308 == 0) = false := beq_eq_false_iff_ne.mpr c5
  have c5b1 : (t308 != 0) = true := bne_iff_ne.mpr c5
  as_aux_lemma =>
   simp only [Option.some.injEq, Prod.mk.injEq] at H;obtain ⟨rfl, rfl, rfl⟩ := H
   go_enter Try.func23, Try.ntmps23
   go_wp2_with (first | ((with_reducible refine gate_dst (N := 4) rfl ?_); refine box_event ?hg (N := 4) ?hd (cs := #[.int .i64 a1_0, .int .i64 a1_1]) (t := 35) ?hr ?_; (case hd => rfl); (case hg => rfl); (case hr => first | (go_simp; done) | (go_simp; rfl)); intro gb304 hg w201 hbox hb; have n0_ := Aside0.mk (below_step (bw HB.out) hb); have n1_ := Aside0.mk (hbox); have n2_ := Aside0.mk ((by rw [hg]; exact (below_size (bw HB.out)) : w.heap.size ≤ gb304)); have n3_ := Aside0.mk ((by rw [hg]; exact (below_size (bw HB.out)) : w.heap.size ≤ gb304)); clear HB; have HB := n0_; have BK304 := n1_; have GW304 := n2_; have GE304 := n3_; clear n0_ n1_ n2_ n3_; clear hb hbox hg) | ((with_reducible refine gate_dst (N := 5) rfl ?_); refine box_event ?hg (N := 5) ?hd (cs := #[.int .i64 a2_0, .int .i64 a2_1]) (t := 35) ?hr ?_; (case hd => rfl); (case hg => rfl); (case hr => first | (go_simp; done) | (go_simp; rfl)); intro gb305 hg w202 hbox hb; have n0_ := Aside0.mk (blk_below (g := gb304) (o := .cells #[.int .i64 a1_0, .int .i64 a1_1] 35 (0, 0)) (bk BK304.out) hb); have n1_ := Aside0.mk (below_step (by repeat (first | (with_reducible first | exact HB.out | apply below_alloc | apply pw_below_drewN | apply below_drew1 | refine below_set ?_ GE304.out) | exact HB.out)) hb); have n2_ := Aside0.mk (hbox); have n3_ := Aside0.mk ((by rw [hg]; exact (below_size (by repeat (first | (with_reducible first | exact HB.out | apply below_alloc | apply pw_below_drewN | apply below_drew1 | refine below_set ?_ GE304.out) | exact HB.out))) : w.heap.size ≤ gb305)); have n4_ := Aside0.mk ((by rw [hg]; exact (below_size (by repeat (first | (with_reducible first | exact HB.out | apply below_alloc | apply pw_below_drewN | apply below_drew1 | refine below_set ?_ GE304.out) | exact HB.out))) : w.heap.size ≤ gb305)); have n5_ := Aside0.mk ((by rw [hg]; exact Nat.ne_of_lt (blk_lt (g := gb304) (o := .cells #[.int .i64 a1_0, .int .i64 a1_1] 35 (0, 0)) (bk BK304.out)) : gb304 ≠ gb305)); have n6_ := Aside0.mk ((by rw [hg]; exact Nat.ne_of_gt (blk_lt (g := gb304) (o := .cells #[.int .i64 a1_0, .int .i64 a1_1] 35 (0, 0)) (bk BK304.out)) : gb305 ≠ gb304)); clear BK304; clear HB; have BK304 := n0_; have HB := n1_; have BK305 := n2_; have GW305 := n3_; have GE305 := n4_; have NB304_305 := n5_; have NB305_304 := n6_; clear n0_ n1_ n2_ n3_ n4_ n5_ n6_; clear hb hbox hg) | ((with_reducible refine gate_dst (N := 6) rfl ?_); refine box_event ?hg (N := 6) ?hd (cs := #[.int .i64 0, .int .i64 0]) (t := 35) ?hr ?_; (case hd => rfl); (case hg => rfl); (case hr => first | (go_simp; done) | (go_simp; rfl)); intro gb306 hg w203 hbox hb; have n0_ := Aside0.mk (blk_below (g := gb304) (o := .cells #[.int .i64 a1_0, .int .i64 a1_1] 35 (0, 0)) (bk BK304.out) hb); have n1_ := Aside0.mk (blk_below (g := gb305) (o := .cells #[.int .i64 a2_0, .int .i64 a2_1] 35 (0, 0)) (bk BK305.out) hb); have n2_ := Aside0.mk (below_step (by repeat (first | (with_reducible first | exact HB.out | apply below_alloc | apply pw_below_drewN | apply below_drew1 | refine below_set ?_ GE304.out | refine below_set ?_ GE305.out) | exact HB.out)) hb); have n3_ := Aside0.mk (hbox); have n4_ := Aside0.mk ((by rw [hg]; exact (below_size (by repeat (first | (with_reducible first | exact HB.out | apply below_alloc | apply pw_below_drewN | apply below_drew1 | refine below_set ?_ GE304.out | refine below_set ?_ GE305.out) | exact HB.out))) : w.heap.size ≤ gb306)); have n5_ := Aside0.mk ((by rw [hg]; exact (below_size (by repeat (first | (with_reducible first | exact HB.out | apply below_alloc | apply pw_below_drewN | apply below_drew1 | refine below_set ?_ GE304.out | refine below_set ?_ GE305.out) | exact HB.out))) : w.heap.size ≤ gb306)); have n6_ := Aside0.mk ((by rw [hg]; exact Nat.ne_of_lt (blk_lt (g := gb304) (o := .cells #[.int .i64 a1_0, .int .i64 a1_1] 35 (0, 0)) (bk BK304.out)) : gb304 ≠ gb306)); have n7_ := Aside0.mk ((by rw [hg]; exact Nat.ne_of_gt (blk_lt (g := gb304) (o := .cells #[.int .i64 a1_0, .int .i64 a1_1] 35 (0, 0)) (bk BK304.out)) : gb306 ≠ gb304)); have n8_ := Aside0.mk ((by rw [hg]; exact Nat.ne_of_lt (blk_lt (g := gb305) (o := .cells #[.int .i64 a2_0, .int .i64 a2_1] 35 (0, 0)) (bk BK305.out)) : gb305 ≠ gb306)); have n9_ := Aside0.mk ((by rw [hg]; exact Nat.ne_of_gt (blk_lt (g := gb305) (o := .cells #[.int .i64 a2_0, .int .i64 a2_1] 35 (0, 0)) (bk BK305.out)) : gb306 ≠ gb305)); clear BK304; clear BK305; clear HB; have BK304 := n0_; have BK305 := n1_; have HB := n2_; have BK306 := n3_; have GW306 := n4_; have GE306 := n5_; have NB304_306 := n6_; have NB306_304 := n7_; have NB305_306 := n8_; have NB306_305 := n9_; clear n0_ n1_ n2_ n3_ n4_ n5_ n6_ n7_ n8_ n9_; clear hb hbox hg) | ((with_reducible refine gate_dst (N := 8) rfl ?_); refine box_event ?hg (N := 8) ?hd (cs := #[.int .i64 0, .int .i64 0]) (t := 35) ?hr ?_; (case hd => rfl); (case hg => rfl); (case hr => first | (go_simp; done) | (go_simp; rfl)); intro gb307 hg w204 hbox hb; have n0_ := Aside0.mk (blk_below (g := gb304) (o := .cells #[.int .i64 a1_0, .int .i64 a1_1] 35 (0, 0)) (bk BK304.out) hb); have n1_ := Aside0.mk (blk_below (g := gb305) (o := .cells #[.int .i64 a2_0, .int .i64 a2_1] 35 (0, 0)) (bk BK305.out) hb); have n2_ := Aside0.mk (blk_below (g := gb306) (o := .cells #[.int .i64 0, .int .i64 0] 35 (0, 0)) (bk BK306.out) hb); have n3_ := Aside0.mk (below_step (by repeat (first | (with_reducible first | exact HB.out | apply below_alloc | apply pw_below_drewN | apply below_drew1 | refine below_set ?_ GE304.out | refine below_set ?_ GE305.out | refine below_set ?_ GE306.out) | exact HB.out)) hb); have n4_ := Aside0.mk (hbox); have n5_ := Aside0.mk ((by rw [hg]; exact (below_size (by repeat (first | (with_reducible first | exact HB.out | apply below_alloc | apply pw_below_drewN | apply below_drew1 | refine below_set ?_ GE304.out | refine below_set ?_ GE305.out | refine below_set ?_ GE306.out) | exact HB.out))) : w.heap.size ≤ gb307)); have n6_ := Aside0.mk ((by rw [hg]; exact (below_size (by repeat (first | (with_reducible first | exact HB.out | apply below_alloc | apply pw_below_drewN | apply below_drew1 | refine below_set ?_ GE304.out | refine below_set ?_ GE305.out | refine below_set ?_ GE306.out) | exact HB.out))) : w.heap.size ≤ gb307)); have n7_ := Aside0.mk ((by rw [hg]; exact Nat.ne_of_lt (blk_lt (g := gb304) (o := .cells #[.int .i64 a1_0, .int .i64 a1_1] 35 (0, 0)) (bk BK304.out)) : gb304 ≠ gb307)); have n8_ := Aside0.mk ((by rw [hg]; exact Nat.ne_of_gt (blk_lt (g := gb304) (o := .cells #[.int .i64 a1_0, .int .i64 a1_1] 35 (0, 0)) (bk BK304.out)) : gb307 ≠ gb304)); have n9_ := Aside0.mk ((by rw [hg]; exact Nat.ne_of_lt (blk_lt (g := gb305) (o := .cells #[.int .i64 a2_0, .int .i64 a2_1] 35 (0, 0)) (bk BK305.out)) : gb305 ≠ gb307)); have n10_ := Aside0.mk ((by rw [hg]; exact Nat.ne_of_gt (blk_lt (g := gb305) (o := .cells #[.int .i64 a2_0, .int .i64 a2_1] 35 (0, 0)) (bk BK305.out)) : gb307 ≠ gb305)); have n11_ := Aside0.mk ((by rw [hg]; exact Nat.ne_of_lt (blk_lt (g := gb306) (o := .cells #[.int .i64 0, .int .i64 0] 35 (0, 0)) (bk BK306.out)) : gb306 ≠ gb307)); have n12_ := Aside0.mk ((by rw [hg]; exact Nat.ne_of_gt (blk_lt (g := gb306) (o := .cells #[.int .i64 0, .int .i64 0] 35 (0, 0)) (bk BK306.out)) : gb307 ≠ gb306)); clear BK304; clear BK305; clear BK306; clear HB; have BK304 := n0_; have BK305 := n1_; have BK306 := n2_; have HB := n3_; have BK307 := n4_; have GW307 := n5_; have GE307 := n6_; have NB304_307 := n7_; have NB307_304 := n8_; have NB305_307 := n9_; have NB307_305 := n10_; have NB306_307 := n11_; have NB307_306 := n12_; clear n0_ n1_ n2_ n3_ n4_ n5_ n6_ n7_ n8_ n9_ n10_ n11_ n12_; clear hb hbox hg; have hnb205 := NB307_304.out; have hnc205 := NB304_307.out; have hnb206 := NB307_305.out; have hnc206 := NB305_307.out; have hnb207 := NB307_306.out; have hnc207 := NB306_307.out; have hcz208_0 : w204.cell? ⟨gb307, 0, none⟩ = some (.int .i64 0) := (blk_cell BK307.out 0).trans rfl; have hcz208_1 : w204.cell? ⟨gb307, 1, none⟩ = some (.int .i64 0) := (blk_cell BK307.out 1).trans rfl; have hfz208_0 := blk_frozen BK307.out 0; have hfz208_1 := blk_frozen BK307.out 1) | ((with_reducible refine gate_callee (f := 56) rfl ?_); refine goesL_ (some 21) rfl rfl Try.func56 (by kernel_rfl) rfl #[.int .i64 a0, .int .i64 9] rfl (by (try simp only [List.map_toArray, List.map_cons, List.map_nil]); first | done | rfl) ?_; (with_reducible refine (fr7_OpErr.calls a0 9 t308 _ A4.out).mono ?_); rintro e w' ⟨rfl, ⟨nd, rfl⟩⟩; refine ⟨_, rfl, ?_⟩; have hnb209 := NB306_304.out; have hnc209 := NB304_306.out; have hnb210 := NB306_305.out; have hnc210 := NB305_306.out; have hcz211_0 : w204.cell? ⟨gb306, 0, none⟩ = some (.int .i64 0) := (blk_cell BK306.out 0).trans rfl; have hcz211_1 : w204.cell? ⟨gb306, 1, none⟩ = some (.int .i64 0) := (blk_cell BK306.out 1).trans rfl; have hfz211_0 := blk_frozen BK306.out 0; have hfz211_1 := blk_frozen BK306.out 1))
   refine bodyPost_ret (results_ct rfl _ _ gb306 35 #[.int .i64 0, .int .i64 0] (0, 0) _ rfl (by refine bk (blk_put (cs := #[.int .i64 0, .int .i64 0]) ?_ 1 _ rfl); refine bk (blk_put (cs := #[.int .i64 0, .int .i64 0]) ?_ 0 _ rfl); refine bk (blk_far ?_ NB306_307.out _); refine bk (blk_far ?_ NB306_307.out _); exact bk BK306.out) Try.underlying35 rfl (by kernel_rfl)) rfl ?_
   exact ⟨by first | rfl | (simp [*] <;> rfl), by repeat (first | (with_reducible first | exact HB.out | apply below_alloc | apply pw_below_drewN | apply below_drew1 | refine below_set ?_ GE304.out | refine below_set ?_ GE305.out | refine below_set ?_ GE306.out | refine below_set ?_ GE307.out) | exact HB.out)⟩

end Go.Proofs.Ytgmlihjopinagaa.PIntegersRanges
