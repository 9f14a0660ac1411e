-- (short) Written by myprint.py of this session over the kit's print program; contracts by hand where it does not serve.
import Derived.Test.YtgmlihjopinagaaPIntegersRangesx0
import Derived.Test.YtgmlihjopinagaaPIntegersRangesx3
import Derived.Test.YtgmlihjopinagaaPIntegersRangesx4
import Derived.Test.YtgmlihjopinagaaPIntegersRangesx7
namespace Go.Proofs.Ytgmlihjopinagaa.PIntegersRanges
open Go.RowKit Go.Proofs.YtgmlihjopinagaaW.PrintWords Go.Proofs.YtgmlihjopinagaaW.PrintLast Go.Proofs.YtgmlihjopinagaaW.PrintMore
attribute [local go_sem] max2_int min2_int max_two min_two max_three min_three max_four min_four   -- for this text's walks alone
set_option linter.unusedVariables false
set_option linter.unusedSimpArgs false

/-! ### integers_RangeOf: function 22 -/
mutual
def integers_RangeOf.j0 : Nat → Int → Int → Int → Int → Int → Int → Option (Int × Int × Int)
 | 0, _, _, _, _, _, _ => none
 | k + 1, x0, x10, x228000, x228001, x229000, x229001 => if x10 = 0 then (if x0 = 4 then (if (wrap64 (x228001 - x228000)) < 200 then ((integers_check_want.f x10 (decide ((wrap64 (x229001 - x229000)) < 200)) 8).bind fun t237 => (integers_RangeOf.j1 k x0 t237 x228000 x228001 x229000 x229001)) else ((integers_check_want.f x10 false 8).bind fun t238 => (integers_RangeOf.j1 k x0 t238 x228000 x228001 x229000 x229001))) else ((integers_check_want.f x10 true 8).bind fun t239 => (integers_RangeOf.j1 k x0 t239 x228000 x228001 x229000 x229001))) else ((integers_check_err.f x10).bind fun t236 => (some (0, 0, t236)))
def integers_RangeOf.j1 : Nat → Int → Int → Int → Int → Int → Int → Option (Int × Int × Int)
 | 0, _, _, _, _, _, _ => none
 | k + 1, x0, x10, x228000, x228001, x229000, x229001 => if x10 = 0 then ((integers_results.f k x0 x228000 x228001 x229000 x229001).bind fun bt241 => ((integers_number_integer.f bt241.1).bind fun t244 => (if t244 = true then ((integers_number_integer.f bt241.2).bind fun t245 => ((integers_check_want.f x10 t245 28).bind fun t246 => (if t246 = 0 then (some (bt241.1, bt241.2, 0)) else ((integers_check_err.f t246).bind fun t247 => (some (0, 0, t247)))))) else ((integers_check_want.f x10 false 28).bind fun t248 => (if t248 = 0 then (some (bt241.1, bt241.2, 0)) else ((integers_check_err.f t248).bind fun t249 => (some (0, 0, t249)))))))) else ((integers_check_err.f x10).bind fun t240 => (some (0, 0, t240)))
end
def integers_RangeOf.f (k : Nat) (a0 : Int) (a1_0 : Int) (a1_1 : Int) (a2_0 : Int) (a2_1 : Int) : Option (Int × Int × Int) := (integers_check_kind.f 0 a0 9).bind fun t229 => ((integers_check_span.f k t229 a1_0 a1_1).bind fun t230 => ((integers_check_span.f k t230 a2_0 a2_1).bind fun t231 => ((integers_divides.f a0).bind fun t232 => (if t232 = true then ((integers_span_contains.f a2_0 a2_1 0).bind fun t233 => ((integers_check_want.f t231 (!t233) 11).bind fun t234 => (integers_RangeOf.j0 k a0 t234 a1_0 a1_1 a2_0 a2_1))) else ((integers_check_want.f t231 true 11).bind fun t235 => (integers_RangeOf.j0 k a0 t235 a1_0 a1_1 a2_0 a2_1))))))
theorem integers_RangeOf.mono_l : ∀ k, (∀ y0 y1 y2 y3 y4 y5, LeO (integers_RangeOf.j0 k y0 y1 y2 y3 y4 y5) (integers_RangeOf.j0 (k + 1) y0 y1 y2 y3 y4 y5)) ∧ (∀ y0 y1 y2 y3 y4 y5, LeO (integers_RangeOf.j1 k y0 y1 y2 y3 y4 y5) (integers_RangeOf.j1 (k + 1) y0 y1 y2 y3 y4 y5))
 | 0 => ⟨fun _ _ _ _ _ _ r h => by simp [integers_RangeOf.j0] at h, fun _ _ _ _ _ _ r h => by simp [integers_RangeOf.j1] at h⟩
 | k + 1 => by
  obtain ⟨ih0, ih1⟩ := integers_RangeOf.mono_l k
  refine ⟨?_, ?_⟩
  ·intro y0 y1 y2 y3 y4 y5
   unfold integers_RangeOf.j0
   repeat' first
   | (with_reducible exact ih0 _ _ _ _ _ _)
   | (with_reducible exact ih1 _ _ _ _ _ _)
   | (with_reducible exact integers_check_span.mono _ _ _ _)
   | (with_reducible exact integers_results.mono _ _ _ _ _ _)
   | (with_reducible exact LeO.refl _)
   | (with_reducible exact LeO.none _)
   | (with_reducible refine LeO.ite ?_ ?_)
   | (with_reducible refine LeO.bind ?_ (fun _ => ?_))
   | exact ih0 _ _ _ _ _ _
   | exact ih1 _ _ _ _ _ _
   | exact integers_check_span.mono _ _ _ _
   | exact integers_results.mono _ _ _ _ _ _
   | exact LeO.none _
   | refine LeO.ite ?_ ?_
   | refine LeO.bind ?_ (fun _ => ?_)
  ·intro y0 y1 y2 y3 y4 y5
   unfold integers_RangeOf.j1
   repeat' first
   | (with_reducible exact ih0 _ _ _ _ _ _)
   | (with_reducible exact ih1 _ _ _ _ _ _)
   | (with_reducible exact integers_check_span.mono _ _ _ _)
   | (with_reducible exact integers_results.mono _ _ _ _ _ _)
   | (with_reducible exact LeO.refl _)
   | (with_reducible exact LeO.none _)
   | (with_reducible refine LeO.ite ?_ ?_)
   | (with_reducible refine LeO.bind ?_ (fun _ => ?_))
   | exact ih0 _ _ _ _ _ _
   | exact ih1 _ _ _ _ _ _
   | exact integers_check_span.mono _ _ _ _
   | exact integers_results.mono _ _ _ _ _ _
   | exact LeO.none _
   | refine LeO.ite ?_ ?_
   | refine LeO.bind ?_ (fun _ => ?_)
theorem integers_RangeOf.mono : ∀ a0 a1 a2 a3 a4 k, LeO (integers_RangeOf.f k a0 a1 a2 a3 a4) (integers_RangeOf.f (k + 1) a0 a1 a2 a3 a4) := by
 intro a0 a1 a2 a3 a4 k
 obtain ⟨ih0, ih1⟩ := integers_RangeOf.mono_l k
 unfold integers_RangeOf.f
 repeat' first
   | (with_reducible exact ih0 _ _ _ _ _ _)
   | (with_reducible exact ih1 _ _ _ _ _ _)
   | (with_reducible exact integers_check_span.mono _ _ _ _)
   | (with_reducible exact integers_results.mono _ _ _ _ _ _)
   | (with_reducible exact LeO.refl _)
   | (with_reducible exact LeO.none _)
   | (with_reducible refine LeO.ite ?_ ?_)
   | (with_reducible refine LeO.bind ?_ (fun _ => ?_))
   | exact ih0 _ _ _ _ _ _
   | exact ih1 _ _ _ _ _ _
   | exact integers_check_span.mono _ _ _ _
   | exact integers_results.mono _ _ _ _ _ _
   | exact LeO.none _
   | refine LeO.ite ?_ ?_
   | refine LeO.bind ?_ (fun _ => ?_)
def integers_RangeOf.T1 : Bool × List (List Nat × List Nat) := (true, [([], []), ([0], [0]), ([], []), ([2], [2]), ([1, 3], [1, 3]), ([], []), ([5], [5]), ([], []), ([7], [7]), ([6, 8], [6, 8]), ([], []), ([], []), ([10, 4, 0, 1, 2, 3, 4, 10, 11], [4, 10]), ([11, 9, 12, 0, 1, 2, 3, 4, 5, 6, 7, 8, 9, 10, 11, 12], [9, 11])])
def integers_RangeOf.B1 : List Nat := [0, 1, 0, 4, 15, 0, 32, 0, 128, 480, 0, 0, 3103, 8191]
theorem integers_RangeOf.tab1 : rtab .any (opsOf Try.f22 1) = integers_RangeOf.T1 := by kernel_rfl
theorem integers_RangeOf.bits1 : waitsOk integers_RangeOf.T1.2 integers_RangeOf.B1 = true := by kernel_rfl
def integers_RangeOf.T2 : Bool × List (List Nat × List Nat) := (true, [([], []), ([0], [0]), ([], []), ([1, 2, 1], [1, 2]), ([], []), ([3, 4, 3], [3, 4]), ([], []), ([6, 5], [6]), ([7], [7]), ([8, 7], [8]), ([9], [9]), ([10, 9, 9], [9, 10]), ([11, 9], [9, 11]), ([9, 12], [9, 12]), ([5, 13, 11], [5, 13]), ([14, 14, 0, 1, 2, 3, 4, 5, 6, 7, 8, 9, 10, 11, 12, 13, 14], [14])])
def integers_RangeOf.B2 : List Nat := [0, 1, 0, 7, 0, 31, 0, 127, 255, 511, 1023, 2047, 4095, 8191, 16383, 32767]
theorem integers_RangeOf.tab2 : rtab .any (opsOf Try.f22 2) = integers_RangeOf.T2 := by kernel_rfl
theorem integers_RangeOf.bits2 : waitsOk integers_RangeOf.T2.2 integers_RangeOf.B2 = true := by kernel_rfl
set_option maxHeartbeats 8000000 in
set_option maxRecDepth 100000 in
theorem integers_RangeOf.calls (k : Nat) (a0 : Int) (a1_0 : Int) (a1_1 : Int) (a2_0 : Int) (a2_1 : Int) (r1 : Int) (r2 : Int) (r3 : Int) (w : World) (h : integers_RangeOf.f k a0 a1_0 a1_1 a2_0 a2_1 = some (r1, r2, r3)) :
  Calls Try.prog 22 #[.int .i64 a0, .agg #[.int .i64 a1_0, .int .i64 a1_1], .agg #[.int .i64 a2_0, .int .i64 a2_1]] w fun e w' => e = .returned (.tuple #[.agg #[.int .i64 r1, .int .i64 r2], .int .i64 r3]) ∧ Below w.heap.size w w' := by
 have hu35 := Try.underlying35;have hu82 := Try.underlying82;have HB := Aside0.mk (Below.refl w.heap.size w)
 have H : ((integers_check_kind.f 0 a0 9).bind fun t229 => ((integers_check_span.f k t229 a1_0 a1_1).bind fun t230 => ((integers_check_span.f k t230 a2_0 a2_1).bind fun t231 => ((integers_divides.f a0).bind fun t232 => (if t232 = true then ((integers_span_contains.f a2_0 a2_1 0).bind fun t233 => ((integers_check_want.f t231 (!t233) 11).bind fun t234 => (integers_RangeOf.j0 k a0 t234 a1_0 a1_1 a2_0 a2_1))) else ((integers_check_want.f t231 true 11).bind fun t235 => (integers_RangeOf.j0 k a0 t235 a1_0 a1_1 a2_0 a2_1))))))) = some (r1, r2, r3) := h
 clear h;have HC4 := Aside0.mk H;clear H
 go_enter Try.func22, Try.ntmps22
 try go_wp2_with (first | ((with_reducible refine gate_dst (N := 4) rfl ?_); refine box_event ?hg (N := 4) ?hd (cs := #[.int .i64 a1_0, .int .i64 a1_1]) (t := 35) ?hr ?_; (case hd => rfl); (case hg => rfl); (case hr => first | (go_simp; done) | (go_simp; rfl)); intro gb224 hg w5 hbox hb; have n0_ := Aside0.mk (below_step (bw HB.out) hb); have n1_ := Aside0.mk (hbox); have n2_ := Aside0.mk ((by rw [hg]; exact (below_size (bw HB.out)) : w.heap.size ≤ gb224)); have n3_ := Aside0.mk ((by rw [hg]; exact (below_size (bw HB.out)) : w.heap.size ≤ gb224)); clear HB; have HB := n0_; have BK224 := n1_; have GW224 := n2_; have GE224 := n3_; clear n0_ n1_ n2_ n3_; clear hb hbox hg) | ((with_reducible refine gate_dst (N := 5) rfl ?_); refine box_event ?hg (N := 5) ?hd (cs := #[.int .i64 a2_0, .int .i64 a2_1]) (t := 35) ?hr ?_; (case hd => rfl); (case hg => rfl); (case hr => first | (go_simp; done) | (go_simp; rfl)); intro gb225 hg w6 hbox hb; have n0_ := Aside0.mk (blk_below (g := gb224) (o := .cells #[.int .i64 a1_0, .int .i64 a1_1] 35 (0, 0)) (bk BK224.out) hb); have n1_ := Aside0.mk (below_step (by repeat (first | (with_reducible first | exact HB.out | apply below_alloc | apply pw_below_drewN | apply below_drew1 | refine below_set ?_ GE224.out) | exact HB.out)) hb); have n2_ := Aside0.mk (hbox); have n3_ := Aside0.mk ((by rw [hg]; exact (below_size (by repeat (first | (with_reducible first | exact HB.out | apply below_alloc | apply pw_below_drewN | apply below_drew1 | refine below_set ?_ GE224.out) | exact HB.out))) : w.heap.size ≤ gb225)); have n4_ := Aside0.mk ((by rw [hg]; exact (below_size (by repeat (first | (with_reducible first | exact HB.out | apply below_alloc | apply pw_below_drewN | apply below_drew1 | refine below_set ?_ GE224.out) | exact HB.out))) : w.heap.size ≤ gb225)); have n5_ := Aside0.mk ((by rw [hg]; exact Nat.ne_of_lt (blk_lt (g := gb224) (o := .cells #[.int .i64 a1_0, .int .i64 a1_1] 35 (0, 0)) (bk BK224.out)) : gb224 ≠ gb225)); have n6_ := Aside0.mk ((by rw [hg]; exact Nat.ne_of_gt (blk_lt (g := gb224) (o := .cells #[.int .i64 a1_0, .int .i64 a1_1] 35 (0, 0)) (bk BK224.out)) : gb225 ≠ gb224)); clear BK224; clear HB; have BK224 := n0_; have HB := n1_; have BK225 := n2_; have GW225 := n3_; have GE225 := n4_; have NB224_225 := n5_; have NB225_224 := n6_; clear n0_ n1_ n2_ n3_ n4_ n5_ n6_; clear hb hbox hg) | ((with_reducible refine gate_dst (N := 6) rfl ?_); refine box_event ?hg (N := 6) ?hd (cs := #[.int .i64 0, .int .i64 0]) (t := 35) ?hr ?_; (case hd => rfl); (case hg => rfl); (case hr => first | (go_simp; done) | (go_simp; rfl)); intro gb226 hg w7 hbox hb; have n0_ := Aside0.mk (blk_below (g := gb224) (o := .cells #[.int .i64 a1_0, .int .i64 a1_1] 35 (0, 0)) (bk BK224.out) hb); have n1_ := Aside0.mk (blk_below (g := gb225) (o := .cells #[.int .i64 a2_0, .int .i64 a2_1] 35 (0, 0)) (bk BK225.out) hb); have n2_ := Aside0.mk (below_step (by repeat (first | (with_reducible first | exact HB.out | apply below_alloc | apply pw_below_drewN | apply below_drew1 | refine below_set ?_ GE224.out | refine below_set ?_ GE225.out) | exact HB.out)) hb); have n3_ := Aside0.mk (hbox); have n4_ := Aside0.mk ((by rw [hg]; exact (below_size (by repeat (first | (with_reducible first | exact HB.out | apply below_alloc | apply pw_below_drewN | apply below_drew1 | refine below_set ?_ GE224.out | refine below_set ?_ GE225.out) | exact HB.out))) : w.heap.size ≤ gb226)); have n5_ := Aside0.mk ((by rw [hg]; exact (below_size (by repeat (first | (with_reducible first | exact HB.out | apply below_alloc | apply pw_below_drewN | apply below_drew1 | refine below_set ?_ GE224.out | refine below_set ?_ GE225.out) | exact HB.out))) : w.heap.size ≤ gb226)); have n6_ := Aside0.mk ((by rw [hg]; exact Nat.ne_of_lt (blk_lt (g := gb224) (o := .cells #[.int .i64 a1_0, .int .i64 a1_1] 35 (0, 0)) (bk BK224.out)) : gb224 ≠ gb226)); have n7_ := Aside0.mk ((by rw [hg]; exact Nat.ne_of_gt (blk_lt (g := gb224) (o := .cells #[.int .i64 a1_0, .int .i64 a1_1] 35 (0, 0)) (bk BK224.out)) : gb226 ≠ gb224)); have n8_ := Aside0.mk ((by rw [hg]; exact Nat.ne_of_lt (blk_lt (g := gb225) (o := .cells #[.int .i64 a2_0, .int .i64 a2_1] 35 (0, 0)) (bk BK225.out)) : gb225 ≠ gb226)); have n9_ := Aside0.mk ((by rw [hg]; exact Nat.ne_of_gt (blk_lt (g := gb225) (o := .cells #[.int .i64 a2_0, .int .i64 a2_1] 35 (0, 0)) (bk BK225.out)) : gb226 ≠ gb225)); clear BK224; clear BK225; clear HB; have BK224 := n0_; have BK225 := n1_; have HB := n2_; have BK226 := n3_; have GW226 := n4_; have GE226 := n5_; have NB224_226 := n6_; have NB226_224 := n7_; have NB225_226 := n8_; have NB226_225 := n9_; clear n0_ n1_ n2_ n3_ n4_ n5_ n6_ n7_ n8_ n9_; clear hb hbox hg))
 have n0_ := Aside0.mk (blk_drew BK224.out);have n1_ := Aside0.mk (blk_drew BK225.out);have n2_ := Aside0.mk (blk_drew BK226.out);have n3_ := Aside0.mk (below_drew1 HB.out);clear BK224;clear BK225;clear BK226;clear HB;have BK224 := n0_;have BK225 := n1_;have BK226 := n2_;have HB := n3_;clear n0_ n1_ n2_ n3_
 refine start_ (n := 14) (S := fun w' => w'.cell? ⟨gb224, 0, none⟩ = some (.int .i64 a1_0) ∧ w'.cell? ⟨gb224, 1, none⟩ = some (.int .i64 a1_1) ∧ w'.cell? ⟨gb225, 0, none⟩ = some (.int .i64 a2_0) ∧ w'.cell? ⟨gb225, 1, none⟩ = some (.int .i64 a2_1)) (ds := []) #[false, false, false, false, false, false, false, false, false, false, false, false, false, false] (by kernel_rfl) rfl rfl ⟨(blk_cell BK224.out 0).trans rfl, (blk_cell BK224.out 1).trans rfl, (blk_cell BK225.out 0).trans rfl, (blk_cell BK225.out 1).trans rfl⟩ (fun hHeld => ?_); refine with_tabW integers_RangeOf.tab1 integers_RangeOf.bits1 (fun HT_ HW_ => ?_)
 generalize w7.drew = w8 at BK224 BK225 BK226 HB hHeld ⊢
 refine pure_ (i := 0) (N := some 12) (v := ?_) (a' := ?_) #[true, false, false, false, false, false, false, false, false, false, false, false, false, false] rfl rfl (any_of HT_.out (by kernel_rfl)) (fun _ _ _ h => h) (Or.inl ⟨by rfl, ?_⟩) ?_ ?_
 rotate_left
 ·intro w'
  go_simp
  with_reducible rfl
 rotate_left
 ·simp only [Act.put, List.setIfInBounds_toArray, List.set_cons_zero, List.set_cons_succ, i64_w, i32_w]
  rfl
 refine pure_ (i := 2) (N := some 14) (v := ?_) (a' := ?_) #[true, false, true, false, false, false, false, false, false, false, false, false, false, false] rfl rfl (any_of HT_.out (by kernel_rfl)) (fun _ _ _ h => h) (Or.inl ⟨by rfl, ?_⟩) ?_ ?_
 rotate_left
 ·intro w'
  go_simp
  with_reducible rfl
 rotate_left
 ·simp only [Act.put, List.setIfInBounds_toArray, List.set_cons_zero, List.set_cons_succ, i64_w, i32_w]
  rfl
 refine pure_ (i := 5) (N := some 17) (v := ?_) (a' := ?_) #[true, false, true, false, false, true, false, false, false, false, false, false, false, false] rfl rfl (any_of HT_.out (by kernel_rfl)) (fun _ _ _ h => h) (Or.inl ⟨by rfl, ?_⟩) ?_ ?_
 rotate_left
 ·intro w'
  go_simp
  with_reducible rfl
 rotate_left
 ·simp only [Act.put, List.setIfInBounds_toArray, List.set_cons_zero, List.set_cons_succ, i64_w, i32_w]
  rfl
 refine pure_ (i := 7) (N := some 19) (v := ?_) (a' := ?_) #[true, false, true, false, false, true, false, true, false, false, false, false, false, false] rfl rfl (any_of HT_.out (by kernel_rfl)) (fun _ _ _ h => h) (Or.inl ⟨by rfl, ?_⟩) ?_ ?_
 rotate_left
 ·intro w'
  go_simp
  with_reducible rfl
 rotate_left
 ·simp only [Act.put, List.setIfInBounds_toArray, List.set_cons_zero, List.set_cons_succ, i64_w, i32_w]
  rfl
 refine take_ (i := 1) (N := some 13) (v := ?_) (a' := ?_) #[true, true, true, false, false, true, false, true, false, false, false, false, false, false] rfl rfl (take_ofW HT_.out HW_.out (by kernel_rfl)) (fun _ _ _ h => h) (Or.inl ⟨by rfl, ?_⟩) hHeld ?_ ?_
 rotate_left
 ·rintro w' ⟨s0, s1, s2, s3⟩
  go_simp
  with_reducible rfl
 rotate_left
 ·simp only [Act.put, List.setIfInBounds_toArray, List.set_cons_zero, List.set_cons_succ, i64_w, i32_w]
  rfl
 refine take_ (i := 3) (N := some 15) (v := ?_) (a' := ?_) #[true, true, true, true, false, true, false, true, false, false, false, false, false, false] rfl rfl (take_ofW HT_.out HW_.out (by kernel_rfl)) (fun _ _ _ h => h) (Or.inl ⟨by rfl, ?_⟩) hHeld ?_ ?_
 rotate_left
 ·rintro w' ⟨s0, s1, s2, s3⟩
  go_simp
  with_reducible rfl
 rotate_left
 ·simp only [Act.put, List.setIfInBounds_toArray, List.set_cons_zero, List.set_cons_succ, i64_w, i32_w]
  rfl
 refine pure_ (i := 4) (N := some 16) (v := ?_) (a' := ?_) #[true, true, true, true, true, true, false, true, false, false, false, false, false, false] rfl rfl (any_of HT_.out (by kernel_rfl)) (fun _ _ _ h => h) (Or.inl ⟨by rfl, ?_⟩) ?_ ?_
 rotate_left
 ·intro w'
  go_simp
  with_reducible rfl
 rotate_left
 ·simp only [Act.put, List.setIfInBounds_toArray, List.set_cons_zero, List.set_cons_succ, i64_w, i32_w]
  rfl
 refine take_ (i := 6) (N := some 18) (v := ?_) (a' := ?_) #[true, true, true, true, true, true, true, true, false, false, false, false, false, false] rfl rfl (take_ofW HT_.out HW_.out (by kernel_rfl)) (fun _ _ _ h => h) (Or.inl ⟨by rfl, ?_⟩) hHeld ?_ ?_
 rotate_left
 ·rintro w' ⟨s0, s1, s2, s3⟩
  go_simp
  with_reducible rfl
 rotate_left
 ·simp only [Act.put, List.setIfInBounds_toArray, List.set_cons_zero, List.set_cons_succ, i64_w, i32_w]
  rfl
 refine take_ (i := 8) (N := some 20) (v := ?_) (a' := ?_) #[true, true, true, true, true, true, true, true, true, false, false, false, false, false] rfl rfl (take_ofW HT_.out HW_.out (by kernel_rfl)) (fun _ _ _ h => h) (Or.inl ⟨by rfl, ?_⟩) hHeld ?_ ?_
 rotate_left
 ·rintro w' ⟨s0, s1, s2, s3⟩
  go_simp
  with_reducible rfl
 rotate_left
 ·simp only [Act.put, List.setIfInBounds_toArray, List.set_cons_zero, List.set_cons_succ, i64_w, i32_w]
  rfl
 refine pure_ (i := 9) (N := some 21) (v := ?_) (a' := ?_) #[true, true, true, true, true, true, true, true, true, true, false, false, false, false] rfl rfl (any_of HT_.out (by kernel_rfl)) (fun _ _ _ h => h) (Or.inl ⟨by rfl, ?_⟩) ?_ ?_
 rotate_left
 ·intro w'
  go_simp
  with_reducible rfl
 rotate_left
 ·simp only [Act.put, List.setIfInBounds_toArray, List.set_cons_zero, List.set_cons_succ, i64_w, i32_w]
  rfl
 refine join_ (σ := Nat × Nat) 2 #[true, true, true, true, true, true, true, true, true, true, true, true, false, false] (fun s_ => [(8, .pointer (some ⟨s_.1, 0, none⟩)), (9, .pointer (some ⟨s_.2, 0, none⟩))]) (fun s_ w' => (w'.cell? ⟨gb224, 0, none⟩ = some (.int .i64 a1_0) ∧ w'.cell? ⟨gb224, 1, none⟩ = some (.int .i64 a1_1) ∧ w'.cell? ⟨gb225, 0, none⟩ = some (.int .i64 a2_0) ∧ w'.cell? ⟨gb225, 1, none⟩ = some (.int .i64 a2_1)) ∧ (w'.heap[gb224]? = some (.cells #[.int .i64 a1_0, .int .i64 a1_1] 35 (0, 0))) ∧ (w'.heap[gb225]? = some (.cells #[.int .i64 a2_0, .int .i64 a2_1] 35 (0, 0))) ∧ (w'.heap[gb226]? = some (.cells #[.int .i64 0, .int .i64 0] 35 (0, 0))) ∧ (w'.heap[s_.1]? = some (.cells #[.int .i64 0, .int .i64 0] 82 (0, 0))) ∧ (w'.heap[s_.2]? = some (.cells #[.int .i64 0, .int .i64 0] 82 (0, 0))) ∧ (w.heap.size ≤ s_.1) ∧ (w.heap.size ≤ s_.1) ∧ (gb224 ≠ s_.1) ∧ (s_.1 ≠ gb224) ∧ (gb225 ≠ s_.1) ∧ (s_.1 ≠ gb225) ∧ (gb226 ≠ s_.1) ∧ (s_.1 ≠ gb226) ∧ (s_.2 ≠ s_.1) ∧ (s_.1 ≠ s_.2) ∧ (w.heap.size ≤ s_.2) ∧ (w.heap.size ≤ s_.2) ∧ (gb224 ≠ s_.2) ∧ (s_.2 ≠ gb224) ∧ (gb225 ≠ s_.2) ∧ (s_.2 ≠ gb225) ∧ (gb226 ≠ s_.2) ∧ (s_.2 ≠ gb226) ∧ (Below w.heap.size w w')) ?_ ?_
 rotate_left
 ·intro hCont
  refine two_ (i := 10) (j := 11) (Ni := some 8) (Nj := some 9) #[true, true, true, true, true, true, true, true, true, true, true, false, false, false] #[true, true, true, true, true, true, true, true, true, true, false, true, false, false] rfl rfl rfl rfl (two_of HT_.out (by kernel_rfl)) (by decide) (by decide) (fun K hK => ?_) (fun K hK => ?_)
  ·skip
   refine box_step ?hg (N := 8) ?hd (cs := #[.int .i64 0, .int .i64 0]) (t := 82) ?hr ?_; (case hd => rfl); (case hg => rfl); (case hr => first | (go_simp; done) | (go_simp; rfl))
   intro gb227 hg w9 hbox hb
   have n0_ := Aside0.mk (blk_below (g := gb224) (o := .cells #[.int .i64 a1_0, .int .i64 a1_1] 35 (0, 0)) (bk BK224.out) hb);have n1_ := Aside0.mk (blk_below (g := gb225) (o := .cells #[.int .i64 a2_0, .int .i64 a2_1] 35 (0, 0)) (bk BK225.out) hb);have n2_ := Aside0.mk (blk_below (g := gb226) (o := .cells #[.int .i64 0, .int .i64 0] 35 (0, 0)) (bk BK226.out) hb)
   have n3_ := Aside0.mk (below_step (by repeat (first | (with_reducible first | exact HB.out | apply below_alloc | apply pw_below_drewN | apply below_drew1 | refine below_set ?_ GE224.out | refine below_set ?_ GE225.out | refine below_set ?_ GE226.out) | exact HB.out)) hb)
   have n4_ := Aside0.mk (hbox)
   have n5_ := Aside0.mk ((by rw [hg]; exact (below_size (by repeat (first | (with_reducible first | exact HB.out | apply below_alloc | apply pw_below_drewN | apply below_drew1 | refine below_set ?_ GE224.out | refine below_set ?_ GE225.out | refine below_set ?_ GE226.out) | exact HB.out))) : w.heap.size ≤ gb227))
   have n6_ := Aside0.mk ((by rw [hg]; exact (below_size (by repeat (first | (with_reducible first | exact HB.out | apply below_alloc | apply pw_below_drewN | apply below_drew1 | refine below_set ?_ GE224.out | refine below_set ?_ GE225.out | refine below_set ?_ GE226.out) | exact HB.out))) : w.heap.size ≤ gb227))
   have n7_ := Aside0.mk ((by rw [hg]; exact Nat.ne_of_lt (blk_lt (g := gb224) (o := .cells #[.int .i64 a1_0, .int .i64 a1_1] 35 (0, 0)) (bk BK224.out)) : gb224 ≠ gb227))
   have n8_ := Aside0.mk ((by rw [hg]; exact Nat.ne_of_gt (blk_lt (g := gb224) (o := .cells #[.int .i64 a1_0, .int .i64 a1_1] 35 (0, 0)) (bk BK224.out)) : gb227 ≠ gb224))
   have n9_ := Aside0.mk ((by rw [hg]; exact Nat.ne_of_lt (blk_lt (g := gb225) (o := .cells #[.int .i64 a2_0, .int .i64 a2_1] 35 (0, 0)) (bk BK225.out)) : gb225 ≠ gb227))
   have n10_ := Aside0.mk ((by rw [hg]; exact Nat.ne_of_gt (blk_lt (g := gb225) (o := .cells #[.int .i64 a2_0, .int .i64 a2_1] 35 (0, 0)) (bk BK225.out)) : gb227 ≠ gb225))
   have n11_ := Aside0.mk ((by rw [hg]; exact Nat.ne_of_lt (blk_lt (g := gb226) (o := .cells #[.int .i64 0, .int .i64 0] 35 (0, 0)) (bk BK226.out)) : gb226 ≠ gb227))
   have n12_ := Aside0.mk ((by rw [hg]; exact Nat.ne_of_gt (blk_lt (g := gb226) (o := .cells #[.int .i64 0, .int .i64 0] 35 (0, 0)) (bk BK226.out)) : gb227 ≠ gb226))
   clear BK224;clear BK225;clear BK226;clear HB;have BK224 := n0_;have BK225 := n1_;have BK226 := n2_;have HB := n3_;have BK227 := n4_;have GW227 := n5_;have GE227 := n6_;have NB224_227 := n7_;have NB227_224 := n8_;have NB225_227 := n9_;have NB227_225 := n10_;have NB226_227 := n11_;have NB227_226 := n12_;clear n0_ n1_ n2_ n3_ n4_ n5_ n6_ n7_ n8_ n9_ n10_ n11_ n12_;clear hb hbox hg
   refine hK.out _ _ ⟨(blk_cell BK224.out 0).trans rfl, (blk_cell BK224.out 1).trans rfl, (blk_cell BK225.out 0).trans rfl, (blk_cell BK225.out 1).trans rfl⟩ (fun hHeld => ?_)
   clear hK K
   refine norm_ (a' := ?_) ?_ ?_
   rotate_left
   ·show Act.put _ (some 8) _ = _
    simp only [Act.put, List.setIfInBounds_toArray, List.set_cons_zero, List.set_cons_succ, i64_w, i32_w]
    rfl
   refine one_ (i := 11) (N := some 9) #[true, true, true, true, true, true, true, true, true, true, true, true, false, false] rfl rfl (one_of HT_.out (by kernel_rfl)) (by decide) (fun K hK => ?_)
   refine box_step ?hg (N := 9) ?hd (cs := #[.int .i64 0, .int .i64 0]) (t := 82) ?hr ?_; (case hd => rfl); (case hg => rfl); (case hr => first | (go_simp; done) | (go_simp; rfl))
   intro gb228 hg w10 hbox hb
   have n0_ := Aside0.mk (blk_below (g := gb224) (o := .cells #[.int .i64 a1_0, .int .i64 a1_1] 35 (0, 0)) (bk BK224.out) hb);have n1_ := Aside0.mk (blk_below (g := gb225) (o := .cells #[.int .i64 a2_0, .int .i64 a2_1] 35 (0, 0)) (bk BK225.out) hb);have n2_ := Aside0.mk (blk_below (g := gb226) (o := .cells #[.int .i64 0, .int .i64 0] 35 (0, 0)) (bk BK226.out) hb);have n3_ := Aside0.mk (blk_below (g := gb227) (o := .cells #[.int .i64 0, .int .i64 0] 82 (0, 0)) (bk BK227.out) hb)
   have n4_ := Aside0.mk (below_step (by repeat (first | (with_reducible first | exact HB.out | apply below_alloc | apply pw_below_drewN | apply below_drew1 | refine below_set ?_ GE224.out | refine below_set ?_ GE225.out | refine below_set ?_ GE226.out | refine below_set ?_ GE227.out) | exact HB.out)) hb)
   have n5_ := Aside0.mk (hbox)
   have n6_ := Aside0.mk ((by rw [hg]; exact (below_size (by repeat (first | (with_reducible first | exact HB.out | apply below_alloc | apply pw_below_drewN | apply below_drew1 | refine below_set ?_ GE224.out | refine below_set ?_ GE225.out | refine below_set ?_ GE226.out | refine below_set ?_ GE227.out) | exact HB.out))) : w.heap.size ≤ gb228))
   have n7_ := Aside0.mk ((by rw [hg]; exact (below_size (by repeat (first | (with_reducible first | exact HB.out | apply below_alloc | apply pw_below_drewN | apply below_drew1 | refine below_set ?_ GE224.out | refine below_set ?_ GE225.out | refine below_set ?_ GE226.out | refine below_set ?_ GE227.out) | exact HB.out))) : w.heap.size ≤ gb228))
   have n8_ := Aside0.mk ((by rw [hg]; exact Nat.ne_of_lt (blk_lt (g := gb224) (o := .cells #[.int .i64 a1_0, .int .i64 a1_1] 35 (0, 0)) (bk BK224.out)) : gb224 ≠ gb228))
   have n9_ := Aside0.mk ((by rw [hg]; exact Nat.ne_of_gt (blk_lt (g := gb224) (o := .cells #[.int .i64 a1_0, .int .i64 a1_1] 35 (0, 0)) (bk BK224.out)) : gb228 ≠ gb224))
   have n10_ := Aside0.mk ((by rw [hg]; exact Nat.ne_of_lt (blk_lt (g := gb225) (o := .cells #[.int .i64 a2_0, .int .i64 a2_1] 35 (0, 0)) (bk BK225.out)) : gb225 ≠ gb228))
   have n11_ := Aside0.mk ((by rw [hg]; exact Nat.ne_of_gt (blk_lt (g := gb225) (o := .cells #[.int .i64 a2_0, .int .i64 a2_1] 35 (0, 0)) (bk BK225.out)) : gb228 ≠ gb225))
   have n12_ := Aside0.mk ((by rw [hg]; exact Nat.ne_of_lt (blk_lt (g := gb226) (o := .cells #[.int .i64 0, .int .i64 0] 35 (0, 0)) (bk BK226.out)) : gb226 ≠ gb228))
   have n13_ := Aside0.mk ((by rw [hg]; exact Nat.ne_of_gt (blk_lt (g := gb226) (o := .cells #[.int .i64 0, .int .i64 0] 35 (0, 0)) (bk BK226.out)) : gb228 ≠ gb226))
   have n14_ := Aside0.mk ((by rw [hg]; exact Nat.ne_of_lt (blk_lt (g := gb227) (o := .cells #[.int .i64 0, .int .i64 0] 82 (0, 0)) (bk BK227.out)) : gb227 ≠ gb228))
   have n15_ := Aside0.mk ((by rw [hg]; exact Nat.ne_of_gt (blk_lt (g := gb227) (o := .cells #[.int .i64 0, .int .i64 0] 82 (0, 0)) (bk BK227.out)) : gb228 ≠ gb227))
   clear BK224;clear BK225;clear BK226;clear BK227;clear HB;have BK224 := n0_;have BK225 := n1_;have BK226 := n2_;have BK227 := n3_;have HB := n4_;have BK228 := n5_;have GW228 := n6_;have GE228 := n7_;have NB224_228 := n8_;have NB228_224 := n9_;have NB225_228 := n10_;have NB228_225 := n11_;have NB226_228 := n12_;have NB228_226 := n13_;have NB227_228 := n14_;have NB228_227 := n15_;clear n0_ n1_ n2_ n3_ n4_ n5_ n6_ n7_ n8_ n9_ n10_ n11_ n12_ n13_ n14_ n15_;clear hb hbox hg
   refine hK.out _ _ ⟨(blk_cell BK224.out 0).trans rfl, (blk_cell BK224.out 1).trans rfl, (blk_cell BK225.out 0).trans rfl, (blk_cell BK225.out 1).trans rfl⟩ (fun hHeld => ?_)
   clear hK K
   refine norm_ (a' := ?_) ?_ ?_
   rotate_left
   ·show Act.put _ (some 9) _ = _
    simp only [Act.put, List.setIfInBounds_toArray, List.set_cons_zero, List.set_cons_succ, i64_w, i32_w]
    rfl
   exact norm_ (by simp only [putAll, Act.put, List.setIfInBounds_toArray, List.set_cons_zero, List.set_cons_succ]) (hCont (gb227, gb228) _ ⟨hHeld, (bk BK224.out), (bk BK225.out), (bk BK226.out), (bk BK227.out), (bk BK228.out), GW227.out, GE227.out, NB224_227.out, NB227_224.out, NB225_227.out, NB227_225.out, NB226_227.out, NB227_226.out, NB228_227.out, NB227_228.out, GW228.out, GE228.out, NB224_228.out, NB228_224.out, NB225_228.out, NB228_225.out, NB226_228.out, NB228_226.out, (by repeat (first | (with_reducible first | exact HB.out | apply below_alloc | apply pw_below_drewN | apply below_drew1 | refine below_set ?_ GE224.out | refine below_set ?_ GE225.out | refine below_set ?_ GE226.out | refine below_set ?_ GE227.out | refine below_set ?_ GE228.out) | exact HB.out))⟩)
  ·skip
   refine box_step ?hg (N := 9) ?hd (cs := #[.int .i64 0, .int .i64 0]) (t := 82) ?hr ?_; (case hd => rfl); (case hg => rfl); (case hr => first | (go_simp; done) | (go_simp; rfl))
   intro gb228 hg w9 hbox hb
   have n0_ := Aside0.mk (blk_below (g := gb224) (o := .cells #[.int .i64 a1_0, .int .i64 a1_1] 35 (0, 0)) (bk BK224.out) hb);have n1_ := Aside0.mk (blk_below (g := gb225) (o := .cells #[.int .i64 a2_0, .int .i64 a2_1] 35 (0, 0)) (bk BK225.out) hb);have n2_ := Aside0.mk (blk_below (g := gb226) (o := .cells #[.int .i64 0, .int .i64 0] 35 (0, 0)) (bk BK226.out) hb)
   have n3_ := Aside0.mk (below_step (by repeat (first | (with_reducible first | exact HB.out | apply below_alloc | apply pw_below_drewN | apply below_drew1 | refine below_set ?_ GE224.out | refine below_set ?_ GE225.out | refine below_set ?_ GE226.out) | exact HB.out)) hb)
   have n4_ := Aside0.mk (hbox)
   have n5_ := Aside0.mk ((by rw [hg]; exact (below_size (by repeat (first | (with_reducible first | exact HB.out | apply below_alloc | apply pw_below_drewN | apply below_drew1 | refine below_set ?_ GE224.out | refine below_set ?_ GE225.out | refine below_set ?_ GE226.out) | exact HB.out))) : w.heap.size ≤ gb228))
   have n6_ := Aside0.mk ((by rw [hg]; exact (below_size (by repeat (first | (with_reducible first | exact HB.out | apply below_alloc | apply pw_below_drewN | apply below_drew1 | refine below_set ?_ GE224.out | refine below_set ?_ GE225.out | refine below_set ?_ GE226.out) | exact HB.out))) : w.heap.size ≤ gb228))
   have n7_ := Aside0.mk ((by rw [hg]; exact Nat.ne_of_lt (blk_lt (g := gb224) (o := .cells #[.int .i64 a1_0, .int .i64 a1_1] 35 (0, 0)) (bk BK224.out)) : gb224 ≠ gb228))
   have n8_ := Aside0.mk ((by rw [hg]; exact Nat.ne_of_gt (blk_lt (g := gb224) (o := .cells #[.int .i64 a1_0, .int .i64 a1_1] 35 (0, 0)) (bk BK224.out)) : gb228 ≠ gb224))
   have n9_ := Aside0.mk ((by rw [hg]; exact Nat.ne_of_lt (blk_lt (g := gb225) (o := .cells #[.int .i64 a2_0, .int .i64 a2_1] 35 (0, 0)) (bk BK225.out)) : gb225 ≠ gb228))
   have n10_ := Aside0.mk ((by rw [hg]; exact Nat.ne_of_gt (blk_lt (g := gb225) (o := .cells #[.int .i64 a2_0, .int .i64 a2_1] 35 (0, 0)) (bk BK225.out)) : gb228 ≠ gb225))
   have n11_ := Aside0.mk ((by rw [hg]; exact Nat.ne_of_lt (blk_lt (g := gb226) (o := .cells #[.int .i64 0, .int .i64 0] 35 (0, 0)) (bk BK226.out)) : gb226 ≠ gb228))
   have n12_ := Aside0.mk ((by rw [hg]; exact Nat.ne_of_gt (blk_lt (g := gb226) (o := .cells #[.int .i64 0, .int .i64 0] 35 (0, 0)) (bk BK226.out)) : gb228 ≠ gb226))
   clear BK224;clear BK225;clear BK226;clear HB;have BK224 := n0_;have BK225 := n1_;have BK226 := n2_;have HB := n3_;have BK228 := n4_;have GW228 := n5_;have GE228 := n6_;have NB224_228 := n7_;have NB228_224 := n8_;have NB225_228 := n9_;have NB228_225 := n10_;have NB226_228 := n11_;have NB228_226 := n12_;clear n0_ n1_ n2_ n3_ n4_ n5_ n6_ n7_ n8_ n9_ n10_ n11_ n12_;clear hb hbox hg
   refine hK.out _ _ ⟨(blk_cell BK224.out 0).trans rfl, (blk_cell BK224.out 1).trans rfl, (blk_cell BK225.out 0).trans rfl, (blk_cell BK225.out 1).trans rfl⟩ (fun hHeld => ?_)
   clear hK K
   refine norm_ (a' := ?_) ?_ ?_
   rotate_left
   ·show Act.put _ (some 9) _ = _
    simp only [Act.put, List.setIfInBounds_toArray, List.set_cons_zero, List.set_cons_succ, i64_w, i32_w]
    rfl
   refine one_ (i := 10) (N := some 8) #[true, true, true, true, true, true, true, true, true, true, true, true, false, false] rfl rfl (one_of HT_.out (by kernel_rfl)) (by decide) (fun K hK => ?_)
   refine box_step ?hg (N := 8) ?hd (cs := #[.int .i64 0, .int .i64 0]) (t := 82) ?hr ?_; (case hd => rfl); (case hg => rfl); (case hr => first | (go_simp; done) | (go_simp; rfl))
   intro gb227 hg w10 hbox hb
   have n0_ := Aside0.mk (blk_below (g := gb224) (o := .cells #[.int .i64 a1_0, .int .i64 a1_1] 35 (0, 0)) (bk BK224.out) hb);have n1_ := Aside0.mk (blk_below (g := gb225) (o := .cells #[.int .i64 a2_0, .int .i64 a2_1] 35 (0, 0)) (bk BK225.out) hb);have n2_ := Aside0.mk (blk_below (g := gb226) (o := .cells #[.int .i64 0, .int .i64 0] 35 (0, 0)) (bk BK226.out) hb);have n3_ := Aside0.mk (blk_below (g := gb228) (o := .cells #[.int .i64 0, .int .i64 0] 82 (0, 0)) (bk BK228.out) hb)
   have n4_ := Aside0.mk (below_step (by repeat (first | (with_reducible first | exact HB.out | apply below_alloc | apply pw_below_drewN | apply below_drew1 | refine below_set ?_ GE224.out | refine below_set ?_ GE225.out | refine below_set ?_ GE226.out | refine below_set ?_ GE228.out) | exact HB.out)) hb)
   have n5_ := Aside0.mk (hbox)
   have n6_ := Aside0.mk ((by rw [hg]; exact (below_size (by repeat (first | (with_reducible first | exact HB.out | apply below_alloc | apply pw_below_drewN | apply below_drew1 | refine below_set ?_ GE224.out | refine below_set ?_ GE225.out | refine below_set ?_ GE226.out | refine below_set ?_ GE228.out) | exact HB.out))) : w.heap.size ≤ gb227))
   have n7_ := Aside0.mk ((by rw [hg]; exact (below_size (by repeat (first | (with_reducible first | exact HB.out | apply below_alloc | apply pw_below_drewN | apply below_drew1 | refine below_set ?_ GE224.out | refine below_set ?_ GE225.out | refine below_set ?_ GE226.out | refine below_set ?_ GE228.out) | exact HB.out))) : w.heap.size ≤ gb227))
   have n8_ := Aside0.mk ((by rw [hg]; exact Nat.ne_of_lt (blk_lt (g := gb224) (o := .cells #[.int .i64 a1_0, .int .i64 a1_1] 35 (0, 0)) (bk BK224.out)) : gb224 ≠ gb227))
   have n9_ := Aside0.mk ((by rw [hg]; exact Nat.ne_of_gt (blk_lt (g := gb224) (o := .cells #[.int .i64 a1_0, .int .i64 a1_1] 35 (0, 0)) (bk BK224.out)) : gb227 ≠ gb224))
   have n10_ := Aside0.mk ((by rw [hg]; exact Nat.ne_of_lt (blk_lt (g := gb225) (o := .cells #[.int .i64 a2_0, .int .i64 a2_1] 35 (0, 0)) (bk BK225.out)) : gb225 ≠ gb227))
   have n11_ := Aside0.mk ((by rw [hg]; exact Nat.ne_of_gt (blk_lt (g := gb225) (o := .cells #[.int .i64 a2_0, .int .i64 a2_1] 35 (0, 0)) (bk BK225.out)) : gb227 ≠ gb225))
   have n12_ := Aside0.mk ((by rw [hg]; exact Nat.ne_of_lt (blk_lt (g := gb226) (o := .cells #[.int .i64 0, .int .i64 0] 35 (0, 0)) (bk BK226.out)) : gb226 ≠ gb227))
   have n13_ := Aside0.mk ((by rw [hg]; exact Nat.ne_of_gt (blk_lt (g := gb226) (o := .cells #[.int .i64 0, .int .i64 0] 35 (0, 0)) (bk BK226.out)) : gb227 ≠ gb226))
   have n14_ := Aside0.mk ((by rw [hg]; exact Nat.ne_of_lt (blk_lt (g := gb228) (o := .cells #[.int .i64 0, .int .i64 0] 82 (0, 0)) (bk BK228.out)) : gb228 ≠ gb227))
   have n15_ := Aside0.mk ((by rw [hg]; exact Nat.ne_of_gt (blk_lt (g := gb228) (o := .cells #[.int .i64 0, .int .i64 0] 82 (0, 0)) (bk BK228.out)) : gb227 ≠ gb228))
   clear BK224;clear BK225;clear BK226;clear BK228;clear HB;have BK224 := n0_;have BK225 := n1_;have BK226 := n2_;have BK228 := n3_;have HB := n4_;have BK227 := n5_;have GW227 := n6_;have GE227 := n7_;have NB224_227 := n8_;have NB227_224 := n9_;have NB225_227 := n10_;have NB227_225 := n11_;have NB226_227 := n12_;have NB227_226 := n13_;have NB228_227 := n14_;have NB227_228 := n15_;clear n0_ n1_ n2_ n3_ n4_ n5_ n6_ n7_ n8_ n9_ n10_ n11_ n12_ n13_ n14_ n15_;clear hb hbox hg
   refine hK.out _ _ ⟨(blk_cell BK224.out 0).trans rfl, (blk_cell BK224.out 1).trans rfl, (blk_cell BK225.out 0).trans rfl, (blk_cell BK225.out 1).trans rfl⟩ (fun hHeld => ?_)
   clear hK K
   refine norm_ (a' := ?_) ?_ ?_
   rotate_left
   ·show Act.put _ (some 8) _ = _
    simp only [Act.put, List.setIfInBounds_toArray, List.set_cons_zero, List.set_cons_succ, i64_w, i32_w]
    rfl
   exact norm_ (by simp only [putAll, Act.put, List.setIfInBounds_toArray, List.set_cons_zero, List.set_cons_succ]) (hCont (gb227, gb228) _ ⟨hHeld, (bk BK224.out), (bk BK225.out), (bk BK226.out), (bk BK227.out), (bk BK228.out), GW227.out, GE227.out, NB224_227.out, NB227_224.out, NB225_227.out, NB227_225.out, NB226_227.out, NB227_226.out, NB228_227.out, NB227_228.out, GW228.out, GE228.out, NB224_228.out, NB228_224.out, NB225_228.out, NB228_225.out, NB226_228.out, NB228_226.out, (by repeat (first | (with_reducible first | exact HB.out | apply below_alloc | apply pw_below_drewN | apply below_drew1 | refine below_set ?_ GE224.out | refine below_set ?_ GE225.out | refine below_set ?_ GE226.out | refine below_set ?_ GE228.out | refine below_set ?_ GE227.out) | exact HB.out))⟩)
 rintro ⟨gb227, gb228⟩ w11 ⟨hS_, h0_, h1_, h2_, h3_, h4_, h5_, h6_, h7_, h8_, h9_, h10_, h11_, h12_, h13_, h14_, h15_, h16_, h17_, h18_, h19_, h20_, h21_, h22_, h23_⟩
 have n0_ : Aside0 (w11.heap[gb224]? = some (.cells #[.int .i64 a1_0, .int .i64 a1_1] 35 (0, 0))) := ⟨h0_⟩
 have n1_ : Aside0 (w11.heap[gb225]? = some (.cells #[.int .i64 a2_0, .int .i64 a2_1] 35 (0, 0))) := ⟨h1_⟩
 have n2_ : Aside0 (w11.heap[gb226]? = some (.cells #[.int .i64 0, .int .i64 0] 35 (0, 0))) := ⟨h2_⟩
 have n3_ : Aside0 (w11.heap[gb227]? = some (.cells #[.int .i64 0, .int .i64 0] 82 (0, 0))) := ⟨h3_⟩
 have n4_ : Aside0 (w11.heap[gb228]? = some (.cells #[.int .i64 0, .int .i64 0] 82 (0, 0))) := ⟨h4_⟩
 have n5_ : Aside0 (w.heap.size ≤ gb227) := ⟨h5_⟩
 have n6_ : Aside0 (w.heap.size ≤ gb227) := ⟨h6_⟩
 have n7_ : Aside0 (gb224 ≠ gb227) := ⟨h7_⟩
 have n8_ : Aside0 (gb227 ≠ gb224) := ⟨h8_⟩
 have n9_ : Aside0 (gb225 ≠ gb227) := ⟨h9_⟩
 have n10_ : Aside0 (gb227 ≠ gb225) := ⟨h10_⟩
 have n11_ : Aside0 (gb226 ≠ gb227) := ⟨h11_⟩
 have n12_ : Aside0 (gb227 ≠ gb226) := ⟨h12_⟩
 have n13_ : Aside0 (gb228 ≠ gb227) := ⟨h13_⟩
 have n14_ : Aside0 (gb227 ≠ gb228) := ⟨h14_⟩
 have n15_ : Aside0 (w.heap.size ≤ gb228) := ⟨h15_⟩
 have n16_ : Aside0 (w.heap.size ≤ gb228) := ⟨h16_⟩
 have n17_ : Aside0 (gb224 ≠ gb228) := ⟨h17_⟩
 have n18_ : Aside0 (gb228 ≠ gb224) := ⟨h18_⟩
 have n19_ : Aside0 (gb225 ≠ gb228) := ⟨h19_⟩
 have n20_ : Aside0 (gb228 ≠ gb225) := ⟨h20_⟩
 have n21_ : Aside0 (gb226 ≠ gb228) := ⟨h21_⟩
 have n22_ : Aside0 (gb228 ≠ gb226) := ⟨h22_⟩
 have n23_ : Aside0 (Below w.heap.size w w11) := ⟨h23_⟩
 clear BK224;clear BK225;clear BK226;clear HB;clear h0_ h1_ h2_ h3_ h4_ h5_ h6_ h7_ h8_ h9_ h10_ h11_ h12_ h13_ h14_ h15_ h16_ h17_ h18_ h19_ h20_ h21_ h22_ h23_;have BK224 := n0_;have BK225 := n1_;have BK226 := n2_;have BK227 := n3_;have BK228 := n4_;have GW227 := n5_;have GE227 := n6_;have NB224_227 := n7_;have NB227_224 := n8_;have NB225_227 := n9_;have NB227_225 := n10_;have NB226_227 := n11_;have NB227_226 := n12_;have NB228_227 := n13_;have NB227_228 := n14_;have GW228 := n15_;have GE228 := n16_;have NB224_228 := n17_;have NB228_224 := n18_;have NB225_228 := n19_;have NB228_225 := n20_;have NB226_228 := n21_;have NB228_226 := n22_;have HB := n23_;clear n0_ n1_ n2_ n3_ n4_ n5_ n6_ n7_ n8_ n9_ n10_ n11_ n12_ n13_ n14_ n15_ n16_ n17_ n18_ n19_ n20_ n21_ n22_ n23_
 have hHeld : w11.cell? ⟨gb224, 0, none⟩ = some (.int .i64 a1_0) ∧ w11.cell? ⟨gb224, 1, none⟩ = some (.int .i64 a1_1) ∧ w11.cell? ⟨gb225, 0, none⟩ = some (.int .i64 a2_0) ∧ w11.cell? ⟨gb225, 1, none⟩ = some (.int .i64 a2_1) := hS_
 refine norm_ (a' := ?_) ?_ ?_
 rotate_left
 ·simp only [putAll, Act.put, List.setIfInBounds_toArray, List.set_cons_zero, List.set_cons_succ]
  rfl
 refine one_ (i := 12) (N := none) #[true, true, true, true, true, true, true, true, true, true, true, true, true, false] rfl rfl (one_of HT_.out (by kernel_rfl)) (by decide) (fun K hK => ?_)
 have hs12 : w11.cell? ⟨gb227, 0, none⟩ = some (.int .i64 0) := (blk_cell BK227.out 0).trans rfl
 have hfs12 := blk_frozen BK227.out 0;have hns12_0 := NB224_227.out;have hns12_1 := NB225_227.out;have hns12_2 := NB226_227.out;have hns12_4 := NB228_227.out;have hms12_0 := NB227_224.out;have hms12_1 := NB227_225.out;have hms12_2 := NB227_226.out;have hms12_4 := NB227_228.out
 have hs13 : w11.cell? ⟨gb227, 1, none⟩ = some (.int .i64 0) := (blk_cell BK227.out 1).trans rfl
 have hfs13 := blk_frozen BK227.out 1;have hns13_0 := NB224_227.out;have hns13_1 := NB225_227.out;have hns13_2 := NB226_227.out;have hns13_4 := NB228_227.out;have hms13_0 := NB227_224.out;have hms13_1 := NB227_225.out;have hms13_2 := NB227_226.out;have hms13_4 := NB227_228.out
 refine skip_ (w1 := ?_) (by rfl) rfl ?_ ?_
 rotate_left
 ·go_simp
  rfl
 refine hK.out _ _ ⟨((cell_far (p := ⟨gb227, _, none⟩) NB224_227.out _).trans (((cell_far (p := ⟨gb227, _, none⟩) NB224_227.out _).trans (hHeld.1)))), ((cell_far (p := ⟨gb227, _, none⟩) NB224_227.out _).trans (((cell_far (p := ⟨gb227, _, none⟩) NB224_227.out _).trans (hHeld.2.1)))), ((cell_far (p := ⟨gb227, _, none⟩) NB225_227.out _).trans (((cell_far (p := ⟨gb227, _, none⟩) NB225_227.out _).trans (hHeld.2.2.1)))), ((cell_far (p := ⟨gb227, _, none⟩) NB225_227.out _).trans (((cell_far (p := ⟨gb227, _, none⟩) NB225_227.out _).trans (hHeld.2.2.2))))⟩ (fun hHeld => ?_)
 clear hK K
 refine one_ (i := 13) (N := none) #[true, true, true, true, true, true, true, true, true, true, true, true, true, true] rfl rfl (one_of HT_.out (by kernel_rfl)) (by decide) (fun K hK => ?_)
 have hs14 : w11.cell? ⟨gb228, 0, none⟩ = some (.int .i64 0) := (blk_cell BK228.out 0).trans rfl
 have hfs14 := blk_frozen BK228.out 0;have hns14_0 := NB224_228.out;have hns14_1 := NB225_228.out;have hns14_2 := NB226_228.out;have hns14_3 := NB227_228.out;have hms14_0 := NB228_224.out;have hms14_1 := NB228_225.out;have hms14_2 := NB228_226.out;have hms14_3 := NB228_227.out
 have hs15 : w11.cell? ⟨gb228, 1, none⟩ = some (.int .i64 0) := (blk_cell BK228.out 1).trans rfl
 have hfs15 := blk_frozen BK228.out 1;have hns15_0 := NB224_228.out;have hns15_1 := NB225_228.out;have hns15_2 := NB226_228.out;have hns15_3 := NB227_228.out;have hms15_0 := NB228_224.out;have hms15_1 := NB228_225.out;have hms15_2 := NB228_226.out;have hms15_3 := NB228_227.out
 refine skip_ (w1 := ?_) (by rfl) rfl ?_ ?_
 rotate_left
 ·go_simp
  rfl
 refine hK.out _ _ ⟨((cell_far (p := ⟨gb228, _, none⟩) NB224_228.out _).trans (((cell_far (p := ⟨gb228, _, none⟩) NB224_228.out _).trans (hHeld.1)))), ((cell_far (p := ⟨gb228, _, none⟩) NB224_228.out _).trans (((cell_far (p := ⟨gb228, _, none⟩) NB224_228.out _).trans (hHeld.2.1)))), ((cell_far (p := ⟨gb228, _, none⟩) NB225_228.out _).trans (((cell_far (p := ⟨gb228, _, none⟩) NB225_228.out _).trans (hHeld.2.2.1)))), ((cell_far (p := ⟨gb228, _, none⟩) NB225_228.out _).trans (((cell_far (p := ⟨gb228, _, none⟩) NB225_228.out _).trans (hHeld.2.2.2))))⟩ (fun hHeld => ?_)
 clear hK K
 refine done_ (done_of HT_.out (by kernel_rfl)) ?_
 go_upto_region 2 with (fail)
 go_cut [10] (fun v10 wc => ∃ (kq : Nat) (x10_3 : Int), v10 = .int .i64 x10_3 ∧ Aside0 (integers_RangeOf.j0 kq a0 x10_3 a1_0 a1_1 a2_0 a2_1 = some (r1, r2, r3)) ∧ Aside0 (kq ≤ k) ∧ Aside0 (wc.heap[gb224]? = some (.cells #[.int .i64 a1_0, .int .i64 a1_1] 35 (0, 0))) ∧ Aside0 (wc.heap[gb225]? = some (.cells #[.int .i64 a2_0, .int .i64 a2_1] 35 (0, 0))) ∧ Aside0 (wc.heap[gb226]? = some (.cells #[.int .i64 0, .int .i64 0] 35 (0, 0))) ∧ Aside0 (wc.heap[gb227]? = some (.cells #[.int .i64 a1_0, .int .i64 a1_1] 82 (0, 0))) ∧ Aside0 (wc.heap[gb228]? = some (.cells #[.int .i64 a2_0, .int .i64 a2_1] 82 (0, 0))) ∧ Aside0 (Below w.heap.size w wc))
 case first =>
  have H := HC4.out;clear HC4;replace H := Option.bind_eq_some_iff.mp H;obtain ⟨t229, A160, H⟩ := H
  try dsimp only at H
  have A16 := Aside0.mk A160;clear A160;replace H := Option.bind_eq_some_iff.mp H;obtain ⟨t230, A170, H⟩ := H
  try dsimp only at H
  have A17 := Aside0.mk A170;clear A170;replace H := Option.bind_eq_some_iff.mp H;obtain ⟨t231, A180, H⟩ := H
  try dsimp only at H
  have A18 := Aside0.mk A180;clear A180;replace H := Option.bind_eq_some_iff.mp H;obtain ⟨t232, A190, H⟩ := H
  try dsimp only at H
  have A19 := Aside0.mk A190;clear A190
  by_cases c20 : t232 = true
  ·subst c20
   have H1 : ((integers_span_contains.f a2_0 a2_1 0).bind fun t233 => ((integers_check_want.f t231 (!t233) 11).bind fun t234 => (integers_RangeOf.j0 k a0 t234 a1_0 a1_1 a2_0 a2_1))) = some (r1, r2, r3) := by rw [if_pos rfl] at H; exact H
   clear H;have H := H1;clear H1;replace H := Option.bind_eq_some_iff.mp H;obtain ⟨t233, A210, H⟩ := H
   try dsimp only at H
   have A21 := Aside0.mk A210;clear A210;replace H := Option.bind_eq_some_iff.mp H;obtain ⟨t234, A220, H⟩ := H
   try dsimp only at H
   have A22 := Aside0.mk A220;clear A220
   as_aux_lemma =>
    have H' := Aside0.mk H
    clear H
    try go_wp2
    have n0_ : Aside0 (((((w11.setCell ⟨gb227, 0, none⟩ (.int .i64 a1_0)).setCell ⟨gb227, 1, none⟩ (.int .i64 a1_1)).setCell ⟨gb228, 0, none⟩ (.int .i64 a2_0)).setCell ⟨gb228, 1, none⟩ (.int .i64 a2_1)).heap[gb224]? = some (.cells #[.int .i64 a1_0, .int .i64 a1_1] 35 (0, 0))) := ⟨by refine bk (blk_far ?_ NB224_228.out _); refine bk (blk_far ?_ NB224_228.out _); refine bk (blk_far ?_ NB224_227.out _); refine bk (blk_far ?_ NB224_227.out _); exact bk BK224.out⟩
    have n1_ : Aside0 (((((w11.setCell ⟨gb227, 0, none⟩ (.int .i64 a1_0)).setCell ⟨gb227, 1, none⟩ (.int .i64 a1_1)).setCell ⟨gb228, 0, none⟩ (.int .i64 a2_0)).setCell ⟨gb228, 1, none⟩ (.int .i64 a2_1)).heap[gb225]? = some (.cells #[.int .i64 a2_0, .int .i64 a2_1] 35 (0, 0))) := ⟨by refine bk (blk_far ?_ NB225_228.out _); refine bk (blk_far ?_ NB225_228.out _); refine bk (blk_far ?_ NB225_227.out _); refine bk (blk_far ?_ NB225_227.out _); exact bk BK225.out⟩
    have n2_ : Aside0 (((((w11.setCell ⟨gb227, 0, none⟩ (.int .i64 a1_0)).setCell ⟨gb227, 1, none⟩ (.int .i64 a1_1)).setCell ⟨gb228, 0, none⟩ (.int .i64 a2_0)).setCell ⟨gb228, 1, none⟩ (.int .i64 a2_1)).heap[gb226]? = some (.cells #[.int .i64 0, .int .i64 0] 35 (0, 0))) := ⟨by refine bk (blk_far ?_ NB226_228.out _); refine bk (blk_far ?_ NB226_228.out _); refine bk (blk_far ?_ NB226_227.out _); refine bk (blk_far ?_ NB226_227.out _); exact bk BK226.out⟩
    have n3_ : Aside0 (((((w11.setCell ⟨gb227, 0, none⟩ (.int .i64 a1_0)).setCell ⟨gb227, 1, none⟩ (.int .i64 a1_1)).setCell ⟨gb228, 0, none⟩ (.int .i64 a2_0)).setCell ⟨gb228, 1, none⟩ (.int .i64 a2_1)).heap[gb227]? = some (.cells #[.int .i64 a1_0, .int .i64 a1_1] 82 (0, 0))) := ⟨by refine bk (blk_far ?_ NB227_228.out _); refine bk (blk_far ?_ NB227_228.out _); refine bk (blk_put (cs := #[.int .i64 a1_0, .int .i64 0]) ?_ 1 _ rfl); refine bk (blk_put (cs := #[.int .i64 0, .int .i64 0]) ?_ 0 _ rfl); exact bk BK227.out⟩
    have n4_ : Aside0 (((((w11.setCell ⟨gb227, 0, none⟩ (.int .i64 a1_0)).setCell ⟨gb227, 1, none⟩ (.int .i64 a1_1)).setCell ⟨gb228, 0, none⟩ (.int .i64 a2_0)).setCell ⟨gb228, 1, none⟩ (.int .i64 a2_1)).heap[gb228]? = some (.cells #[.int .i64 a2_0, .int .i64 a2_1] 82 (0, 0))) := ⟨by refine bk (blk_put (cs := #[.int .i64 a2_0, .int .i64 0]) ?_ 1 _ rfl); refine bk (blk_put (cs := #[.int .i64 0, .int .i64 0]) ?_ 0 _ rfl); refine bk (blk_far ?_ NB228_227.out _); refine bk (blk_far ?_ NB228_227.out _); exact bk BK228.out⟩
    have n5_ : Aside0 (Below w.heap.size w ((((w11.setCell ⟨gb227, 0, none⟩ (.int .i64 a1_0)).setCell ⟨gb227, 1, none⟩ (.int .i64 a1_1)).setCell ⟨gb228, 0, none⟩ (.int .i64 a2_0)).setCell ⟨gb228, 1, none⟩ (.int .i64 a2_1))) := ⟨by repeat (first | (with_reducible first | exact HB.out | apply below_alloc | apply pw_below_drewN | apply below_drew1 | refine below_set ?_ GE224.out | refine below_set ?_ GE225.out | refine below_set ?_ GE226.out | refine below_set ?_ GE227.out | refine below_set ?_ GE228.out) | exact HB.out)⟩
    (try clear BK224)
    (try clear BK225)
    (try clear BK226)
    (try clear BK227)
    (try clear BK228)
    (try clear HB)
    generalize ((((w11.setCell ⟨gb227, 0, none⟩ (.int .i64 a1_0)).setCell ⟨gb227, 1, none⟩ (.int .i64 a1_1)).setCell ⟨gb228, 0, none⟩ (.int .i64 a2_0)).setCell ⟨gb228, 1, none⟩ (.int .i64 a2_1)) = w23 at n0_ n1_ n2_ n3_ n4_ n5_ ⊢
    have BK224 := n0_;have BK225 := n1_;have BK226 := n2_;have BK227 := n3_;have BK228 := n4_;have HB := n5_;clear n0_ n1_ n2_ n3_ n4_ n5_;have n0_ := Aside0.mk (blk_drew BK224.out);have n1_ := Aside0.mk (blk_drew BK225.out);have n2_ := Aside0.mk (blk_drew BK226.out);have n3_ := Aside0.mk (blk_drew BK227.out);have n4_ := Aside0.mk (blk_drew BK228.out);have n5_ := Aside0.mk (below_drew1 HB.out);clear BK224;clear BK225;clear BK226;clear BK227;clear BK228;clear HB;have BK224 := n0_;have BK225 := n1_;have BK226 := n2_;have BK227 := n3_;have BK228 := n4_;have HB := n5_;clear n0_ n1_ n2_ n3_ n4_ n5_
    refine start_ (n := 16) (S := fun w' => w'.cell? ⟨gb224, 0, none⟩ = some (.int .i64 a1_0) ∧ w'.cell? ⟨gb224, 1, none⟩ = some (.int .i64 a1_1) ∧ w'.cell? ⟨gb225, 0, none⟩ = some (.int .i64 a2_0) ∧ w'.cell? ⟨gb225, 1, none⟩ = some (.int .i64 a2_1) ∧ w'.cell? ⟨gb228, 0, none⟩ = some (.int .i64 a2_0) ∧ w'.cell? ⟨gb228, 1, none⟩ = some (.int .i64 a2_1)) (ds := []) #[false, false, false, false, false, false, false, false, false, false, false, false, false, false, false, false] (by kernel_rfl) rfl rfl ⟨(blk_cell BK224.out 0).trans rfl, (blk_cell BK224.out 1).trans rfl, (blk_cell BK225.out 0).trans rfl, (blk_cell BK225.out 1).trans rfl, (blk_cell BK228.out 0).trans rfl, (blk_cell BK228.out 1).trans rfl⟩ (fun hHeld => ?_); refine with_tabW integers_RangeOf.tab2 integers_RangeOf.bits2 (fun HT_ HW_ => ?_)
    generalize w23.drew = w24 at BK224 BK225 BK226 BK227 BK228 HB hHeld ⊢
    refine pure_ (i := 0) (N := some 22) (v := ?_) (a' := ?_) #[true, false, false, false, false, false, false, false, false, false, false, false, false, false, false, false] rfl rfl (any_of HT_.out (by kernel_rfl)) (fun _ _ _ h => h) (Or.inl ⟨by rfl, ?_⟩) ?_ ?_
    rotate_left
    ·intro w'
     go_simp
     with_reducible rfl
    rotate_left
    ·simp only [Act.put, List.setIfInBounds_toArray, List.set_cons_zero, List.set_cons_succ, i64_w, i32_w]
     rfl
    refine pure_ (i := 6) (N := some 28) (v := ?_) (a' := ?_) #[true, false, false, false, false, false, true, false, false, false, false, false, false, false, false, false] rfl rfl (any_of HT_.out (by kernel_rfl)) (fun _ _ _ h => h) (Or.inl ⟨by rfl, ?_⟩) ?_ ?_
    rotate_left
    ·intro w'
     go_simp
     with_reducible rfl
    rotate_left
    ·simp only [Act.put, List.setIfInBounds_toArray, List.set_cons_zero, List.set_cons_succ, i64_w, i32_w]
     rfl
    refine take_ (i := 2) (N := some 24) (v := ?_) (a' := ?_) #[true, false, true, false, false, false, true, false, false, false, false, false, false, false, false, false] rfl rfl (take_ofW HT_.out HW_.out (by kernel_rfl)) (fun _ _ _ h => h) (Or.inl ⟨by rfl, ?_⟩) hHeld ?_ ?_
    rotate_left
    ·rintro w' ⟨s0, s1, s2, s3, s4, s5⟩
     go_simp
     with_reducible rfl
    rotate_left
    ·simp only [Act.put, List.setIfInBounds_toArray, List.set_cons_zero, List.set_cons_succ, i64_w, i32_w]
     rfl
    refine take_ (i := 4) (N := some 26) (v := ?_) (a' := ?_) #[true, false, true, false, true, false, true, false, false, false, false, false, false, false, false, false] rfl rfl (take_ofW HT_.out HW_.out (by kernel_rfl)) (fun _ _ _ h => h) (Or.inl ⟨by rfl, ?_⟩) hHeld ?_ ?_
    rotate_left
    ·rintro w' ⟨s0, s1, s2, s3, s4, s5⟩
     go_simp
     with_reducible rfl
    rotate_left
    ·simp only [Act.put, List.setIfInBounds_toArray, List.set_cons_zero, List.set_cons_succ, i64_w, i32_w]
     rfl
    refine one_ (i := 1) (N := some 23) #[true, true, true, false, true, false, true, false, false, false, false, false, false, false, false, false] rfl rfl (one_of HT_.out (by kernel_rfl)) (by decide) (fun K hK => ?_)
    refine goes_ Try.func52 (by kernel_rfl) rfl #[.int .i64 0, .int .i64 a0, .int .i64 9] (by rfl) rfl rfl (by (try simp only [List.map_toArray, List.map_cons, List.map_nil]); first | done | rfl) ?_
    with_reducible refine (integers_check_kind.calls 0 a0 9 t229 _ A16.out).mono ?_
    rintro e w' ⟨rfl, ⟨nd, rfl⟩⟩
    refine ⟨_, rfl, ?_⟩
    refine hK.out _ _ ⟨(blk_cell BK224.out 0).trans rfl, (blk_cell BK224.out 1).trans rfl, (blk_cell BK225.out 0).trans rfl, (blk_cell BK225.out 1).trans rfl, (blk_cell BK228.out 0).trans rfl, (blk_cell BK228.out 1).trans rfl⟩ (fun hHeld => ?_)
    clear hK K
    refine norm_ (a' := ?_) ?_ ?_
    rotate_left
    ·show Act.put _ (some 23) _ = _
     simp only [Act.put, List.setIfInBounds_toArray, List.set_cons_zero, List.set_cons_succ, i64_w, i32_w]
     rfl
    refine one_ (i := 3) (N := some 25) #[true, true, true, true, true, false, true, false, false, false, false, false, false, false, false, false] rfl rfl (one_of HT_.out (by kernel_rfl)) (by decide) (fun K hK => ?_)
    refine goes_ Try.func60 (by kernel_rfl) rfl #[.int .i64 t229, .agg #[.int .i64 a1_0, .int .i64 a1_1]] (by rfl) rfl rfl (by (try simp only [List.map_toArray, List.map_cons, List.map_nil]); first | done | rfl) ?_
    with_reducible refine (integers_check_span.calls k t229 a1_0 a1_1 t230 _ A17.out).mono ?_
    rintro e w25 ⟨rfl, hb⟩
    refine ⟨_, rfl, ?_⟩
    have n0_ := Aside0.mk (blk_below (g := gb224) (o := .cells #[.int .i64 a1_0, .int .i64 a1_1] 35 (0, 0)) (bk BK224.out) hb);have n1_ := Aside0.mk (blk_below (g := gb225) (o := .cells #[.int .i64 a2_0, .int .i64 a2_1] 35 (0, 0)) (bk BK225.out) hb);have n2_ := Aside0.mk (blk_below (g := gb226) (o := .cells #[.int .i64 0, .int .i64 0] 35 (0, 0)) (bk BK226.out) hb);have n3_ := Aside0.mk (blk_below (g := gb227) (o := .cells #[.int .i64 a1_0, .int .i64 a1_1] 82 (0, 0)) (bk BK227.out) hb);have n4_ := Aside0.mk (blk_below (g := gb228) (o := .cells #[.int .i64 a2_0, .int .i64 a2_1] 82 (0, 0)) (bk BK228.out) hb)
    have n5_ := Aside0.mk (below_step (by repeat (first | (with_reducible first | exact HB.out | apply below_alloc | apply pw_below_drewN | apply below_drew1 | refine below_set ?_ GE224.out | refine below_set ?_ GE225.out | refine below_set ?_ GE226.out | refine below_set ?_ GE227.out | refine below_set ?_ GE228.out) | exact HB.out)) hb)
    clear BK224;clear BK225;clear BK226;clear BK227;clear BK228;clear HB;have BK224 := n0_;have BK225 := n1_;have BK226 := n2_;have BK227 := n3_;have BK228 := n4_;have HB := n5_;clear n0_ n1_ n2_ n3_ n4_ n5_
    (try clear hb)
    (try clear hb2)
    (try clear hk)
    (try clear hi)
    refine hK.out _ _ ⟨(blk_cell BK224.out 0).trans rfl, (blk_cell BK224.out 1).trans rfl, (blk_cell BK225.out 0).trans rfl, (blk_cell BK225.out 1).trans rfl, (blk_cell BK228.out 0).trans rfl, (blk_cell BK228.out 1).trans rfl⟩ (fun hHeld => ?_)
    clear hK K
    refine norm_ (a' := ?_) ?_ ?_
    rotate_left
    ·show Act.put _ (some 25) _ = _
     simp only [Act.put, List.setIfInBounds_toArray, List.set_cons_zero, List.set_cons_succ, i64_w, i32_w]
     rfl
    refine one_ (i := 5) (N := some 27) #[true, true, true, true, true, true, true, false, false, false, false, false, false, false, false, false] rfl rfl (one_of HT_.out (by kernel_rfl)) (by decide) (fun K hK => ?_)
    refine goes_ Try.func60 (by kernel_rfl) rfl #[.int .i64 t230, .agg #[.int .i64 a2_0, .int .i64 a2_1]] (by rfl) rfl rfl (by (try simp only [List.map_toArray, List.map_cons, List.map_nil]); first | done | rfl) ?_
    with_reducible refine (integers_check_span.calls k t230 a2_0 a2_1 t231 _ A18.out).mono ?_
    rintro e w26 ⟨rfl, hb⟩
    refine ⟨_, rfl, ?_⟩
    have n0_ := Aside0.mk (blk_below (g := gb224) (o := .cells #[.int .i64 a1_0, .int .i64 a1_1] 35 (0, 0)) (bk BK224.out) hb);have n1_ := Aside0.mk (blk_below (g := gb225) (o := .cells #[.int .i64 a2_0, .int .i64 a2_1] 35 (0, 0)) (bk BK225.out) hb);have n2_ := Aside0.mk (blk_below (g := gb226) (o := .cells #[.int .i64 0, .int .i64 0] 35 (0, 0)) (bk BK226.out) hb);have n3_ := Aside0.mk (blk_below (g := gb227) (o := .cells #[.int .i64 a1_0, .int .i64 a1_1] 82 (0, 0)) (bk BK227.out) hb);have n4_ := Aside0.mk (blk_below (g := gb228) (o := .cells #[.int .i64 a2_0, .int .i64 a2_1] 82 (0, 0)) (bk BK228.out) hb)
    have n5_ := Aside0.mk (below_step (by repeat (first | (with_reducible first | exact HB.out | apply below_alloc | apply pw_below_drewN | apply below_drew1 | refine below_set ?_ GE224.out | refine below_set ?_ GE225.out | refine below_set ?_ GE226.out | refine below_set ?_ GE227.out | refine below_set ?_ GE228.out) | exact HB.out)) hb)
    clear BK224;clear BK225;clear BK226;clear BK227;clear BK228;clear HB;have BK224 := n0_;have BK225 := n1_;have BK226 := n2_;have BK227 := n3_;have BK228 := n4_;have HB := n5_;clear n0_ n1_ n2_ n3_ n4_ n5_
    (try clear hb)
    (try clear hb2)
    (try clear hk)
    (try clear hi)
    refine hK.out _ _ ⟨(blk_cell BK224.out 0).trans rfl, (blk_cell BK224.out 1).trans rfl, (blk_cell BK225.out 0).trans rfl, (blk_cell BK225.out 1).trans rfl, (blk_cell BK228.out 0).trans rfl, (blk_cell BK228.out 1).trans rfl⟩ (fun hHeld => ?_)
    clear hK K
    refine norm_ (a' := ?_) ?_ ?_
    rotate_left
    ·show Act.put _ (some 27) _ = _
     simp only [Act.put, List.setIfInBounds_toArray, List.set_cons_zero, List.set_cons_succ, i64_w, i32_w]
     rfl
    refine one_ (i := 7) (N := some 29) #[true, true, true, true, true, true, true, true, false, false, false, false, false, false, false, false] rfl rfl (one_of HT_.out (by kernel_rfl)) (by decide) (fun K hK => ?_)
    refine goes_ Try.func61 (by kernel_rfl) rfl #[.int .i64 a0] (by rfl) rfl rfl (by (try simp only [List.map_toArray, List.map_cons, List.map_nil]); first | done | rfl) ?_
    with_reducible refine (integers_divides.calls a0 true _ A19.out).mono ?_
    rintro e w' ⟨rfl, ⟨nd, rfl⟩⟩
    refine ⟨_, rfl, ?_⟩
    refine hK.out _ _ ⟨(blk_cell BK224.out 0).trans rfl, (blk_cell BK224.out 1).trans rfl, (blk_cell BK225.out 0).trans rfl, (blk_cell BK225.out 1).trans rfl, (blk_cell BK228.out 0).trans rfl, (blk_cell BK228.out 1).trans rfl⟩ (fun hHeld => ?_)
    clear hK K
    refine norm_ (a' := ?_) ?_ ?_
    rotate_left
    ·show Act.put _ (some 29) _ = _
     simp only [Act.put, List.setIfInBounds_toArray, List.set_cons_zero, List.set_cons_succ, i64_w, i32_w]
     rfl
    refine pure_ (i := 8) (N := some 30) (v := ?_) (a' := ?_) #[true, true, true, true, true, true, true, true, true, false, false, false, false, false, false, false] rfl rfl (any_of HT_.out (by kernel_rfl)) (fun _ _ _ h => h) (Or.inl ⟨by rfl, ?_⟩) ?_ ?_
    rotate_left
    ·intro w'
     go_simp
     with_reducible rfl
    rotate_left
    ·simp only [Act.put, List.setIfInBounds_toArray, List.set_cons_zero, List.set_cons_succ, i64_w, i32_w]
     rfl
    refine pure_ (i := 9) (N := some 31) (v := ?_) (a' := ?_) #[true, true, true, true, true, true, true, true, true, true, false, false, false, false, false, false] rfl rfl (any_of HT_.out (by kernel_rfl)) (fun _ _ _ h => h) (Or.inl ⟨by rfl, ?_⟩) ?_ ?_
    rotate_left
    ·intro w'
     go_simp
     with_reducible rfl
    rotate_left
    ·simp only [Act.put, List.setIfInBounds_toArray, List.set_cons_zero, List.set_cons_succ, i64_w, i32_w]
     rfl
    refine take_ (i := 10) (N := some 32) (v := ?_) (a' := ?_) #[true, true, true, true, true, true, true, true, true, true, true, false, false, false, false, false] rfl rfl (take_ofW HT_.out HW_.out (by kernel_rfl)) (fun _ _ _ h => h) (Or.inl ⟨by rfl, ?_⟩) hHeld ?_ ?_
    rotate_left
    ·rintro w' ⟨s0, s1, s2, s3, s4, s5⟩
     go_simp
     with_reducible rfl
    rotate_left
    ·simp only [Act.put, List.setIfInBounds_toArray, List.set_cons_zero, List.set_cons_succ, i64_w, i32_w]
     rfl
    refine one_ (i := 11) (N := some 33) #[true, true, true, true, true, true, true, true, true, true, true, true, false, false, false, false] rfl rfl (one_of HT_.out (by kernel_rfl)) (by decide) (fun K hK => ?_)
    refine goes_ Try.func62 (by kernel_rfl) rfl #[.agg #[.int .i64 a2_0, .int .i64 a2_1], .int .i64 0] (by rfl) rfl rfl (by (try simp only [List.map_toArray, List.map_cons, List.map_nil]); first | done | rfl) ?_
    with_reducible refine (integers_span_contains.calls a2_0 a2_1 0 t233 _ A21.out).mono ?_
    rintro e w27 ⟨rfl, hb⟩
    refine ⟨_, rfl, ?_⟩
    have n0_ := Aside0.mk (blk_below (g := gb224) (o := .cells #[.int .i64 a1_0, .int .i64 a1_1] 35 (0, 0)) (bk BK224.out) hb);have n1_ := Aside0.mk (blk_below (g := gb225) (o := .cells #[.int .i64 a2_0, .int .i64 a2_1] 35 (0, 0)) (bk BK225.out) hb);have n2_ := Aside0.mk (blk_below (g := gb226) (o := .cells #[.int .i64 0, .int .i64 0] 35 (0, 0)) (bk BK226.out) hb);have n3_ := Aside0.mk (blk_below (g := gb227) (o := .cells #[.int .i64 a1_0, .int .i64 a1_1] 82 (0, 0)) (bk BK227.out) hb);have n4_ := Aside0.mk (blk_below (g := gb228) (o := .cells #[.int .i64 a2_0, .int .i64 a2_1] 82 (0, 0)) (bk BK228.out) hb)
    have n5_ := Aside0.mk (below_step (by repeat (first | (with_reducible first | exact HB.out | apply below_alloc | apply pw_below_drewN | apply below_drew1 | refine below_set ?_ GE224.out | refine below_set ?_ GE225.out | refine below_set ?_ GE226.out | refine below_set ?_ GE227.out | refine below_set ?_ GE228.out) | exact HB.out)) hb)
    clear BK224;clear BK225;clear BK226;clear BK227;clear BK228;clear HB;have BK224 := n0_;have BK225 := n1_;have BK226 := n2_;have BK227 := n3_;have BK228 := n4_;have HB := n5_;clear n0_ n1_ n2_ n3_ n4_ n5_
    (try clear hb)
    (try clear hb2)
    (try clear hk)
    (try clear hi)
    refine hK.out _ _ ⟨(blk_cell BK224.out 0).trans rfl, (blk_cell BK224.out 1).trans rfl, (blk_cell BK225.out 0).trans rfl, (blk_cell BK225.out 1).trans rfl, (blk_cell BK228.out 0).trans rfl, (blk_cell BK228.out 1).trans rfl⟩ (fun hHeld => ?_)
    clear hK K
    refine norm_ (a' := ?_) ?_ ?_
    rotate_left
    ·show Act.put _ (some 33) _ = _
     simp only [Act.put, List.setIfInBounds_toArray, List.set_cons_zero, List.set_cons_succ, i64_w, i32_w]
     rfl
    refine pure_ (i := 12) (N := some 34) (v := ?_) (a' := ?_) #[true, true, true, true, true, true, true, true, true, true, true, true, true, false, false, false] rfl rfl (any_of HT_.out (by kernel_rfl)) (fun _ _ _ h => h) (Or.inl ⟨by rfl, ?_⟩) ?_ ?_
    rotate_left
    ·intro w'
     go_simp
     with_reducible rfl
    rotate_left
    ·simp only [Act.put, List.setIfInBounds_toArray, List.set_cons_zero, List.set_cons_succ, i64_w, i32_w]
     rfl
    refine pure_ (i := 13) (N := some 35) (v := ?_) (a' := ?_) #[true, true, true, true, true, true, true, true, true, true, true, true, true, true, false, false] rfl rfl (any_of HT_.out (by kernel_rfl)) (fun _ _ _ h => h) (Or.inl ⟨by rfl, ?_⟩) ?_ ?_
    rotate_left
    ·intro w'
     go_simp
     with_reducible rfl
    rotate_left
    ·simp only [Act.put, List.setIfInBounds_toArray, List.set_cons_zero, List.set_cons_succ, i64_w, i32_w]
     rfl
    refine one_ (i := 14) (N := some 36) #[true, true, true, true, true, true, true, true, true, true, true, true, true, true, true, false] rfl rfl (one_of HT_.out (by kernel_rfl)) (by decide) (fun K hK => ?_)
    refine goes_ Try.func48 (by kernel_rfl) rfl #[.int .i64 t231, .bool (!t233), .int .i64 11] (by rfl) rfl rfl (by (try simp only [List.map_toArray, List.map_cons, List.map_nil]); first | done | rfl) ?_
    with_reducible refine (integers_check_want.calls t231 (!t233) 11 t234 _ A22.out).mono ?_
    rintro e w' ⟨rfl, ⟨nd, rfl⟩⟩
    refine ⟨_, rfl, ?_⟩
    refine hK.out _ _ ⟨(blk_cell BK224.out 0).trans rfl, (blk_cell BK224.out 1).trans rfl, (blk_cell BK225.out 0).trans rfl, (blk_cell BK225.out 1).trans rfl, (blk_cell BK228.out 0).trans rfl, (blk_cell BK228.out 1).trans rfl⟩ (fun hHeld => ?_)
    clear hK K
    refine norm_ (a' := ?_) ?_ ?_
    rotate_left
    ·show Act.put _ (some 36) _ = _
     simp only [Act.put, List.setIfInBounds_toArray, List.set_cons_zero, List.set_cons_succ, i64_w, i32_w]
     rfl
    refine pure_ (i := 15) (N := some 10) (v := ?_) (a' := ?_) #[true, true, true, true, true, true, true, true, true, true, true, true, true, true, true, true] rfl rfl (any_of HT_.out (by kernel_rfl)) (fun _ _ _ h => h) (Or.inl ⟨by rfl, ?_⟩) ?_ ?_
    rotate_left
    ·intro w'
     go_simp
     with_reducible rfl
    rotate_left
    ·simp only [Act.put, List.setIfInBounds_toArray, List.set_cons_zero, List.set_cons_succ, i64_w, i32_w]
     rfl
    refine done_ (done_of HT_.out (by kernel_rfl)) ?_
    try go_wp2
    go_meet
    case rel => exact ⟨_, (t234), (by first | rfl | (simp; done) | (simp [*]; done)), H', ⟨by first | omega | exact Nat.le_refl _⟩, ⟨bk BK224.out⟩, ⟨bk BK225.out⟩, ⟨bk BK226.out⟩, ⟨bk BK227.out⟩, ⟨bk BK228.out⟩, ⟨by repeat (first | (with_reducible first | exact HB.out | apply below_alloc | apply pw_below_drewN | apply below_drew1 | refine below_set ?_ GE224.out | refine below_set ?_ GE225.out | refine below_set ?_ GE226.out | refine below_set ?_ GE227.out | refine below_set ?_ GE228.out) | exact HB.out)⟩⟩
  ·replace c20 := Bool.eq_false_iff.mpr c20
   subst c20
   have H1 : ((integers_check_want.f t231 true 11).bind fun t235 => (integers_RangeOf.j0 k a0 t235 a1_0 a1_1 a2_0 a2_1)) = some (r1, r2, r3) := by rw [if_neg (show ¬ (false = true) by decide)] at H; exact H
   clear H;have H := H1;clear H1;replace H := Option.bind_eq_some_iff.mp H;obtain ⟨t235, A280, H⟩ := H
   try dsimp only at H
   have A28 := Aside0.mk A280;clear A280
   as_aux_lemma =>
    have H' := Aside0.mk H
    clear H
    try go_wp2
    have n0_ : Aside0 (((((w11.setCell ⟨gb227, 0, none⟩ (.int .i64 a1_0)).setCell ⟨gb227, 1, none⟩ (.int .i64 a1_1)).setCell ⟨gb228, 0, none⟩ (.int .i64 a2_0)).setCell ⟨gb228, 1, none⟩ (.int .i64 a2_1)).heap[gb224]? = some (.cells #[.int .i64 a1_0, .int .i64 a1_1] 35 (0, 0))) := ⟨by refine bk (blk_far ?_ NB224_228.out _); refine bk (blk_far ?_ NB224_228.out _); refine bk (blk_far ?_ NB224_227.out _); refine bk (blk_far ?_ NB224_227.out _); exact bk BK224.out⟩
    have n1_ : Aside0 (((((w11.setCell ⟨gb227, 0, none⟩ (.int .i64 a1_0)).setCell ⟨gb227, 1, none⟩ (.int .i64 a1_1)).setCell ⟨gb228, 0, none⟩ (.int .i64 a2_0)).setCell ⟨gb228, 1, none⟩ (.int .i64 a2_1)).heap[gb225]? = some (.cells #[.int .i64 a2_0, .int .i64 a2_1] 35 (0, 0))) := ⟨by refine bk (blk_far ?_ NB225_228.out _); refine bk (blk_far ?_ NB225_228.out _); refine bk (blk_far ?_ NB225_227.out _); refine bk (blk_far ?_ NB225_227.out _); exact bk BK225.out⟩
    have n2_ : Aside0 (((((w11.setCell ⟨gb227, 0, none⟩ (.int .i64 a1_0)).setCell ⟨gb227, 1, none⟩ (.int .i64 a1_1)).setCell ⟨gb228, 0, none⟩ (.int .i64 a2_0)).setCell ⟨gb228, 1, none⟩ (.int .i64 a2_1)).heap[gb226]? = some (.cells #[.int .i64 0, .int .i64 0] 35 (0, 0))) := ⟨by refine bk (blk_far ?_ NB226_228.out _); refine bk (blk_far ?_ NB226_228.out _); refine bk (blk_far ?_ NB226_227.out _); refine bk (blk_far ?_ NB226_227.out _); exact bk BK226.out⟩
    have n3_ : Aside0 (((((w11.setCell ⟨gb227, 0, none⟩ (.int .i64 a1_0)).setCell ⟨gb227, 1, none⟩ (.int .i64 a1_1)).setCell ⟨gb228, 0, none⟩ (.int .i64 a2_0)).setCell ⟨gb228, 1, none⟩ (.int .i64 a2_1)).heap[gb227]? = some (.cells #[.int .i64 a1_0, .int .i64 a1_1] 82 (0, 0))) := ⟨by refine bk (blk_far ?_ NB227_228.out _); refine bk (blk_far ?_ NB227_228.out _); refine bk (blk_put (cs := #[.int .i64 a1_0, .int .i64 0]) ?_ 1 _ rfl); refine bk (blk_put (cs := #[.int .i64 0, .int .i64 0]) ?_ 0 _ rfl); exact bk BK227.out⟩
    have n4_ : Aside0 (((((w11.setCell ⟨gb227, 0, none⟩ (.int .i64 a1_0)).setCell ⟨gb227, 1, none⟩ (.int .i64 a1_1)).setCell ⟨gb228, 0, none⟩ (.int .i64 a2_0)).setCell ⟨gb228, 1, none⟩ (.int .i64 a2_1)).heap[gb228]? = some (.cells #[.int .i64 a2_0, .int .i64 a2_1] 82 (0, 0))) := ⟨by refine bk (blk_put (cs := #[.int .i64 a2_0, .int .i64 0]) ?_ 1 _ rfl); refine bk (blk_put (cs := #[.int .i64 0, .int .i64 0]) ?_ 0 _ rfl); refine bk (blk_far ?_ NB228_227.out _); refine bk (blk_far ?_ NB228_227.out _); exact bk BK228.out⟩
    have n5_ : Aside0 (Below w.heap.size w ((((w11.setCell ⟨gb227, 0, none⟩ (.int .i64 a1_0)).setCell ⟨gb227, 1, none⟩ (.int .i64 a1_1)).setCell ⟨gb228, 0, none⟩ (.int .i64 a2_0)).setCell ⟨gb228, 1, none⟩ (.int .i64 a2_1))) := ⟨by repeat (first | (with_reducible first | exact HB.out | apply below_alloc | apply pw_below_drewN | apply below_drew1 | refine below_set ?_ GE224.out | refine below_set ?_ GE225.out | refine below_set ?_ GE226.out | refine below_set ?_ GE227.out | refine below_set ?_ GE228.out) | exact HB.out)⟩
    (try clear BK224)
    (try clear BK225)
    (try clear BK226)
    (try clear BK227)
    (try clear BK228)
    (try clear HB)
    generalize ((((w11.setCell ⟨gb227, 0, none⟩ (.int .i64 a1_0)).setCell ⟨gb227, 1, none⟩ (.int .i64 a1_1)).setCell ⟨gb228, 0, none⟩ (.int .i64 a2_0)).setCell ⟨gb228, 1, none⟩ (.int .i64 a2_1)) = w29 at n0_ n1_ n2_ n3_ n4_ n5_ ⊢
    have BK224 := n0_;have BK225 := n1_;have BK226 := n2_;have BK227 := n3_;have BK228 := n4_;have HB := n5_;clear n0_ n1_ n2_ n3_ n4_ n5_;have n0_ := Aside0.mk (blk_drew BK224.out);have n1_ := Aside0.mk (blk_drew BK225.out);have n2_ := Aside0.mk (blk_drew BK226.out);have n3_ := Aside0.mk (blk_drew BK227.out);have n4_ := Aside0.mk (blk_drew BK228.out);have n5_ := Aside0.mk (below_drew1 HB.out);clear BK224;clear BK225;clear BK226;clear BK227;clear BK228;clear HB;have BK224 := n0_;have BK225 := n1_;have BK226 := n2_;have BK227 := n3_;have BK228 := n4_;have HB := n5_;clear n0_ n1_ n2_ n3_ n4_ n5_
    refine start_ (n := 16) (S := fun w' => w'.cell? ⟨gb224, 0, none⟩ = some (.int .i64 a1_0) ∧ w'.cell? ⟨gb224, 1, none⟩ = some (.int .i64 a1_1) ∧ w'.cell? ⟨gb225, 0, none⟩ = some (.int .i64 a2_0) ∧ w'.cell? ⟨gb225, 1, none⟩ = some (.int .i64 a2_1)) (ds := []) #[false, false, false, false, false, false, false, false, false, false, false, false, false, false, false, false] (by kernel_rfl) rfl rfl ⟨(blk_cell BK224.out 0).trans rfl, (blk_cell BK224.out 1).trans rfl, (blk_cell BK225.out 0).trans rfl, (blk_cell BK225.out 1).trans rfl⟩ (fun hHeld => ?_); refine with_tabW integers_RangeOf.tab2 integers_RangeOf.bits2 (fun HT_ HW_ => ?_)
    generalize w29.drew = w30 at BK224 BK225 BK226 BK227 BK228 HB hHeld ⊢
    refine pure_ (i := 0) (N := some 22) (v := ?_) (a' := ?_) #[true, false, false, false, false, false, false, false, false, false, false, false, false, false, false, false] rfl rfl (any_of HT_.out (by kernel_rfl)) (fun _ _ _ h => h) (Or.inl ⟨by rfl, ?_⟩) ?_ ?_
    rotate_left
    ·intro w'
     go_simp
     with_reducible rfl
    rotate_left
    ·simp only [Act.put, List.setIfInBounds_toArray, List.set_cons_zero, List.set_cons_succ, i64_w, i32_w]
     rfl
    refine pure_ (i := 6) (N := some 28) (v := ?_) (a' := ?_) #[true, false, false, false, false, false, true, false, false, false, false, false, false, false, false, false] rfl rfl (any_of HT_.out (by kernel_rfl)) (fun _ _ _ h => h) (Or.inl ⟨by rfl, ?_⟩) ?_ ?_
    rotate_left
    ·intro w'
     go_simp
     with_reducible rfl
    rotate_left
    ·simp only [Act.put, List.setIfInBounds_toArray, List.set_cons_zero, List.set_cons_succ, i64_w, i32_w]
     rfl
    refine take_ (i := 2) (N := some 24) (v := ?_) (a' := ?_) #[true, false, true, false, false, false, true, false, false, false, false, false, false, false, false, false] rfl rfl (take_ofW HT_.out HW_.out (by kernel_rfl)) (fun _ _ _ h => h) (Or.inl ⟨by rfl, ?_⟩) hHeld ?_ ?_
    rotate_left
    ·rintro w' ⟨s0, s1, s2, s3⟩
     go_simp
     with_reducible rfl
    rotate_left
    ·simp only [Act.put, List.setIfInBounds_toArray, List.set_cons_zero, List.set_cons_succ, i64_w, i32_w]
     rfl
    refine take_ (i := 4) (N := some 26) (v := ?_) (a' := ?_) #[true, false, true, false, true, false, true, false, false, false, false, false, false, false, false, false] rfl rfl (take_ofW HT_.out HW_.out (by kernel_rfl)) (fun _ _ _ h => h) (Or.inl ⟨by rfl, ?_⟩) hHeld ?_ ?_
    rotate_left
    ·rintro w' ⟨s0, s1, s2, s3⟩
     go_simp
     with_reducible rfl
    rotate_left
    ·simp only [Act.put, List.setIfInBounds_toArray, List.set_cons_zero, List.set_cons_succ, i64_w, i32_w]
     rfl
    refine one_ (i := 1) (N := some 23) #[true, true, true, false, true, false, true, false, false, false, false, false, false, false, false, false] rfl rfl (one_of HT_.out (by kernel_rfl)) (by decide) (fun K hK => ?_)
    refine goes_ Try.func52 (by kernel_rfl) rfl #[.int .i64 0, .int .i64 a0, .int .i64 9] (by rfl) rfl rfl (by (try simp only [List.map_toArray, List.map_cons, List.map_nil]); first | done | rfl) ?_
    with_reducible refine (integers_check_kind.calls 0 a0 9 t229 _ A16.out).mono ?_
    rintro e w' ⟨rfl, ⟨nd, rfl⟩⟩
    refine ⟨_, rfl, ?_⟩
    refine hK.out _ _ ⟨(blk_cell BK224.out 0).trans rfl, (blk_cell BK224.out 1).trans rfl, (blk_cell BK225.out 0).trans rfl, (blk_cell BK225.out 1).trans rfl⟩ (fun hHeld => ?_)
    clear hK K
    refine norm_ (a' := ?_) ?_ ?_
    rotate_left
    ·show Act.put _ (some 23) _ = _
     simp only [Act.put, List.setIfInBounds_toArray, List.set_cons_zero, List.set_cons_succ, i64_w, i32_w]
     rfl
    refine one_ (i := 3) (N := some 25) #[true, true, true, true, true, false, true, false, false, false, false, false, false, false, false, false] rfl rfl (one_of HT_.out (by kernel_rfl)) (by decide) (fun K hK => ?_)
    refine goes_ Try.func60 (by kernel_rfl) rfl #[.int .i64 t229, .agg #[.int .i64 a1_0, .int .i64 a1_1]] (by rfl) rfl rfl (by (try simp only [List.map_toArray, List.map_cons, List.map_nil]); first | done | rfl) ?_
    with_reducible refine (integers_check_span.calls k t229 a1_0 a1_1 t230 _ A17.out).mono ?_
    rintro e w31 ⟨rfl, hb⟩
    refine ⟨_, rfl, ?_⟩
    have n0_ := Aside0.mk (blk_below (g := gb224) (o := .cells #[.int .i64 a1_0, .int .i64 a1_1] 35 (0, 0)) (bk BK224.out) hb);have n1_ := Aside0.mk (blk_below (g := gb225) (o := .cells #[.int .i64 a2_0, .int .i64 a2_1] 35 (0, 0)) (bk BK225.out) hb);have n2_ := Aside0.mk (blk_below (g := gb226) (o := .cells #[.int .i64 0, .int .i64 0] 35 (0, 0)) (bk BK226.out) hb);have n3_ := Aside0.mk (blk_below (g := gb227) (o := .cells #[.int .i64 a1_0, .int .i64 a1_1] 82 (0, 0)) (bk BK227.out) hb);have n4_ := Aside0.mk (blk_below (g := gb228) (o := .cells #[.int .i64 a2_0, .int .i64 a2_1] 82 (0, 0)) (bk BK228.out) hb)
    have n5_ := Aside0.mk (below_step (by repeat (first | (with_reducible first | exact HB.out | apply below_alloc | apply pw_below_drewN | apply below_drew1 | refine below_set ?_ GE224.out | refine below_set ?_ GE225.out | refine below_set ?_ GE226.out | refine below_set ?_ GE227.out | refine below_set ?_ GE228.out) | exact HB.out)) hb)
    clear BK224;clear BK225;clear BK226;clear BK227;clear BK228;clear HB;have BK224 := n0_;have BK225 := n1_;have BK226 := n2_;have BK227 := n3_;have BK228 := n4_;have HB := n5_;clear n0_ n1_ n2_ n3_ n4_ n5_
    (try clear hb)
    (try clear hb2)
    (try clear hk)
    (try clear hi)
    refine hK.out _ _ ⟨(blk_cell BK224.out 0).trans rfl, (blk_cell BK224.out 1).trans rfl, (blk_cell BK225.out 0).trans rfl, (blk_cell BK225.out 1).trans rfl⟩ (fun hHeld => ?_)
    clear hK K
    refine norm_ (a' := ?_) ?_ ?_
    rotate_left
    ·show Act.put _ (some 25) _ = _
     simp only [Act.put, List.setIfInBounds_toArray, List.set_cons_zero, List.set_cons_succ, i64_w, i32_w]
     rfl
    refine one_ (i := 5) (N := some 27) #[true, true, true, true, true, true, true, false, false, false, false, false, false, false, false, false] rfl rfl (one_of HT_.out (by kernel_rfl)) (by decide) (fun K hK => ?_)
    refine goes_ Try.func60 (by kernel_rfl) rfl #[.int .i64 t230, .agg #[.int .i64 a2_0, .int .i64 a2_1]] (by rfl) rfl rfl (by (try simp only [List.map_toArray, List.map_cons, List.map_nil]); first | done | rfl) ?_
    with_reducible refine (integers_check_span.calls k t230 a2_0 a2_1 t231 _ A18.out).mono ?_
    rintro e w32 ⟨rfl, hb⟩
    refine ⟨_, rfl, ?_⟩
    have n0_ := Aside0.mk (blk_below (g := gb224) (o := .cells #[.int .i64 a1_0, .int .i64 a1_1] 35 (0, 0)) (bk BK224.out) hb);have n1_ := Aside0.mk (blk_below (g := gb225) (o := .cells #[.int .i64 a2_0, .int .i64 a2_1] 35 (0, 0)) (bk BK225.out) hb);have n2_ := Aside0.mk (blk_below (g := gb226) (o := .cells #[.int .i64 0, .int .i64 0] 35 (0, 0)) (bk BK226.out) hb);have n3_ := Aside0.mk (blk_below (g := gb227) (o := .cells #[.int .i64 a1_0, .int .i64 a1_1] 82 (0, 0)) (bk BK227.out) hb);have n4_ := Aside0.mk (blk_below (g := gb228) (o := .cells #[.int .i64 a2_0, .int .i64 a2_1] 82 (0, 0)) (bk BK228.out) hb)
    have n5_ := Aside0.mk (below_step (by repeat (first | (with_reducible first | exact HB.out | apply below_alloc | apply pw_below_drewN | apply below_drew1 | refine below_set ?_ GE224.out | refine below_set ?_ GE225.out | refine below_set ?_ GE226.out | refine below_set ?_ GE227.out | refine below_set ?_ GE228.out) | exact HB.out)) hb)
    clear BK224;clear BK225;clear BK226;clear BK227;clear BK228;clear HB;have BK224 := n0_;have BK225 := n1_;have BK226 := n2_;have BK227 := n3_;have BK228 := n4_;have HB := n5_;clear n0_ n1_ n2_ n3_ n4_ n5_
    (try clear hb)
    (try clear hb2)
    (try clear hk)
    (try clear hi)
    refine hK.out _ _ ⟨(blk_cell BK224.out 0).trans rfl, (blk_cell BK224.out 1).trans rfl, (blk_cell BK225.out 0).trans rfl, (blk_cell BK225.out 1).trans rfl⟩ (fun hHeld => ?_)
    clear hK K
    refine norm_ (a' := ?_) ?_ ?_
    rotate_left
    ·show Act.put _ (some 27) _ = _
     simp only [Act.put, List.setIfInBounds_toArray, List.set_cons_zero, List.set_cons_succ, i64_w, i32_w]
     rfl
    refine one_ (i := 7) (N := some 29) #[true, true, true, true, true, true, true, true, false, false, false, false, false, false, false, false] rfl rfl (one_of HT_.out (by kernel_rfl)) (by decide) (fun K hK => ?_)
    refine goes_ Try.func61 (by kernel_rfl) rfl #[.int .i64 a0] (by rfl) rfl rfl (by (try simp only [List.map_toArray, List.map_cons, List.map_nil]); first | done | rfl) ?_
    with_reducible refine (integers_divides.calls a0 false _ A19.out).mono ?_
    rintro e w' ⟨rfl, ⟨nd, rfl⟩⟩
    refine ⟨_, rfl, ?_⟩
    refine hK.out _ _ ⟨(blk_cell BK224.out 0).trans rfl, (blk_cell BK224.out 1).trans rfl, (blk_cell BK225.out 0).trans rfl, (blk_cell BK225.out 1).trans rfl⟩ (fun hHeld => ?_)
    clear hK K
    refine norm_ (a' := ?_) ?_ ?_
    rotate_left
    ·show Act.put _ (some 29) _ = _
     simp only [Act.put, List.setIfInBounds_toArray, List.set_cons_zero, List.set_cons_succ, i64_w, i32_w]
     rfl
    refine pure_ (i := 8) (N := some 30) (v := ?_) (a' := ?_) #[true, true, true, true, true, true, true, true, true, false, false, false, false, false, false, false] rfl rfl (any_of HT_.out (by kernel_rfl)) (fun _ _ _ h => h) (Or.inl ⟨by rfl, ?_⟩) ?_ ?_
    rotate_left
    ·intro w'
     go_simp
     with_reducible rfl
    rotate_left
    ·simp only [Act.put, List.setIfInBounds_toArray, List.set_cons_zero, List.set_cons_succ, i64_w, i32_w]
     rfl
    refine pure_ (i := 9) (N := some 31) (v := ?_) (a' := ?_) #[true, true, true, true, true, true, true, true, true, true, false, false, false, false, false, false] rfl rfl (any_of HT_.out (by kernel_rfl)) (fun _ _ _ h => h) (Or.inl ⟨by rfl, ?_⟩) ?_ ?_
    rotate_left
    ·intro w'
     go_simp
     with_reducible rfl
    rotate_left
    ·simp only [Act.put, List.setIfInBounds_toArray, List.set_cons_zero, List.set_cons_succ, i64_w, i32_w]
     rfl
    refine pure_ (i := 10) (N := some 32) (v := undef) (a' := ?_) #[true, true, true, true, true, true, true, true, true, true, true, false, false, false, false, false] rfl rfl (any_of HT_.out (by kernel_rfl)) (fun _ _ _ h => h) (Or.inr ⟨by rfl, rfl⟩) ?_ ?_
    rotate_left
    ·simp only [Act.put, List.setIfInBounds_toArray, List.set_cons_zero, List.set_cons_succ, i64_w, i32_w]
     rfl
    refine pure_ (i := 11) (N := some 33) (v := undef) (a' := ?_) #[true, true, true, true, true, true, true, true, true, true, true, true, false, false, false, false] rfl rfl (any_of HT_.out (by kernel_rfl)) (fun _ _ _ h => h) (Or.inr ⟨by rfl, rfl⟩) ?_ ?_
    rotate_left
    ·simp only [Act.put, List.setIfInBounds_toArray, List.set_cons_zero, List.set_cons_succ, i64_w, i32_w]
     rfl
    refine pure_ (i := 12) (N := some 34) (v := undef) (a' := ?_) #[true, true, true, true, true, true, true, true, true, true, true, true, true, false, false, false] rfl rfl (any_of HT_.out (by kernel_rfl)) (fun _ _ _ h => h) (Or.inr ⟨by rfl, rfl⟩) ?_ ?_
    rotate_left
    ·simp only [Act.put, List.setIfInBounds_toArray, List.set_cons_zero, List.set_cons_succ, i64_w, i32_w]
     rfl
    refine pure_ (i := 13) (N := some 35) (v := ?_) (a' := ?_) #[true, true, true, true, true, true, true, true, true, true, true, true, true, true, false, false] rfl rfl (any_of HT_.out (by kernel_rfl)) (fun _ _ _ h => h) (Or.inl ⟨by rfl, ?_⟩) ?_ ?_
    rotate_left
    ·intro w'
     go_simp
     with_reducible rfl
    rotate_left
    ·simp only [Act.put, List.setIfInBounds_toArray, List.set_cons_zero, List.set_cons_succ, i64_w, i32_w]
     rfl
    refine one_ (i := 14) (N := some 36) #[true, true, true, true, true, true, true, true, true, true, true, true, true, true, true, false] rfl rfl (one_of HT_.out (by kernel_rfl)) (by decide) (fun K hK => ?_)
    refine goes_ Try.func48 (by kernel_rfl) rfl #[.int .i64 t231, .bool true, .int .i64 11] (by rfl) rfl rfl (by (try simp only [List.map_toArray, List.map_cons, List.map_nil]); first | done | rfl) ?_
    with_reducible refine (integers_check_want.calls t231 true 11 t235 _ A28.out).mono ?_
    rintro e w' ⟨rfl, ⟨nd, rfl⟩⟩
    refine ⟨_, rfl, ?_⟩
    refine hK.out _ _ ⟨(blk_cell BK224.out 0).trans rfl, (blk_cell BK224.out 1).trans rfl, (blk_cell BK225.out 0).trans rfl, (blk_cell BK225.out 1).trans rfl⟩ (fun hHeld => ?_)
    clear hK K
    refine norm_ (a' := ?_) ?_ ?_
    rotate_left
    ·show Act.put _ (some 36) _ = _
     simp only [Act.put, List.setIfInBounds_toArray, List.set_cons_zero, List.set_cons_succ, i64_w, i32_w]
     rfl
    refine pure_ (i := 15) (N := some 10) (v := ?_) (a' := ?_) #[true, true, true, true, true, true, true, true, true, true, true, true, true, true, true, true] rfl rfl (any_of HT_.out (by kernel_rfl)) (fun _ _ _ h => h) (Or.inl ⟨by rfl, ?_⟩) ?_ ?_
    rotate_left
    ·intro w'
     go_simp
     with_reducible rfl
    rotate_left
    ·simp only [Act.put, List.setIfInBounds_toArray, List.set_cons_zero, List.set_cons_succ, i64_w, i32_w]
     rfl
    refine done_ (done_of HT_.out (by kernel_rfl)) ?_
    try go_wp2
    go_meet
    case rel => exact ⟨_, (t235), (by first | rfl | (simp; done) | (simp [*]; done)), H', ⟨by first | omega | exact Nat.le_refl _⟩, ⟨bk BK224.out⟩, ⟨bk BK225.out⟩, ⟨bk BK226.out⟩, ⟨bk BK227.out⟩, ⟨bk BK228.out⟩, ⟨by repeat (first | (with_reducible first | exact HB.out | apply below_alloc | apply pw_below_drewN | apply below_drew1 | refine below_set ?_ GE224.out | refine below_set ?_ GE225.out | refine below_set ?_ GE226.out | refine below_set ?_ GE227.out | refine below_set ?_ GE228.out) | exact HB.out)⟩⟩
 case rest =>
  clear HC4;obtain ⟨kq, x10_3, rfl, HA, HJ3, BK224, BK225, BK226, BK227, BK228, HB⟩ := hcut
  cases kq with
  | zero => exact absurd HA.out (by simp [integers_RangeOf.j0])
  | succ kj3 =>
   have H := HA.out;clear HA;simp only [integers_RangeOf.j0] at H
   by_cases c33 : x10_3 = 0
   ·rw [if_pos c33] at H
    have c33b0 : (x10_3 == 0) = true := beq_iff_eq.mpr c33
    have c33b1 : (x10_3 != 0) = false := bne_eq_false_iff_eq.mpr c33
    clear c33;have HC34 := Aside0.mk H;clear H
    go_upto_region 5 with (fail)
    go_cut [10] (fun v10 wc => ∃ (kq : Nat) (x10_33 : Int), v10 = .int .i64 x10_33 ∧ Aside0 (integers_RangeOf.j1 kq a0 x10_33 a1_0 a1_1 a2_0 a2_1 = some (r1, r2, r3)) ∧ Aside0 (kq ≤ kj3) ∧ Aside0 (wc.heap[gb224]? = some (.cells #[.int .i64 a1_0, .int .i64 a1_1] 35 (0, 0))) ∧ Aside0 (wc.heap[gb225]? = some (.cells #[.int .i64 a2_0, .int .i64 a2_1] 35 (0, 0))) ∧ Aside0 (wc.heap[gb226]? = some (.cells #[.int .i64 0, .int .i64 0] 35 (0, 0))) ∧ Aside0 (wc.heap[gb227]? = some (.cells #[.int .i64 a1_0, .int .i64 a1_1] 82 (0, 0))) ∧ Aside0 (wc.heap[gb228]? = some (.cells #[.int .i64 a2_0, .int .i64 a2_1] 82 (0, 0))) ∧ Aside0 (Below w.heap.size w wc))
    case first =>
     have H := HC34.out;clear HC34
     by_cases c35 : a0 = 4
     ·rw [if_pos c35] at H
      have c35b0 : (a0 == 4) = true := beq_iff_eq.mpr c35
      have c35b1 : (a0 != 4) = false := bne_eq_false_iff_eq.mpr c35
      clear c35
      (first | rw [c35b0] | (simp only [i64_w, i32_w]; rw [c35b0]) | skip)
      by_cases c36 : (wrap64 (a1_1 - a1_0)) < 200
      ·rw [if_pos c36] at H
       have c36b0 : decide ((wrap64 (a1_1 - a1_0)) < 200) = true := decide_eq_true c36
       clear c36;replace H := Option.bind_eq_some_iff.mp H;obtain ⟨t237, A370, H⟩ := H
       try dsimp only at H
       have A37 := Aside0.mk A370;clear A370
       as_aux_lemma =>
        have H' := Aside0.mk H
        clear H;have hnb38 := NB227_224.out;have hnc38 := NB224_227.out;have hnb39 := NB227_225.out;have hnc39 := NB225_227.out;have hnb40 := NB227_226.out;have hnc40 := NB226_227.out;have hnb41 := NB227_228.out;have hnc41 := NB228_227.out
        have hcz42_0 : wc.cell? ⟨gb227, 0, none⟩ = some (.int .i64 a1_0) := (blk_cell BK227.out 0).trans rfl
        have hcz42_1 : wc.cell? ⟨gb227, 1, none⟩ = some (.int .i64 a1_1) := (blk_cell BK227.out 1).trans rfl
        have hfz42_0 := blk_frozen BK227.out 0;have hfz42_1 := blk_frozen BK227.out 1;have hnb43 := NB228_224.out;have hnc43 := NB224_228.out;have hnb44 := NB228_225.out;have hnc44 := NB225_228.out;have hnb45 := NB228_226.out;have hnc45 := NB226_228.out
        have hcz46_0 : wc.cell? ⟨gb228, 0, none⟩ = some (.int .i64 a2_0) := (blk_cell BK228.out 0).trans rfl
        have hcz46_1 : wc.cell? ⟨gb228, 1, none⟩ = some (.int .i64 a2_1) := (blk_cell BK228.out 1).trans rfl
        have hfz46_0 := blk_frozen BK228.out 0;have hfz46_1 := blk_frozen BK228.out 1
        go_wp2_with (first | ((with_reducible refine gate_callee (f := 48) rfl ?_); refine goesL_ (some 61) rfl rfl Try.func48 (by kernel_rfl) rfl #[.int .i64 x10_3, .bool (decide ((wrap64 (a2_1 - a2_0)) < 200)), .int .i64 8] rfl (by (try simp only [List.map_toArray, List.map_cons, List.map_nil]); first | done | rfl) ?_; (with_reducible refine (integers_check_want.calls x10_3 (decide ((wrap64 (a2_1 - a2_0)) < 200)) 8 t237 _ A37.out).mono ?_); rintro e w' ⟨rfl, ⟨nd, rfl⟩⟩; refine ⟨_, rfl, ?_⟩))
        go_meet
        case rel => exact ⟨_, (t237), (by first | rfl | (simp; done) | (simp [*]; done)), H', ⟨by have := HJ3.out; first | omega | exact Nat.le_refl _⟩, ⟨bk BK224.out⟩, ⟨bk BK225.out⟩, ⟨bk BK226.out⟩, ⟨bk BK227.out⟩, ⟨bk BK228.out⟩, ⟨by repeat (first | (with_reducible first | exact HB.out | apply below_alloc | apply pw_below_drewN | apply below_drew1 | refine below_set ?_ GE224.out | refine below_set ?_ GE225.out | refine below_set ?_ GE226.out | refine below_set ?_ GE227.out | refine below_set ?_ GE228.out) | exact HB.out)⟩⟩
      ·rw [if_neg c36] at H
       have c36b0 : decide ((wrap64 (a1_1 - a1_0)) < 200) = false := decide_eq_false c36
       clear c36;replace H := Option.bind_eq_some_iff.mp H;obtain ⟨t238, A470, H⟩ := H
       try dsimp only at H
       have A47 := Aside0.mk A470;clear A470
       as_aux_lemma =>
        have H' := Aside0.mk H
        clear H;have hnb48 := NB227_224.out;have hnc48 := NB224_227.out;have hnb49 := NB227_225.out;have hnc49 := NB225_227.out;have hnb50 := NB227_226.out;have hnc50 := NB226_227.out;have hnb51 := NB227_228.out;have hnc51 := NB228_227.out
        have hcz52_0 : wc.cell? ⟨gb227, 0, none⟩ = some (.int .i64 a1_0) := (blk_cell BK227.out 0).trans rfl
        have hcz52_1 : wc.cell? ⟨gb227, 1, none⟩ = some (.int .i64 a1_1) := (blk_cell BK227.out 1).trans rfl
        have hfz52_0 := blk_frozen BK227.out 0;have hfz52_1 := blk_frozen BK227.out 1
        go_wp2_with (first | ((with_reducible refine gate_callee (f := 48) rfl ?_); refine goesL_ (some 61) rfl rfl Try.func48 (by kernel_rfl) rfl #[.int .i64 x10_3, .bool false, .int .i64 8] rfl (by (try simp only [List.map_toArray, List.map_cons, List.map_nil]); first | done | rfl) ?_; (with_reducible refine (integers_check_want.calls x10_3 false 8 t238 _ A47.out).mono ?_); rintro e w' ⟨rfl, ⟨nd, rfl⟩⟩; refine ⟨_, rfl, ?_⟩))
        go_meet
        case rel => exact ⟨_, (t238), (by first | rfl | (simp; done) | (simp [*]; done)), H', ⟨by have := HJ3.out; first | omega | exact Nat.le_refl _⟩, ⟨bk BK224.out⟩, ⟨bk BK225.out⟩, ⟨bk BK226.out⟩, ⟨bk BK227.out⟩, ⟨bk BK228.out⟩, ⟨by repeat (first | (with_reducible first | exact HB.out | apply below_alloc | apply pw_below_drewN | apply below_drew1 | refine below_set ?_ GE224.out | refine below_set ?_ GE225.out | refine below_set ?_ GE226.out | refine below_set ?_ GE227.out | refine below_set ?_ GE228.out) | exact HB.out)⟩⟩
     ·rw [if_neg c35] at H
      have c35b0 : (a0 == 4) = false := beq_eq_false_iff_ne.mpr c35
      have c35b1 : (a0 != 4) = true := bne_iff_ne.mpr c35
      (first | rw [c35b0] | (simp only [i64_w, i32_w]; rw [c35b0]) | skip)
      replace H := Option.bind_eq_some_iff.mp H;obtain ⟨t239, A530, H⟩ := H
      try dsimp only at H
      have A53 := Aside0.mk A530;clear A530
      as_aux_lemma =>
       have H' := Aside0.mk H
       clear H
       go_wp2_with (first | ((with_reducible refine gate_callee (f := 48) rfl ?_); refine goesL_ (some 61) rfl rfl Try.func48 (by kernel_rfl) rfl #[.int .i64 x10_3, .bool true, .int .i64 8] rfl (by (try simp only [List.map_toArray, List.map_cons, List.map_nil]); first | done | rfl) ?_; (with_reducible refine (integers_check_want.calls x10_3 true 8 t239 _ A53.out).mono ?_); rintro e w' ⟨rfl, ⟨nd, rfl⟩⟩; refine ⟨_, rfl, ?_⟩))
       go_meet
       case rel => exact ⟨_, (t239), (by first | rfl | (simp; done) | (simp [*]; done)), H', ⟨by have := HJ3.out; first | omega | exact Nat.le_refl _⟩, ⟨bk BK224.out⟩, ⟨bk BK225.out⟩, ⟨bk BK226.out⟩, ⟨bk BK227.out⟩, ⟨bk BK228.out⟩, ⟨by repeat (first | (with_reducible first | exact HB.out | apply below_alloc | apply pw_below_drewN | apply below_drew1 | refine below_set ?_ GE224.out | refine below_set ?_ GE225.out | refine below_set ?_ GE226.out | refine below_set ?_ GE227.out | refine below_set ?_ GE228.out) | exact HB.out)⟩⟩
    case rest =>
     clear HC34;obtain ⟨kq, x10_33, rfl, HA, HJ33, BK224, BK225, BK226, BK227, BK228, HB⟩ := hcut
     cases kq with
     | zero => exact absurd HA.out (by simp [integers_RangeOf.j1])
     | succ kj33 =>
      have H := HA.out;clear HA;simp only [integers_RangeOf.j1] at H
      by_cases c54 : x10_33 = 0
      ·rw [if_pos c54] at H
       have c54b0 : (x10_33 == 0) = true := beq_iff_eq.mpr c54
       have c54b1 : (x10_33 != 0) = false := bne_eq_false_iff_eq.mpr c54
       clear c54;replace H := Option.bind_eq_some_iff.mp H;obtain ⟨⟨t241, t242⟩, A550, H⟩ := H
       try dsimp only at H
       have A55 := Aside0.mk A550;clear A550;replace H := Option.bind_eq_some_iff.mp H;obtain ⟨t244, A560, H⟩ := H
       try dsimp only at H
       have A56 := Aside0.mk A560;clear A560
       by_cases c57 : t244 = true
       ·subst c57
        have H1 : ((integers_number_integer.f t242).bind fun t245 => ((integers_check_want.f x10_33 t245 28).bind fun t246 => (if t246 = 0 then (some (t241, t242, 0)) else ((integers_check_err.f t246).bind fun t247 => (some (0, 0, t247)))))) = some (r1, r2, r3) := by rw [if_pos rfl] at H; exact H
        clear H;have H := H1;clear H1;replace H := Option.bind_eq_some_iff.mp H;obtain ⟨t245, A580, H⟩ := H
        try dsimp only at H
        have A58 := Aside0.mk A580;clear A580;replace H := Option.bind_eq_some_iff.mp H;obtain ⟨t246, A590, H⟩ := H
        try dsimp only at H
        have A59 := Aside0.mk A590;clear A590
        by_cases c60 : t246 = 0
        ·rw [if_pos c60] at H
         have c60b0 : (t246 == 0) = true := beq_iff_eq.mpr c60
         have c60b1 : (t246 != 0) = false := bne_eq_false_iff_eq.mpr c60
         clear c60
         as_aux_lemma =>
          simp only [Option.some.injEq, Prod.mk.injEq] at H;obtain ⟨rfl, rfl, rfl⟩ := H;have hnb61 := NB227_224.out;have hnc61 := NB224_227.out;have hnb62 := NB227_225.out;have hnc62 := NB225_227.out;have hnb63 := NB227_226.out;have hnc63 := NB226_227.out;have hnb64 := NB227_228.out;have hnc64 := NB228_227.out
          have hcz65_0 : wc.cell? ⟨gb227, 0, none⟩ = some (.int .i64 a1_0) := (blk_cell BK227.out 0).trans rfl
          have hcz65_1 : wc.cell? ⟨gb227, 1, none⟩ = some (.int .i64 a1_1) := (blk_cell BK227.out 1).trans rfl
          have hfz65_0 := blk_frozen BK227.out 0;have hfz65_1 := blk_frozen BK227.out 1;have hnb66 := NB228_224.out;have hnc66 := NB224_228.out;have hnb67 := NB228_225.out;have hnc67 := NB225_228.out;have hnb68 := NB228_226.out;have hnc68 := NB226_228.out
          have hcz69_0 : wc.cell? ⟨gb228, 0, none⟩ = some (.int .i64 a2_0) := (blk_cell BK228.out 0).trans rfl
          have hcz69_1 : wc.cell? ⟨gb228, 1, none⟩ = some (.int .i64 a2_1) := (blk_cell BK228.out 1).trans rfl
          have hfz69_0 := blk_frozen BK228.out 0;have hfz69_1 := blk_frozen BK228.out 1
          go_wp2_with (first | ((with_reducible refine gate_callee (f := 63) rfl ?_); refine goesL_ (some 70) rfl rfl Try.func63 (by kernel_rfl) rfl #[.int .i64 a0, .agg #[.int .i64 a1_0, .int .i64 a1_1], .agg #[.int .i64 a2_0, .int .i64 a2_1]] rfl (by (try simp only [List.map_toArray, List.map_cons, List.map_nil]); first | done | rfl) ?_; (with_reducible refine (integers_results.calls kj33 a0 a1_0 a1_1 a2_0 a2_1 t241 t242 _ A55.out).mono ?_); rintro e w70 ⟨rfl, hb⟩; refine ⟨_, rfl, ?_⟩; have n0_ := Aside0.mk (blk_below (g := gb224) (o := .cells #[.int .i64 a1_0, .int .i64 a1_1] 35 (0, 0)) (bk BK224.out) hb); have n1_ := Aside0.mk (blk_below (g := gb225) (o := .cells #[.int .i64 a2_0, .int .i64 a2_1] 35 (0, 0)) (bk BK225.out) hb); have n2_ := Aside0.mk (blk_below (g := gb226) (o := .cells #[.int .i64 0, .int .i64 0] 35 (0, 0)) (bk BK226.out) hb); have n3_ := Aside0.mk (blk_below (g := gb227) (o := .cells #[.int .i64 a1_0, .int .i64 a1_1] 82 (0, 0)) (bk BK227.out) hb); have n4_ := Aside0.mk (blk_below (g := gb228) (o := .cells #[.int .i64 a2_0, .int .i64 a2_1] 82 (0, 0)) (bk BK228.out) hb); have n5_ := Aside0.mk (below_step (by repeat (first | (with_reducible first | exact HB.out | apply below_alloc | apply pw_below_drewN | apply below_drew1 | refine below_set ?_ GE224.out | refine below_set ?_ GE225.out | refine below_set ?_ GE226.out | refine below_set ?_ GE227.out | refine below_set ?_ GE228.out) | exact HB.out)) hb); clear BK224; clear BK225; clear BK226; clear BK227; clear BK228; clear HB; have BK224 := n0_; have BK225 := n1_; have BK226 := n2_; have BK227 := n3_; have BK228 := n4_; have HB := n5_; clear n0_ n1_ n2_ n3_ n4_ n5_; (try clear hb); (try clear hb2); (try clear hk); (try clear hi)) | ((with_reducible refine gate_dst (N := 11) rfl ?_); refine box_event ?hg (N := 11) ?hd (cs := #[.int .i64 0, .int .i64 0]) (t := 82) ?hr ?_; (case hd => rfl); (case hg => rfl); (case hr => first | (go_simp; done) | (go_simp; rfl)); intro gb243 hg w71 hbox hb; have n0_ := Aside0.mk (blk_below (g := gb224) (o := .cells #[.int .i64 a1_0, .int .i64 a1_1] 35 (0, 0)) (bk BK224.out) hb); have n1_ := Aside0.mk (blk_below (g := gb225) (o := .cells #[.int .i64 a2_0, .int .i64 a2_1] 35 (0, 0)) (bk BK225.out) hb); have n2_ := Aside0.mk (blk_below (g := gb226) (o := .cells #[.int .i64 0, .int .i64 0] 35 (0, 0)) (bk BK226.out) hb); have n3_ := Aside0.mk (blk_below (g := gb227) (o := .cells #[.int .i64 a1_0, .int .i64 a1_1] 82 (0, 0)) (bk BK227.out) hb); have n4_ := Aside0.mk (blk_below (g := gb228) (o := .cells #[.int .i64 a2_0, .int .i64 a2_1] 82 (0, 0)) (bk BK228.out) hb); have n5_ := Aside0.mk (below_step (by repeat (first | (with_reducible first | exact HB.out | apply below_alloc | apply pw_below_drewN | apply below_drew1 | refine below_set ?_ GE224.out | refine below_set ?_ GE225.out | refine below_set ?_ GE226.out | refine below_set ?_ GE227.out | refine below_set ?_ GE228.out) | exact HB.out)) hb); have n6_ := Aside0.mk (hbox); have n7_ := Aside0.mk ((by rw [hg]; exact (below_size (by repeat (first | (with_reducible first | exact HB.out | apply below_alloc | apply pw_below_drewN | apply below_drew1 | refine below_set ?_ GE224.out | refine below_set ?_ GE225.out | refine below_set ?_ GE226.out | refine below_set ?_ GE227.out | refine below_set ?_ GE228.out) | exact HB.out))) : w.heap.size ≤ gb243)); have n8_ := Aside0.mk ((by rw [hg]; exact (below_size (by repeat (first | (with_reducible first | exact HB.out | apply below_alloc | apply pw_below_drewN | apply below_drew1 | refine below_set ?_ GE224.out | refine below_set ?_ GE225.out | refine below_set ?_ GE226.out | refine below_set ?_ GE227.out | refine below_set ?_ GE228.out) | exact HB.out))) : w.heap.size ≤ gb243)); have n9_ := Aside0.mk ((by rw [hg]; exact Nat.ne_of_lt (blk_lt (g := gb224) (o := .cells #[.int .i64 a1_0, .int .i64 a1_1] 35 (0, 0)) (bk BK224.out)) : gb224 ≠ gb243)); have n10_ := Aside0.mk ((by rw [hg]; exact Nat.ne_of_gt (blk_lt (g := gb224) (o := .cells #[.int .i64 a1_0, .int .i64 a1_1] 35 (0, 0)) (bk BK224.out)) : gb243 ≠ gb224)); have n11_ := Aside0.mk ((by rw [hg]; exact Nat.ne_of_lt (blk_lt (g := gb225) (o := .cells #[.int .i64 a2_0, .int .i64 a2_1] 35 (0, 0)) (bk BK225.out)) : gb225 ≠ gb243)); have n12_ := Aside0.mk ((by rw [hg]; exact Nat.ne_of_gt (blk_lt (g := gb225) (o := .cells #[.int .i64 a2_0, .int .i64 a2_1] 35 (0, 0)) (bk BK225.out)) : gb243 ≠ gb225)); have n13_ := Aside0.mk ((by rw [hg]; exact Nat.ne_of_lt (blk_lt (g := gb226) (o := .cells #[.int .i64 0, .int .i64 0] 35 (0, 0)) (bk BK226.out)) : gb226 ≠ gb243)); have n14_ := Aside0.mk ((by rw [hg]; exact Nat.ne_of_gt (blk_lt (g := gb226) (o := .cells #[.int .i64 0, .int .i64 0] 35 (0, 0)) (bk BK226.out)) : gb243 ≠ gb226)); have n15_ := Aside0.mk ((by rw [hg]; exact Nat.ne_of_lt (blk_lt (g := gb227) (o := .cells #[.int .i64 a1_0, .int .i64 a1_1] 82 (0, 0)) (bk BK227.out)) : gb227 ≠ gb243)); have n16_ := Aside0.mk ((by rw [hg]; exact Nat.ne_of_gt (blk_lt (g := gb227) (o := .cells #[.int .i64 a1_0, .int .i64 a1_1] 82 (0, 0)) (bk BK227.out)) : gb243 ≠ gb227)); have n17_ := Aside0.mk ((by rw [hg]; exact Nat.ne_of_lt (blk_lt (g := gb228) (o := .cells #[.int .i64 a2_0, .int .i64 a2_1] 82 (0, 0)) (bk BK228.out)) : gb228 ≠ gb243)); have n18_ := Aside0.mk ((by rw [hg]; exact Nat.ne_of_gt (blk_lt (g := gb228) (o := .cells #[.int .i64 a2_0, .int .i64 a2_1] 82 (0, 0)) (bk BK228.out)) : gb243 ≠ gb228)); clear BK224; clear BK225; clear BK226; clear BK227; clear BK228; clear HB; have BK224 := n0_; have BK225 := n1_; have BK226 := n2_; have BK227 := n3_; have BK228 := n4_; have HB := n5_; have BK243 := n6_; have GW243 := n7_; have GE243 := n8_; have NB224_243 := n9_; have NB243_224 := n10_; have NB225_243 := n11_; have NB243_225 := n12_; have NB226_243 := n13_; have NB243_226 := n14_; have NB227_243 := n15_; have NB243_227 := n16_; have NB228_243 := n17_; have NB243_228 := n18_; clear n0_ n1_ n2_ n3_ n4_ n5_ n6_ n7_ n8_ n9_ n10_ n11_ n12_ n13_ n14_ n15_ n16_ n17_ n18_; clear hb hbox hg; have hnb72 := NB243_224.out; have hnc72 := NB224_243.out; have hnb73 := NB243_225.out; have hnc73 := NB225_243.out; have hnb74 := NB243_226.out; have hnc74 := NB226_243.out; have hnb75 := NB243_227.out; have hnc75 := NB227_243.out; have hnb76 := NB243_228.out; have hnc76 := NB228_243.out; have hcz77_0 : w71.cell? ⟨gb243, 0, none⟩ = some (.int .i64 0) := (blk_cell BK243.out 0).trans rfl; have hcz77_1 : w71.cell? ⟨gb243, 1, none⟩ = some (.int .i64 0) := (blk_cell BK243.out 1).trans rfl; have hfz77_0 := blk_frozen BK243.out 0; have hfz77_1 := blk_frozen BK243.out 1) | ((with_reducible refine gate_callee (f := 50) rfl ?_); refine goesL_ (some 74) rfl rfl Try.func50 (by kernel_rfl) rfl #[.int .i64 t241] rfl (by (try simp only [List.map_toArray, List.map_cons, List.map_nil]); first | done | rfl) ?_; (with_reducible refine (integers_number_integer.calls t241 true _ A56.out).mono ?_); rintro e w' ⟨rfl, ⟨nd, rfl⟩⟩; refine ⟨_, rfl, ?_⟩) | (go_at_call 50; (with_reducible refine (integers_number_integer.calls t242 t245 _ A58.out).mono ?_); rintro e w' ⟨rfl, ⟨nd, rfl⟩⟩) | ((with_reducible refine gate_callee (f := 48) rfl ?_); refine goesL_ (some 80) rfl rfl Try.func48 (by kernel_rfl) rfl #[.int .i64 x10_33, .bool t245, .int .i64 28] rfl (by (try simp only [List.map_toArray, List.map_cons, List.map_nil]); first | done | rfl) ?_; (with_reducible refine (integers_check_want.calls x10_33 t245 28 t246 _ A59.out).mono ?_); rintro e w' ⟨rfl, ⟨nd, rfl⟩⟩; refine ⟨_, rfl, ?_⟩; have hnb78 := NB226_224.out; have hnc78 := NB224_226.out; have hnb79 := NB226_225.out; have hnc79 := NB225_226.out; have hcz80_0 : w71.cell? ⟨gb226, 0, none⟩ = some (.int .i64 0) := (blk_cell BK226.out 0).trans rfl; have hcz80_1 : w71.cell? ⟨gb226, 1, none⟩ = some (.int .i64 0) := (blk_cell BK226.out 1).trans rfl; have hfz80_0 := blk_frozen BK226.out 0; have hfz80_1 := blk_frozen BK226.out 1))
          refine bodyPost_ret (results_ct rfl _ _ gb226 35 #[.int .i64 t241, .int .i64 t242] (0, 0) _ rfl (by refine bk (blk_put (cs := #[.int .i64 t241, .int .i64 0]) ?_ 1 _ rfl); refine bk (blk_put (cs := #[.int .i64 0, .int .i64 0]) ?_ 0 _ rfl); refine bk (blk_far ?_ NB226_243.out _); refine bk (blk_far ?_ NB226_243.out _); exact bk BK226.out) Try.underlying35 rfl (by kernel_rfl)) rfl ?_
          exact ⟨by first | rfl | (simp [*] <;> rfl), by repeat (first | (with_reducible first | exact HB.out | apply below_alloc | apply pw_below_drewN | apply below_drew1 | refine below_set ?_ GE224.out | refine below_set ?_ GE225.out | refine below_set ?_ GE226.out | refine below_set ?_ GE227.out | refine below_set ?_ GE228.out | refine below_set ?_ GE243.out) | exact HB.out)⟩
        ·rw [if_neg c60] at H
         have c60b0 : (t246 == 0) = false := beq_eq_false_iff_ne.mpr c60
         have c60b1 : (t246 != 0) = true := bne_iff_ne.mpr c60
         replace H := Option.bind_eq_some_iff.mp H;obtain ⟨t247, A810, H⟩ := H
         try dsimp only at H
         have A81 := Aside0.mk A810;clear A810
         as_aux_lemma =>
          simp only [Option.some.injEq, Prod.mk.injEq] at H;obtain ⟨rfl, rfl, rfl⟩ := H;have hnb82 := NB227_224.out;have hnc82 := NB224_227.out;have hnb83 := NB227_225.out;have hnc83 := NB225_227.out;have hnb84 := NB227_226.out;have hnc84 := NB226_227.out;have hnb85 := NB227_228.out;have hnc85 := NB228_227.out
          have hcz86_0 : wc.cell? ⟨gb227, 0, none⟩ = some (.int .i64 a1_0) := (blk_cell BK227.out 0).trans rfl
          have hcz86_1 : wc.cell? ⟨gb227, 1, none⟩ = some (.int .i64 a1_1) := (blk_cell BK227.out 1).trans rfl
          have hfz86_0 := blk_frozen BK227.out 0;have hfz86_1 := blk_frozen BK227.out 1;have hnb87 := NB228_224.out;have hnc87 := NB224_228.out;have hnb88 := NB228_225.out;have hnc88 := NB225_228.out;have hnb89 := NB228_226.out;have hnc89 := NB226_228.out
          have hcz90_0 : wc.cell? ⟨gb228, 0, none⟩ = some (.int .i64 a2_0) := (blk_cell BK228.out 0).trans rfl
          have hcz90_1 : wc.cell? ⟨gb228, 1, none⟩ = some (.int .i64 a2_1) := (blk_cell BK228.out 1).trans rfl
          have hfz90_0 := blk_frozen BK228.out 0;have hfz90_1 := blk_frozen BK228.out 1
          go_wp2_with (first | ((with_reducible refine gate_callee (f := 63) rfl ?_); refine goesL_ (some 70) rfl rfl Try.func63 (by kernel_rfl) rfl #[.int .i64 a0, .agg #[.int .i64 a1_0, .int .i64 a1_1], .agg #[.int .i64 a2_0, .int .i64 a2_1]] rfl (by (try simp only [List.map_toArray, List.map_cons, List.map_nil]); first | done | rfl) ?_; (with_reducible refine (integers_results.calls kj33 a0 a1_0 a1_1 a2_0 a2_1 t241 t242 _ A55.out).mono ?_); rintro e w91 ⟨rfl, hb⟩; refine ⟨_, rfl, ?_⟩; have n0_ := Aside0.mk (blk_below (g := gb224) (o := .cells #[.int .i64 a1_0, .int .i64 a1_1] 35 (0, 0)) (bk BK224.out) hb); have n1_ := Aside0.mk (blk_below (g := gb225) (o := .cells #[.int .i64 a2_0, .int .i64 a2_1] 35 (0, 0)) (bk BK225.out) hb); have n2_ := Aside0.mk (blk_below (g := gb226) (o := .cells #[.int .i64 0, .int .i64 0] 35 (0, 0)) (bk BK226.out) hb); have n3_ := Aside0.mk (blk_below (g := gb227) (o := .cells #[.int .i64 a1_0, .int .i64 a1_1] 82 (0, 0)) (bk BK227.out) hb); have n4_ := Aside0.mk (blk_below (g := gb228) (o := .cells #[.int .i64 a2_0, .int .i64 a2_1] 82 (0, 0)) (bk BK228.out) hb); have n5_ := Aside0.mk (below_step (by repeat (first | (with_reducible first | exact HB.out | apply below_alloc | apply pw_below_drewN | apply below_drew1 | refine below_set ?_ GE224.out | refine below_set ?_ GE225.out | refine below_set ?_ GE226.out | refine below_set ?_ GE227.out | refine below_set ?_ GE228.out) | exact HB.out)) hb); clear BK224; clear BK225; clear BK226; clear BK227; clear BK228; clear HB; have BK224 := n0_; have BK225 := n1_; have BK226 := n2_; have BK227 := n3_; have BK228 := n4_; have HB := n5_; clear n0_ n1_ n2_ n3_ n4_ n5_; (try clear hb); (try clear hb2); (try clear hk); (try clear hi)) | ((with_reducible refine gate_dst (N := 11) rfl ?_); refine box_event ?hg (N := 11) ?hd (cs := #[.int .i64 0, .int .i64 0]) (t := 82) ?hr ?_; (case hd => rfl); (case hg => rfl); (case hr => first | (go_simp; done) | (go_simp; rfl)); intro gb243 hg w92 hbox hb; have n0_ := Aside0.mk (blk_below (g := gb224) (o := .cells #[.int .i64 a1_0, .int .i64 a1_1] 35 (0, 0)) (bk BK224.out) hb); have n1_ := Aside0.mk (blk_below (g := gb225) (o := .cells #[.int .i64 a2_0, .int .i64 a2_1] 35 (0, 0)) (bk BK225.out) hb); have n2_ := Aside0.mk (blk_below (g := gb226) (o := .cells #[.int .i64 0, .int .i64 0] 35 (0, 0)) (bk BK226.out) hb); have n3_ := Aside0.mk (blk_below (g := gb227) (o := .cells #[.int .i64 a1_0, .int .i64 a1_1] 82 (0, 0)) (bk BK227.out) hb); have n4_ := Aside0.mk (blk_below (g := gb228) (o := .cells #[.int .i64 a2_0, .int .i64 a2_1] 82 (0, 0)) (bk BK228.out) hb); have n5_ := Aside0.mk (below_step (by repeat (first | (with_reducible first | exact HB.out | apply below_alloc | apply pw_below_drewN | apply below_drew1 | refine below_set ?_ GE224.out | refine below_set ?_ GE225.out | refine below_set ?_ GE226.out | refine below_set ?_ GE227.out | refine below_set ?_ GE228.out) | exact HB.out)) hb); have n6_ := Aside0.mk (hbox); have n7_ := Aside0.mk ((by rw [hg]; exact (below_size (by repeat (first | (with_reducible first | exact HB.out | apply below_alloc | apply pw_below_drewN | apply below_drew1 | refine below_set ?_ GE224.out | refine below_set ?_ GE225.out | refine below_set ?_ GE226.out | refine below_set ?_ GE227.out | refine below_set ?_ GE228.out) | exact HB.out))) : w.heap.size ≤ gb243)); have n8_ := Aside0.mk ((by rw [hg]; exact (below_size (by repeat (first | (with_reducible first | exact HB.out | apply below_alloc | apply pw_below_drewN | apply below_drew1 | refine below_set ?_ GE224.out | refine below_set ?_ GE225.out | refine below_set ?_ GE226.out | refine below_set ?_ GE227.out | refine below_set ?_ GE228.out) | exact HB.out))) : w.heap.size ≤ gb243)); have n9_ := Aside0.mk ((by rw [hg]; exact Nat.ne_of_lt (blk_lt (g := gb224) (o := .cells #[.int .i64 a1_0, .int .i64 a1_1] 35 (0, 0)) (bk BK224.out)) : gb224 ≠ gb243)); have n10_ := Aside0.mk ((by rw [hg]; exact Nat.ne_of_gt (blk_lt (g := gb224) (o := .cells #[.int .i64 a1_0, .int .i64 a1_1] 35 (0, 0)) (bk BK224.out)) : gb243 ≠ gb224)); have n11_ := Aside0.mk ((by rw [hg]; exact Nat.ne_of_lt (blk_lt (g := gb225) (o := .cells #[.int .i64 a2_0, .int .i64 a2_1] 35 (0, 0)) (bk BK225.out)) : gb225 ≠ gb243)); have n12_ := Aside0.mk ((by rw [hg]; exact Nat.ne_of_gt (blk_lt (g := gb225) (o := .cells #[.int .i64 a2_0, .int .i64 a2_1] 35 (0, 0)) (bk BK225.out)) : gb243 ≠ gb225)); have n13_ := Aside0.mk ((by rw [hg]; exact Nat.ne_of_lt (blk_lt (g := gb226) (o := .cells #[.int .i64 0, .int .i64 0] 35 (0, 0)) (bk BK226.out)) : gb226 ≠ gb243)); have n14_ := Aside0.mk ((by rw [hg]; exact Nat.ne_of_gt (blk_lt (g := gb226) (o := .cells #[.int .i64 0, .int .i64 0] 35 (0, 0)) (bk BK226.out)) : gb243 ≠ gb226)); have n15_ := Aside0.mk ((by rw [hg]; exact Nat.ne_of_lt (blk_lt (g := gb227) (o := .cells #[.int .i64 a1_0, .int .i64 a1_1] 82 (0, 0)) (bk BK227.out)) : gb227 ≠ gb243)); have n16_ := Aside0.mk ((by rw [hg]; exact Nat.ne_of_gt (blk_lt (g := gb227) (o := .cells #[.int .i64 a1_0, .int .i64 a1_1] 82 (0, 0)) (bk BK227.out)) : gb243 ≠ gb227)); have n17_ := Aside0.mk ((by rw [hg]; exact Nat.ne_of_lt (blk_lt (g := gb228) (o := .cells #[.int .i64 a2_0, .int .i64 a2_1] 82 (0, 0)) (bk BK228.out)) : gb228 ≠ gb243)); have n18_ := Aside0.mk ((by rw [hg]; exact Nat.ne_of_gt (blk_lt (g := gb228) (o := .cells #[.int .i64 a2_0, .int .i64 a2_1] 82 (0, 0)) (bk BK228.out)) : gb243 ≠ gb228)); clear BK224; clear BK225; clear BK226; clear BK227; clear BK228; clear HB; have BK224 := n0_; have BK225 := n1_; have BK226 := n2_; have BK227 := n3_; have BK228 := n4_; have HB := n5_; have BK243 := n6_; have GW243 := n7_; have GE243 := n8_; have NB224_243 := n9_; have NB243_224 := n10_; have NB225_243 := n11_; have NB243_225 := n12_; have NB226_243 := n13_; have NB243_226 := n14_; have NB227_243 := n15_; have NB243_227 := n16_; have NB228_243 := n17_; have NB243_228 := n18_; clear n0_ n1_ n2_ n3_ n4_ n5_ n6_ n7_ n8_ n9_ n10_ n11_ n12_ n13_ n14_ n15_ n16_ n17_ n18_; clear hb hbox hg; have hnb93 := NB243_224.out; have hnc93 := NB224_243.out; have hnb94 := NB243_225.out; have hnc94 := NB225_243.out; have hnb95 := NB243_226.out; have hnc95 := NB226_243.out; have hnb96 := NB243_227.out; have hnc96 := NB227_243.out; have hnb97 := NB243_228.out; have hnc97 := NB228_243.out; have hcz98_0 : w92.cell? ⟨gb243, 0, none⟩ = some (.int .i64 0) := (blk_cell BK243.out 0).trans rfl; have hcz98_1 : w92.cell? ⟨gb243, 1, none⟩ = some (.int .i64 0) := (blk_cell BK243.out 1).trans rfl; have hfz98_0 := blk_frozen BK243.out 0; have hfz98_1 := blk_frozen BK243.out 1) | ((with_reducible refine gate_callee (f := 50) rfl ?_); refine goesL_ (some 74) rfl rfl Try.func50 (by kernel_rfl) rfl #[.int .i64 t241] rfl (by (try simp only [List.map_toArray, List.map_cons, List.map_nil]); first | done | rfl) ?_; (with_reducible refine (integers_number_integer.calls t241 true _ A56.out).mono ?_); rintro e w' ⟨rfl, ⟨nd, rfl⟩⟩; refine ⟨_, rfl, ?_⟩) | (go_at_call 50; (with_reducible refine (integers_number_integer.calls t242 t245 _ A58.out).mono ?_); rintro e w' ⟨rfl, ⟨nd, rfl⟩⟩) | ((with_reducible refine gate_callee (f := 48) rfl ?_); refine goesL_ (some 80) rfl rfl Try.func48 (by kernel_rfl) rfl #[.int .i64 x10_33, .bool t245, .int .i64 28] rfl (by (try simp only [List.map_toArray, List.map_cons, List.map_nil]); first | done | rfl) ?_; (with_reducible refine (integers_check_want.calls x10_33 t245 28 t246 _ A59.out).mono ?_); rintro e w' ⟨rfl, ⟨nd, rfl⟩⟩; refine ⟨_, rfl, ?_⟩) | ((with_reducible refine gate_callee (f := 49) rfl ?_); refine goesL_ (some 85) rfl rfl Try.func49 (by kernel_rfl) rfl #[.int .i64 t246] rfl (by (try simp only [List.map_toArray, List.map_cons, List.map_nil]); first | done | rfl) ?_; (with_reducible refine (integers_check_err.calls t246 t247 _ A81.out).mono ?_); rintro e w' ⟨rfl, ⟨nd, rfl⟩⟩; refine ⟨_, rfl, ?_⟩; have hnb99 := NB226_224.out; have hnc99 := NB224_226.out; have hnb100 := NB226_225.out; have hnc100 := NB225_226.out; have hcz101_0 : w92.cell? ⟨gb226, 0, none⟩ = some (.int .i64 0) := (blk_cell BK226.out 0).trans rfl; have hcz101_1 : w92.cell? ⟨gb226, 1, none⟩ = some (.int .i64 0) := (blk_cell BK226.out 1).trans rfl; have hfz101_0 := blk_frozen BK226.out 0; have hfz101_1 := blk_frozen BK226.out 1))
          refine bodyPost_ret (results_ct rfl _ _ gb226 35 #[.int .i64 0, .int .i64 0] (0, 0) _ rfl (by refine bk (blk_put (cs := #[.int .i64 0, .int .i64 0]) ?_ 1 _ rfl); refine bk (blk_put (cs := #[.int .i64 0, .int .i64 0]) ?_ 0 _ rfl); refine bk (blk_far ?_ NB226_243.out _); refine bk (blk_far ?_ NB226_243.out _); exact bk BK226.out) Try.underlying35 rfl (by kernel_rfl)) rfl ?_
          exact ⟨by first | rfl | (simp [*] <;> rfl), by repeat (first | (with_reducible first | exact HB.out | apply below_alloc | apply pw_below_drewN | apply below_drew1 | refine below_set ?_ GE224.out | refine below_set ?_ GE225.out | refine below_set ?_ GE226.out | refine below_set ?_ GE227.out | refine below_set ?_ GE228.out | refine below_set ?_ GE243.out) | exact HB.out)⟩
       ·replace c57 := Bool.eq_false_iff.mpr c57
        subst c57
        have H1 : ((integers_check_want.f x10_33 false 28).bind fun t248 => (if t248 = 0 then (some (t241, t242, 0)) else ((integers_check_err.f t248).bind fun t249 => (some (0, 0, t249))))) = some (r1, r2, r3) := by rw [if_neg (show ¬ (false = true) by decide)] at H; exact H
        clear H;have H := H1;clear H1;replace H := Option.bind_eq_some_iff.mp H;obtain ⟨t248, A1020, H⟩ := H
        try dsimp only at H
        have A102 := Aside0.mk A1020;clear A1020
        by_cases c103 : t248 = 0
        ·rw [if_pos c103] at H
         have c103b0 : (t248 == 0) = true := beq_iff_eq.mpr c103
         have c103b1 : (t248 != 0) = false := bne_eq_false_iff_eq.mpr c103
         clear c103
         as_aux_lemma =>
          simp only [Option.some.injEq, Prod.mk.injEq] at H;obtain ⟨rfl, rfl, rfl⟩ := H;have hnb104 := NB227_224.out;have hnc104 := NB224_227.out;have hnb105 := NB227_225.out;have hnc105 := NB225_227.out;have hnb106 := NB227_226.out;have hnc106 := NB226_227.out;have hnb107 := NB227_228.out;have hnc107 := NB228_227.out
          have hcz108_0 : wc.cell? ⟨gb227, 0, none⟩ = some (.int .i64 a1_0) := (blk_cell BK227.out 0).trans rfl
          have hcz108_1 : wc.cell? ⟨gb227, 1, none⟩ = some (.int .i64 a1_1) := (blk_cell BK227.out 1).trans rfl
          have hfz108_0 := blk_frozen BK227.out 0;have hfz108_1 := blk_frozen BK227.out 1;have hnb109 := NB228_224.out;have hnc109 := NB224_228.out;have hnb110 := NB228_225.out;have hnc110 := NB225_228.out;have hnb111 := NB228_226.out;have hnc111 := NB226_228.out
          have hcz112_0 : wc.cell? ⟨gb228, 0, none⟩ = some (.int .i64 a2_0) := (blk_cell BK228.out 0).trans rfl
          have hcz112_1 : wc.cell? ⟨gb228, 1, none⟩ = some (.int .i64 a2_1) := (blk_cell BK228.out 1).trans rfl
          have hfz112_0 := blk_frozen BK228.out 0;have hfz112_1 := blk_frozen BK228.out 1
          go_wp2_with (first | ((with_reducible refine gate_callee (f := 63) rfl ?_); refine goesL_ (some 70) rfl rfl Try.func63 (by kernel_rfl) rfl #[.int .i64 a0, .agg #[.int .i64 a1_0, .int .i64 a1_1], .agg #[.int .i64 a2_0, .int .i64 a2_1]] rfl (by (try simp only [List.map_toArray, List.map_cons, List.map_nil]); first | done | rfl) ?_; (with_reducible refine (integers_results.calls kj33 a0 a1_0 a1_1 a2_0 a2_1 t241 t242 _ A55.out).mono ?_); rintro e w113 ⟨rfl, hb⟩; refine ⟨_, rfl, ?_⟩; have n0_ := Aside0.mk (blk_below (g := gb224) (o := .cells #[.int .i64 a1_0, .int .i64 a1_1] 35 (0, 0)) (bk BK224.out) hb); have n1_ := Aside0.mk (blk_below (g := gb225) (o := .cells #[.int .i64 a2_0, .int .i64 a2_1] 35 (0, 0)) (bk BK225.out) hb); have n2_ := Aside0.mk (blk_below (g := gb226) (o := .cells #[.int .i64 0, .int .i64 0] 35 (0, 0)) (bk BK226.out) hb); have n3_ := Aside0.mk (blk_below (g := gb227) (o := .cells #[.int .i64 a1_0, .int .i64 a1_1] 82 (0, 0)) (bk BK227.out) hb); have n4_ := Aside0.mk (blk_below (g := gb228) (o := .cells #[.int .i64 a2_0, .int .i64 a2_1] 82 (0, 0)) (bk BK228.out) hb); have n5_ := Aside0.mk (below_step (by repeat (first | (with_reducible first | exact HB.out | apply below_alloc | apply pw_below_drewN | apply below_drew1 | refine below_set ?_ GE224.out | refine below_set ?_ GE225.out | refine below_set ?_ GE226.out | refine below_set ?_ GE227.out | refine below_set ?_ GE228.out) | exact HB.out)) hb); clear BK224; clear BK225; clear BK226; clear BK227; clear BK228; clear HB; have BK224 := n0_; have BK225 := n1_; have BK226 := n2_; have BK227 := n3_; have BK228 := n4_; have HB := n5_; clear n0_ n1_ n2_ n3_ n4_ n5_; (try clear hb); (try clear hb2); (try clear hk); (try clear hi)) | ((with_reducible refine gate_dst (N := 11) rfl ?_); refine box_event ?hg (N := 11) ?hd (cs := #[.int .i64 0, .int .i64 0]) (t := 82) ?hr ?_; (case hd => rfl); (case hg => rfl); (case hr => first | (go_simp; done) | (go_simp; rfl)); intro gb243 hg w114 hbox hb; have n0_ := Aside0.mk (blk_below (g := gb224) (o := .cells #[.int .i64 a1_0, .int .i64 a1_1] 35 (0, 0)) (bk BK224.out) hb); have n1_ := Aside0.mk (blk_below (g := gb225) (o := .cells #[.int .i64 a2_0, .int .i64 a2_1] 35 (0, 0)) (bk BK225.out) hb); have n2_ := Aside0.mk (blk_below (g := gb226) (o := .cells #[.int .i64 0, .int .i64 0] 35 (0, 0)) (bk BK226.out) hb); have n3_ := Aside0.mk (blk_below (g := gb227) (o := .cells #[.int .i64 a1_0, .int .i64 a1_1] 82 (0, 0)) (bk BK227.out) hb); have n4_ := Aside0.mk (blk_below (g := gb228) (o := .cells #[.int .i64 a2_0, .int .i64 a2_1] 82 (0, 0)) (bk BK228.out) hb); have n5_ := Aside0.mk (below_step (by repeat (first | (with_reducible first | exact HB.out | apply below_alloc | apply pw_below_drewN | apply below_drew1 | refine below_set ?_ GE224.out | refine below_set ?_ GE225.out | refine below_set ?_ GE226.out | refine below_set ?_ GE227.out | refine below_set ?_ GE228.out) | exact HB.out)) hb); have n6_ := Aside0.mk (hbox); have n7_ := Aside0.mk ((by rw [hg]; exact (below_size (by repeat (first | (with_reducible first | exact HB.out | apply below_alloc | apply pw_below_drewN | apply below_drew1 | refine below_set ?_ GE224.out | refine below_set ?_ GE225.out | refine below_set ?_ GE226.out | refine below_set ?_ GE227.out | refine below_set ?_ GE228.out) | exact HB.out))) : w.heap.size ≤ gb243)); have n8_ := Aside0.mk ((by rw [hg]; exact (below_size (by repeat (first | (with_reducible first | exact HB.out | apply below_alloc | apply pw_below_drewN | apply below_drew1 | refine below_set ?_ GE224.out | refine below_set ?_ GE225.out | refine below_set ?_ GE226.out | refine below_set ?_ GE227.out | refine below_set ?_ GE228.out) | exact HB.out))) : w.heap.size ≤ gb243)); have n9_ := Aside0.mk ((by rw [hg]; exact Nat.ne_of_lt (blk_lt (g := gb224) (o := .cells #[.int .i64 a1_0, .int .i64 a1_1] 35 (0, 0)) (bk BK224.out)) : gb224 ≠ gb243)); have n10_ := Aside0.mk ((by rw [hg]; exact Nat.ne_of_gt (blk_lt (g := gb224) (o := .cells #[.int .i64 a1_0, .int .i64 a1_1] 35 (0, 0)) (bk BK224.out)) : gb243 ≠ gb224)); have n11_ := Aside0.mk ((by rw [hg]; exact Nat.ne_of_lt (blk_lt (g := gb225) (o := .cells #[.int .i64 a2_0, .int .i64 a2_1] 35 (0, 0)) (bk BK225.out)) : gb225 ≠ gb243)); have n12_ := Aside0.mk ((by rw [hg]; exact Nat.ne_of_gt (blk_lt (g := gb225) (o := .cells #[.int .i64 a2_0, .int .i64 a2_1] 35 (0, 0)) (bk BK225.out)) : gb243 ≠ gb225)); have n13_ := Aside0.mk ((by rw [hg]; exact Nat.ne_of_lt (blk_lt (g := gb226) (o := .cells #[.int .i64 0, .int .i64 0] 35 (0, 0)) (bk BK226.out)) : gb226 ≠ gb243)); have n14_ := Aside0.mk ((by rw [hg]; exact Nat.ne_of_gt (blk_lt (g := gb226) (o := .cells #[.int .i64 0, .int .i64 0] 35 (0, 0)) (bk BK226.out)) : gb243 ≠ gb226)); have n15_ := Aside0.mk ((by rw [hg]; exact Nat.ne_of_lt (blk_lt (g := gb227) (o := .cells #[.int .i64 a1_0, .int .i64 a1_1] 82 (0, 0)) (bk BK227.out)) : gb227 ≠ gb243)); have n16_ := Aside0.mk ((by rw [hg]; exact Nat.ne_of_gt (blk_lt (g := gb227) (o := .cells #[.int .i64 a1_0, .int .i64 a1_1] 82 (0, 0)) (bk BK227.out)) : gb243 ≠ gb227)); have n17_ := Aside0.mk ((by rw [hg]; exact Nat.ne_of_lt (blk_lt (g := gb228) (o := .cells #[.int .i64 a2_0, .int .i64 a2_1] 82 (0, 0)) (bk BK228.out)) : gb228 ≠ gb243)); have n18_ := Aside0.mk ((by rw [hg]; exact Nat.ne_of_gt (blk_lt (g := gb228) (o := .cells #[.int .i64 a2_0, .int .i64 a2_1] 82 (0, 0)) (bk BK228.out)) : gb243 ≠ gb228)); clear BK224; clear BK225; clear BK226; clear BK227; clear BK228; clear HB; have BK224 := n0_; have BK225 := n1_; have BK226 := n2_; have BK227 := n3_; have BK228 := n4_; have HB := n5_; have BK243 := n6_; have GW243 := n7_; have GE243 := n8_; have NB224_243 := n9_; have NB243_224 := n10_; have NB225_243 := n11_; have NB243_225 := n12_; have NB226_243 := n13_; have NB243_226 := n14_; have NB227_243 := n15_; have NB243_227 := n16_; have NB228_243 := n17_; have NB243_228 := n18_; clear n0_ n1_ n2_ n3_ n4_ n5_ n6_ n7_ n8_ n9_ n10_ n11_ n12_ n13_ n14_ n15_ n16_ n17_ n18_; clear hb hbox hg; have hnb115 := NB243_224.out; have hnc115 := NB224_243.out; have hnb116 := NB243_225.out; have hnc116 := NB225_243.out; have hnb117 := NB243_226.out; have hnc117 := NB226_243.out; have hnb118 := NB243_227.out; have hnc118 := NB227_243.out; have hnb119 := NB243_228.out; have hnc119 := NB228_243.out; have hcz120_0 : w114.cell? ⟨gb243, 0, none⟩ = some (.int .i64 0) := (blk_cell BK243.out 0).trans rfl; have hcz120_1 : w114.cell? ⟨gb243, 1, none⟩ = some (.int .i64 0) := (blk_cell BK243.out 1).trans rfl; have hfz120_0 := blk_frozen BK243.out 0; have hfz120_1 := blk_frozen BK243.out 1) | ((with_reducible refine gate_callee (f := 50) rfl ?_); refine goesL_ (some 74) rfl rfl Try.func50 (by kernel_rfl) rfl #[.int .i64 t241] rfl (by (try simp only [List.map_toArray, List.map_cons, List.map_nil]); first | done | rfl) ?_; (with_reducible refine (integers_number_integer.calls t241 false _ A56.out).mono ?_); rintro e w' ⟨rfl, ⟨nd, rfl⟩⟩; refine ⟨_, rfl, ?_⟩) | ((with_reducible refine gate_callee (f := 48) rfl ?_); refine goesL_ (some 80) rfl rfl Try.func48 (by kernel_rfl) rfl #[.int .i64 x10_33, .bool false, .int .i64 28] rfl (by (try simp only [List.map_toArray, List.map_cons, List.map_nil]); first | done | rfl) ?_; (with_reducible refine (integers_check_want.calls x10_33 false 28 t248 _ A102.out).mono ?_); rintro e w' ⟨rfl, ⟨nd, rfl⟩⟩; refine ⟨_, rfl, ?_⟩; have hnb121 := NB226_224.out; have hnc121 := NB224_226.out; have hnb122 := NB226_225.out; have hnc122 := NB225_226.out; have hcz123_0 : w114.cell? ⟨gb226, 0, none⟩ = some (.int .i64 0) := (blk_cell BK226.out 0).trans rfl; have hcz123_1 : w114.cell? ⟨gb226, 1, none⟩ = some (.int .i64 0) := (blk_cell BK226.out 1).trans rfl; have hfz123_0 := blk_frozen BK226.out 0; have hfz123_1 := blk_frozen BK226.out 1))
          refine bodyPost_ret (results_ct rfl _ _ gb226 35 #[.int .i64 t241, .int .i64 t242] (0, 0) _ rfl (by refine bk (blk_put (cs := #[.int .i64 t241, .int .i64 0]) ?_ 1 _ rfl); refine bk (blk_put (cs := #[.int .i64 0, .int .i64 0]) ?_ 0 _ rfl); refine bk (blk_far ?_ NB226_243.out _); refine bk (blk_far ?_ NB226_243.out _); exact bk BK226.out) Try.underlying35 rfl (by kernel_rfl)) rfl ?_
          exact ⟨by first | rfl | (simp [*] <;> rfl), by repeat (first | (with_reducible first | exact HB.out | apply below_alloc | apply pw_below_drewN | apply below_drew1 | refine below_set ?_ GE224.out | refine below_set ?_ GE225.out | refine below_set ?_ GE226.out | refine below_set ?_ GE227.out | refine below_set ?_ GE228.out | refine below_set ?_ GE243.out) | exact HB.out)⟩
        ·rw [if_neg c103] at H
         have c103b0 : (t248 == 0) = false := beq_eq_false_iff_ne.mpr c103
         have c103b1 : (t248 != 0) = true := bne_iff_ne.mpr c103
         replace H := Option.bind_eq_some_iff.mp H;obtain ⟨t249, A1240, H⟩ := H
         try dsimp only at H
         have A124 := Aside0.mk A1240;clear A1240
         as_aux_lemma =>
          simp only [Option.some.injEq, Prod.mk.injEq] at H;obtain ⟨rfl, rfl, rfl⟩ := H;have hnb125 := NB227_224.out;have hnc125 := NB224_227.out;have hnb126 := NB227_225.out;have hnc126 := NB225_227.out;have hnb127 := NB227_226.out;have hnc127 := NB226_227.out;have hnb128 := NB227_228.out;have hnc128 := NB228_227.out
          have hcz129_0 : wc.cell? ⟨gb227, 0, none⟩ = some (.int .i64 a1_0) := (blk_cell BK227.out 0).trans rfl
          have hcz129_1 : wc.cell? ⟨gb227, 1, none⟩ = some (.int .i64 a1_1) := (blk_cell BK227.out 1).trans rfl
          have hfz129_0 := blk_frozen BK227.out 0;have hfz129_1 := blk_frozen BK227.out 1;have hnb130 := NB228_224.out;have hnc130 := NB224_228.out;have hnb131 := NB228_225.out;have hnc131 := NB225_228.out;have hnb132 := NB228_226.out;have hnc132 := NB226_228.out
          have hcz133_0 : wc.cell? ⟨gb228, 0, none⟩ = some (.int .i64 a2_0) := (blk_cell BK228.out 0).trans rfl
          have hcz133_1 : wc.cell? ⟨gb228, 1, none⟩ = some (.int .i64 a2_1) := (blk_cell BK228.out 1).trans rfl
          have hfz133_0 := blk_frozen BK228.out 0;have hfz133_1 := blk_frozen BK228.out 1
          go_wp2_with (first | ((with_reducible refine gate_callee (f := 63) rfl ?_); refine goesL_ (some 70) rfl rfl Try.func63 (by kernel_rfl) rfl #[.int .i64 a0, .agg #[.int .i64 a1_0, .int .i64 a1_1], .agg #[.int .i64 a2_0, .int .i64 a2_1]] rfl (by (try simp only [List.map_toArray, List.map_cons, List.map_nil]); first | done | rfl) ?_; (with_reducible refine (integers_results.calls kj33 a0 a1_0 a1_1 a2_0 a2_1 t241 t242 _ A55.out).mono ?_); rintro e w134 ⟨rfl, hb⟩; refine ⟨_, rfl, ?_⟩; have n0_ := Aside0.mk (blk_below (g := gb224) (o := .cells #[.int .i64 a1_0, .int .i64 a1_1] 35 (0, 0)) (bk BK224.out) hb); have n1_ := Aside0.mk (blk_below (g := gb225) (o := .cells #[.int .i64 a2_0, .int .i64 a2_1] 35 (0, 0)) (bk BK225.out) hb); have n2_ := Aside0.mk (blk_below (g := gb226) (o := .cells #[.int .i64 0, .int .i64 0] 35 (0, 0)) (bk BK226.out) hb); have n3_ := Aside0.mk (blk_below (g := gb227) (o := .cells #[.int .i64 a1_0, .int .i64 a1_1] 82 (0, 0)) (bk BK227.out) hb); have n4_ := Aside0.mk (blk_below (g := gb228) (o := .cells #[.int .i64 a2_0, .int .i64 a2_1] 82 (0, 0)) (bk BK228.out) hb); have n5_ := Aside0.mk (below_step (by repeat (first | (with_reducible first | exact HB.out | apply below_alloc | apply pw_below_drewN | apply below_drew1 | refine below_set ?_ GE224.out | refine below_set ?_ GE225.out | refine below_set ?_ GE226.out | refine below_set ?_ GE227.out | refine below_set ?_ GE228.out) | exact HB.out)) hb); clear BK224; clear BK225; clear BK226; clear BK227; clear BK228; clear HB; have BK224 := n0_; have BK225 := n1_; have BK226 := n2_; have BK227 := n3_; have BK228 := n4_; have HB := n5_; clear n0_ n1_ n2_ n3_ n4_ n5_; (try clear hb); (try clear hb2); (try clear hk); (try clear hi)) | ((with_reducible refine gate_dst (N := 11) rfl ?_); refine box_event ?hg (N := 11) ?hd (cs := #[.int .i64 0, .int .i64 0]) (t := 82) ?hr ?_; (case hd => rfl); (case hg => rfl); (case hr => first | (go_simp; done) | (go_simp; rfl)); intro gb243 hg w135 hbox hb; have n0_ := Aside0.mk (blk_below (g := gb224) (o := .cells #[.int .i64 a1_0, .int .i64 a1_1] 35 (0, 0)) (bk BK224.out) hb); have n1_ := Aside0.mk (blk_below (g := gb225) (o := .cells #[.int .i64 a2_0, .int .i64 a2_1] 35 (0, 0)) (bk BK225.out) hb); have n2_ := Aside0.mk (blk_below (g := gb226) (o := .cells #[.int .i64 0, .int .i64 0] 35 (0, 0)) (bk BK226.out) hb); have n3_ := Aside0.mk (blk_below (g := gb227) (o := .cells #[.int .i64 a1_0, .int .i64 a1_1] 82 (0, 0)) (bk BK227.out) hb); have n4_ := Aside0.mk (blk_below (g := gb228) (o := .cells #[.int .i64 a2_0, .int .i64 a2_1] 82 (0, 0)) (bk BK228.out) hb); have n5_ := Aside0.mk (below_step (by repeat (first | (with_reducible first | exact HB.out | apply below_alloc | apply pw_below_drewN | apply below_drew1 | refine below_set ?_ GE224.out | refine below_set ?_ GE225.out | refine below_set ?_ GE226.out | refine below_set ?_ GE227.out | refine below_set ?_ GE228.out) | exact HB.out)) hb); have n6_ := Aside0.mk (hbox); have n7_ := Aside0.mk ((by rw [hg]; exact (below_size (by repeat (first | (with_reducible first | exact HB.out | apply below_alloc | apply pw_below_drewN | apply below_drew1 | refine below_set ?_ GE224.out | refine below_set ?_ GE225.out | refine below_set ?_ GE226.out | refine below_set ?_ GE227.out | refine below_set ?_ GE228.out) | exact HB.out))) : w.heap.size ≤ gb243)); have n8_ := Aside0.mk ((by rw [hg]; exact (below_size (by repeat (first | (with_reducible first | exact HB.out | apply below_alloc | apply pw_below_drewN | apply below_drew1 | refine below_set ?_ GE224.out | refine below_set ?_ GE225.out | refine below_set ?_ GE226.out | refine below_set ?_ GE227.out | refine below_set ?_ GE228.out) | exact HB.out))) : w.heap.size ≤ gb243)); have n9_ := Aside0.mk ((by rw [hg]; exact Nat.ne_of_lt (blk_lt (g := gb224) (o := .cells #[.int .i64 a1_0, .int .i64 a1_1] 35 (0, 0)) (bk BK224.out)) : gb224 ≠ gb243)); have n10_ := Aside0.mk ((by rw [hg]; exact Nat.ne_of_gt (blk_lt (g := gb224) (o := .cells #[.int .i64 a1_0, .int .i64 a1_1] 35 (0, 0)) (bk BK224.out)) : gb243 ≠ gb224)); have n11_ := Aside0.mk ((by rw [hg]; exact Nat.ne_of_lt (blk_lt (g := gb225) (o := .cells #[.int .i64 a2_0, .int .i64 a2_1] 35 (0, 0)) (bk BK225.out)) : gb225 ≠ gb243)); have n12_ := Aside0.mk ((by rw [hg]; exact Nat.ne_of_gt (blk_lt (g := gb225) (o := .cells #[.int .i64 a2_0, .int .i64 a2_1] 35 (0, 0)) (bk BK225.out)) : gb243 ≠ gb225)); have n13_ := Aside0.mk ((by rw [hg]; exact Nat.ne_of_lt (blk_lt (g := gb226) (o := .cells #[.int .i64 0, .int .i64 0] 35 (0, 0)) (bk BK226.out)) : gb226 ≠ gb243)); have n14_ := Aside0.mk ((by rw [hg]; exact Nat.ne_of_gt (blk_lt (g := gb226) (o := .cells #[.int .i64 0, .int .i64 0] 35 (0, 0)) (bk BK226.out)) : gb243 ≠ gb226)); have n15_ := Aside0.mk ((by rw [hg]; exact Nat.ne_of_lt (blk_lt (g := gb227) (o := .cells #[.int .i64 a1_0, .int .i64 a1_1] 82 (0, 0)) (bk BK227.out)) : gb227 ≠ gb243)); have n16_ := Aside0.mk ((by rw [hg]; exact Nat.ne_of_gt (blk_lt (g := gb227) (o := .cells #[.int .i64 a1_0, .int .i64 a1_1] 82 (0, 0)) (bk BK227.out)) : gb243 ≠ gb227)); have n17_ := Aside0.mk ((by rw [hg]; exact Nat.ne_of_lt (blk_lt (g := gb228) (o := .cells #[.int .i64 a2_0, .int .i64 a2_1] 82 (0, 0)) (bk BK228.out)) : gb228 ≠ gb243)); have n18_ := Aside0.mk ((by rw [hg]; exact Nat.ne_of_gt (blk_lt (g := gb228) (o := .cells #[.int .i64 a2_0, .int .i64 a2_1] 82 (0, 0)) (bk BK228.out)) : gb243 ≠ gb228)); clear BK224; clear BK225; clear BK226; clear BK227; clear BK228; clear HB; have BK224 := n0_; have BK225 := n1_; have BK226 := n2_; have BK227 := n3_; have BK228 := n4_; have HB := n5_; have BK243 := n6_; have GW243 := n7_; have GE243 := n8_; have NB224_243 := n9_; have NB243_224 := n10_; have NB225_243 := n11_; have NB243_225 := n12_; have NB226_243 := n13_; have NB243_226 := n14_; have NB227_243 := n15_; have NB243_227 := n16_; have NB228_243 := n17_; have NB243_228 := n18_; clear n0_ n1_ n2_ n3_ n4_ n5_ n6_ n7_ n8_ n9_ n10_ n11_ n12_ n13_ n14_ n15_ n16_ n17_ n18_; clear hb hbox hg; have hnb136 := NB243_224.out; have hnc136 := NB224_243.out; have hnb137 := NB243_225.out; have hnc137 := NB225_243.out; have hnb138 := NB243_226.out; have hnc138 := NB226_243.out; have hnb139 := NB243_227.out; have hnc139 := NB227_243.out; have hnb140 := NB243_228.out; have hnc140 := NB228_243.out; have hcz141_0 : w135.cell? ⟨gb243, 0, none⟩ = some (.int .i64 0) := (blk_cell BK243.out 0).trans rfl; have hcz141_1 : w135.cell? ⟨gb243, 1, none⟩ = some (.int .i64 0) := (blk_cell BK243.out 1).trans rfl; have hfz141_0 := blk_frozen BK243.out 0; have hfz141_1 := blk_frozen BK243.out 1) | ((with_reducible refine gate_callee (f := 50) rfl ?_); refine goesL_ (some 74) rfl rfl Try.func50 (by kernel_rfl) rfl #[.int .i64 t241] rfl (by (try simp only [List.map_toArray, List.map_cons, List.map_nil]); first | done | rfl) ?_; (with_reducible refine (integers_number_integer.calls t241 false _ A56.out).mono ?_); rintro e w' ⟨rfl, ⟨nd, rfl⟩⟩; refine ⟨_, rfl, ?_⟩) | ((with_reducible refine gate_callee (f := 48) rfl ?_); refine goesL_ (some 80) rfl rfl Try.func48 (by kernel_rfl) rfl #[.int .i64 x10_33, .bool false, .int .i64 28] rfl (by (try simp only [List.map_toArray, List.map_cons, List.map_nil]); first | done | rfl) ?_; (with_reducible refine (integers_check_want.calls x10_33 false 28 t248 _ A102.out).mono ?_); rintro e w' ⟨rfl, ⟨nd, rfl⟩⟩; refine ⟨_, rfl, ?_⟩) | ((with_reducible refine gate_callee (f := 49) rfl ?_); refine goesL_ (some 85) rfl rfl Try.func49 (by kernel_rfl) rfl #[.int .i64 t248] rfl (by (try simp only [List.map_toArray, List.map_cons, List.map_nil]); first | done | rfl) ?_; (with_reducible refine (integers_check_err.calls t248 t249 _ A124.out).mono ?_); rintro e w' ⟨rfl, ⟨nd, rfl⟩⟩; refine ⟨_, rfl, ?_⟩; have hnb142 := NB226_224.out; have hnc142 := NB224_226.out; have hnb143 := NB226_225.out; have hnc143 := NB225_226.out; have hcz144_0 : w135.cell? ⟨gb226, 0, none⟩ = some (.int .i64 0) := (blk_cell BK226.out 0).trans rfl; have hcz144_1 : w135.cell? ⟨gb226, 1, none⟩ = some (.int .i64 0) := (blk_cell BK226.out 1).trans rfl; have hfz144_0 := blk_frozen BK226.out 0; have hfz144_1 := blk_frozen BK226.out 1))
          refine bodyPost_ret (results_ct rfl _ _ gb226 35 #[.int .i64 0, .int .i64 0] (0, 0) _ rfl (by refine bk (blk_put (cs := #[.int .i64 0, .int .i64 0]) ?_ 1 _ rfl); refine bk (blk_put (cs := #[.int .i64 0, .int .i64 0]) ?_ 0 _ rfl); refine bk (blk_far ?_ NB226_243.out _); refine bk (blk_far ?_ NB226_243.out _); exact bk BK226.out) Try.underlying35 rfl (by kernel_rfl)) rfl ?_
          exact ⟨by first | rfl | (simp [*] <;> rfl), by repeat (first | (with_reducible first | exact HB.out | apply below_alloc | apply pw_below_drewN | apply below_drew1 | refine below_set ?_ GE224.out | refine below_set ?_ GE225.out | refine below_set ?_ GE226.out | refine below_set ?_ GE227.out | refine below_set ?_ GE228.out | refine below_set ?_ GE243.out) | exact HB.out)⟩
      ·rw [if_neg c54] at H
       have c54b0 : (x10_33 == 0) = false := beq_eq_false_iff_ne.mpr c54
       have c54b1 : (x10_33 != 0) = true := bne_iff_ne.mpr c54
       replace H := Option.bind_eq_some_iff.mp H;obtain ⟨t240, A1450, H⟩ := H
       try dsimp only at H
       have A145 := Aside0.mk A1450;clear A1450
       as_aux_lemma =>
        simp only [Option.some.injEq, Prod.mk.injEq] at H;obtain ⟨rfl, rfl, rfl⟩ := H
        go_wp2_with (first | ((with_reducible refine gate_callee (f := 49) rfl ?_); refine goesL_ (some 66) rfl rfl Try.func49 (by kernel_rfl) rfl #[.int .i64 x10_33] rfl (by (try simp only [List.map_toArray, List.map_cons, List.map_nil]); first | done | rfl) ?_; (with_reducible refine (integers_check_err.calls x10_33 t240 _ A145.out).mono ?_); rintro e w' ⟨rfl, ⟨nd, rfl⟩⟩; refine ⟨_, rfl, ?_⟩; (try (rw [drewN_self wc]; generalize hq_ : World.drewN wc _ = wc; have n0_ : Aside0 (wc.heap[gb224]? = some (.cells #[.int .i64 a1_0, .int .i64 a1_1] 35 (0, 0))) := ⟨by rw [← hq_]; exact (bk BK224.out)⟩; have n1_ : Aside0 (wc.heap[gb225]? = some (.cells #[.int .i64 a2_0, .int .i64 a2_1] 35 (0, 0))) := ⟨by rw [← hq_]; exact (bk BK225.out)⟩; have n2_ : Aside0 (wc.heap[gb226]? = some (.cells #[.int .i64 0, .int .i64 0] 35 (0, 0))) := ⟨by rw [← hq_]; exact (bk BK226.out)⟩; have n3_ : Aside0 (wc.heap[gb227]? = some (.cells #[.int .i64 a1_0, .int .i64 a1_1] 82 (0, 0))) := ⟨by rw [← hq_]; exact (bk BK227.out)⟩; have n4_ : Aside0 (wc.heap[gb228]? = some (.cells #[.int .i64 a2_0, .int .i64 a2_1] 82 (0, 0))) := ⟨by rw [← hq_]; exact (bk BK228.out)⟩; have n5_ : Aside0 (Below w.heap.size w wc) := ⟨by rw [← hq_]; exact (by repeat (first | (with_reducible first | exact HB.out | apply below_alloc | apply pw_below_drewN | apply below_drew1 | refine below_set ?_ GE224.out | refine below_set ?_ GE225.out | refine below_set ?_ GE226.out | refine below_set ?_ GE227.out | refine below_set ?_ GE228.out) | exact HB.out))⟩; clear BK224 BK225 BK226 BK227 BK228 HB hq_; have BK224 := n0_; have BK225 := n1_; have BK226 := n2_; have BK227 := n3_; have BK228 := n4_; have HB := n5_; clear n0_ n1_ n2_ n3_ n4_ n5_)); have hnb146 := NB226_224.out; have hnc146 := NB224_226.out; have hnb147 := NB226_225.out; have hnc147 := NB225_226.out; have hnb148 := NB226_227.out; have hnc148 := NB227_226.out; have hnb149 := NB226_228.out; have hnc149 := NB228_226.out; have hcz150_0 : wc.cell? ⟨gb226, 0, none⟩ = some (.int .i64 0) := (blk_cell BK226.out 0).trans rfl; have hcz150_1 : wc.cell? ⟨gb226, 1, none⟩ = some (.int .i64 0) := (blk_cell BK226.out 1).trans rfl; have hfz150_0 := blk_frozen BK226.out 0; have hfz150_1 := blk_frozen BK226.out 1))
        refine bodyPost_ret (results_ct rfl _ _ gb226 35 #[.int .i64 0, .int .i64 0] (0, 0) _ rfl (by refine bk (blk_put (cs := #[.int .i64 0, .int .i64 0]) ?_ 1 _ rfl); refine bk (blk_put (cs := #[.int .i64 0, .int .i64 0]) ?_ 0 _ rfl); exact bk BK226.out) Try.underlying35 rfl (by kernel_rfl)) rfl ?_
        exact ⟨by first | rfl | (simp [*] <;> rfl), by repeat (first | (with_reducible first | exact HB.out | apply below_alloc | apply pw_below_drewN | apply below_drew1 | refine below_set ?_ GE224.out | refine below_set ?_ GE225.out | refine below_set ?_ GE226.out | refine below_set ?_ GE227.out | refine below_set ?_ GE228.out) | exact HB.out)⟩
   ·rw [if_neg c33] at H
    have c33b0 : (x10_3 == 0) = false := beq_eq_false_iff_ne.mpr c33
    have c33b1 : (x10_3 != 0) = true := bne_iff_ne.mpr c33
    replace H := Option.bind_eq_some_iff.mp H;obtain ⟨t236, A1510, H⟩ := H
    try dsimp only at H
    have A151 := Aside0.mk A1510;clear A1510
    as_aux_lemma =>
     simp only [Option.some.injEq, Prod.mk.injEq] at H;obtain ⟨rfl, rfl, rfl⟩ := H
     go_wp2_with (first | ((with_reducible refine gate_callee (f := 49) rfl ?_); refine goesL_ (some 41) rfl rfl Try.func49 (by kernel_rfl) rfl #[.int .i64 x10_3] rfl (by (try simp only [List.map_toArray, List.map_cons, List.map_nil]); first | done | rfl) ?_; (with_reducible refine (integers_check_err.calls x10_3 t236 _ A151.out).mono ?_); rintro e w' ⟨rfl, ⟨nd, rfl⟩⟩; refine ⟨_, rfl, ?_⟩; (try (rw [drewN_self wc]; generalize hq_ : World.drewN wc _ = wc; have n0_ : Aside0 (wc.heap[gb224]? = some (.cells #[.int .i64 a1_0, .int .i64 a1_1] 35 (0, 0))) := ⟨by rw [← hq_]; exact (bk BK224.out)⟩; have n1_ : Aside0 (wc.heap[gb225]? = some (.cells #[.int .i64 a2_0, .int .i64 a2_1] 35 (0, 0))) := ⟨by rw [← hq_]; exact (bk BK225.out)⟩; have n2_ : Aside0 (wc.heap[gb226]? = some (.cells #[.int .i64 0, .int .i64 0] 35 (0, 0))) := ⟨by rw [← hq_]; exact (bk BK226.out)⟩; have n3_ : Aside0 (wc.heap[gb227]? = some (.cells #[.int .i64 a1_0, .int .i64 a1_1] 82 (0, 0))) := ⟨by rw [← hq_]; exact (bk BK227.out)⟩; have n4_ : Aside0 (wc.heap[gb228]? = some (.cells #[.int .i64 a2_0, .int .i64 a2_1] 82 (0, 0))) := ⟨by rw [← hq_]; exact (bk BK228.out)⟩; have n5_ : Aside0 (Below w.heap.size w wc) := ⟨by rw [← hq_]; exact (by repeat (first | (with_reducible first | exact HB.out | apply below_alloc | apply pw_below_drewN | apply below_drew1 | refine below_set ?_ GE224.out | refine below_set ?_ GE225.out | refine below_set ?_ GE226.out | refine below_set ?_ GE227.out | refine below_set ?_ GE228.out) | exact HB.out))⟩; clear BK224 BK225 BK226 BK227 BK228 HB hq_; have BK224 := n0_; have BK225 := n1_; have BK226 := n2_; have BK227 := n3_; have BK228 := n4_; have HB := n5_; clear n0_ n1_ n2_ n3_ n4_ n5_)); have hnb152 := NB226_224.out; have hnc152 := NB224_226.out; have hnb153 := NB226_225.out; have hnc153 := NB225_226.out; have hnb154 := NB226_227.out; have hnc154 := NB227_226.out; have hnb155 := NB226_228.out; have hnc155 := NB228_226.out; have hcz156_0 : wc.cell? ⟨gb226, 0, none⟩ = some (.int .i64 0) := (blk_cell BK226.out 0).trans rfl; have hcz156_1 : wc.cell? ⟨gb226, 1, none⟩ = some (.int .i64 0) := (blk_cell BK226.out 1).trans rfl; have hfz156_0 := blk_frozen BK226.out 0; have hfz156_1 := blk_frozen BK226.out 1))
     refine bodyPost_ret (results_ct rfl _ _ gb226 35 #[.int .i64 0, .int .i64 0] (0, 0) _ rfl (by refine bk (blk_put (cs := #[.int .i64 0, .int .i64 0]) ?_ 1 _ rfl); refine bk (blk_put (cs := #[.int .i64 0, .int .i64 0]) ?_ 0 _ rfl); exact bk BK226.out) Try.underlying35 rfl (by kernel_rfl)) rfl ?_
     exact ⟨by first | rfl | (simp [*] <;> rfl), by repeat (first | (with_reducible first | exact HB.out | apply below_alloc | apply pw_below_drewN | apply below_drew1 | refine below_set ?_ GE224.out | refine below_set ?_ GE225.out | refine below_set ?_ GE226.out | refine below_set ?_ GE227.out | refine below_set ?_ GE228.out) | exact HB.out)⟩

end Go.Proofs.Ytgmlihjopinagaa.PIntegersRanges
