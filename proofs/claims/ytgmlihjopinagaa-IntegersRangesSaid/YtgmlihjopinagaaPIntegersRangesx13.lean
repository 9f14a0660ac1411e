-- (short) Written by myprint.py of this session over the kit's print program; contracts by hand where it does not serve.
import Derived.Test.YtgmlihjopinagaaPIntegersRangesx0
import Derived.Test.YtgmlihjopinagaaPIntegersRangesx1
import Derived.Test.YtgmlihjopinagaaPIntegersRangesx3
import Derived.Test.YtgmlihjopinagaaPIntegersRangesx8
import Derived.Test.YtgmlihjopinagaaPIntegersRangesx9
import Derived.Test.YtgmlihjopinagaaPIntegersRangesx11
import Derived.Test.YtgmlihjopinagaaPIntegersRangesx12
namespace Go.Proofs.Ytgmlihjopinagaa.PIntegersRanges
open Go.RowKit Go.Proofs.YtgmlihjopinagaaW.PrintWords Go.Proofs.YtgmlihjopinagaaW.PrintLast Go.Proofs.YtgmlihjopinagaaW.PrintMore
attribute [local go_sem] max2_int min2_int max_two min_two max_three min_three max_four min_four   -- for this text's walks alone
set_option linter.unusedVariables false
set_option linter.unusedSimpArgs false

attribute [local go_sem high] eqA35
/-! ### formularylaw07_IntegersRanges: function 6 -/
def formularylaw07_IntegersRanges.j0 : Nat → Int → Int → Bool → Int → Int → Int → Int → Int → Int → Int → Int → Option (Bool)
 | 0, _, _, _, _, _, _, _, _, _, _, _ => none
 | k + 1, x0, x12, x50, x335000, x335001, x337000, x337001, x338000, x338001, x342000, x342001 => if x50 = true then (none) else (if x12 = 0 then ((formularybase_Mod.f x335000 (wrap64 ((wrap64 (x337001 - x337000)) + 1))).bind fun t346 => ((formularybase_Mod.f x335001 (wrap64 ((wrap64 (x338001 - x338000)) + 1))).bind fun t347 => ((integers_Apply.f k x0 (wrap64 (x337000 + t346)) (wrap64 (x338000 + t347))).bind fun bt348 => (if bt348.2 = 0 then ((formularybase_Within.f bt348.1 x342000 x342001).bind fun t350 => (some t350)) else (none))))) else (some true))
def formularylaw07_IntegersRanges.f (k : Nat) (a0 : Int) (a1_0 : Int) (a1_1 : Int) (a1_2 : Int) (a1_3 : Int) (a2_0 : Int) (a2_1 : Int) : Option (Bool) := (formularylaw07_awake.f k).bind fun t335 => (if t335 = true then ((integers_RangeOf.f k a0 a1_0 a1_1 a1_2 a1_3).bind fun bt338 => ((fr7_RangeOf.f k a0 a1_0 a1_1 a1_2 a1_3).bind fun bt342 => (if bt338.2.2 = bt342.2.2 then (formularylaw07_IntegersRanges.j0 k a0 bt342.2.2 (!(bt338.1 == bt342.1) || (!(bt338.2.1 == bt342.2.1))) a2_0 a2_1 a1_0 a1_1 a1_2 a1_3 bt338.1 bt338.2.1) else (none)))) else (none))
theorem formularylaw07_IntegersRanges.mono_l : ∀ k, (∀ y0 y1 y2 y3 y4 y5 y6 y7 y8 y9 y10, LeO (formularylaw07_IntegersRanges.j0 k y0 y1 y2 y3 y4 y5 y6 y7 y8 y9 y10) (formularylaw07_IntegersRanges.j0 (k + 1) y0 y1 y2 y3 y4 y5 y6 y7 y8 y9 y10))
 | 0 => fun _ _ _ _ _ _ _ _ _ _ _ r h => by simp [formularylaw07_IntegersRanges.j0] at h
 | k + 1 => by
  have ih0 := formularylaw07_IntegersRanges.mono_l k
  ·intro y0 y1 y2 y3 y4 y5 y6 y7 y8 y9 y10
   unfold formularylaw07_IntegersRanges.j0
   repeat' first
   | (with_reducible exact ih0 _ _ _ _ _ _ _ _ _ _ _)
   | (with_reducible exact formularylaw07_awake.mono _)
   | (with_reducible exact fr7_RangeOf.mono _ _ _ _ _ _)
   | (with_reducible exact integers_Apply.mono _ _ _ _)
   | (with_reducible exact integers_RangeOf.mono _ _ _ _ _ _)
   | (with_reducible exact LeO.refl _)
   | (with_reducible exact LeO.none _)
   | (with_reducible refine LeO.ite ?_ ?_)
   | (with_reducible refine LeO.bind ?_ (fun _ => ?_))
   | exact ih0 _ _ _ _ _ _ _ _ _ _ _
   | exact formularylaw07_awake.mono _
   | exact fr7_RangeOf.mono _ _ _ _ _ _
   | exact integers_Apply.mono _ _ _ _
   | exact integers_RangeOf.mono _ _ _ _ _ _
   | exact LeO.none _
   | refine LeO.ite ?_ ?_
   | refine LeO.bind ?_ (fun _ => ?_)
theorem formularylaw07_IntegersRanges.mono : ∀ a0 a1 a2 a3 a4 a5 a6 k, LeO (formularylaw07_IntegersRanges.f k a0 a1 a2 a3 a4 a5 a6) (formularylaw07_IntegersRanges.f (k + 1) a0 a1 a2 a3 a4 a5 a6) := by
 intro a0 a1 a2 a3 a4 a5 a6 k
 have ih0 := formularylaw07_IntegersRanges.mono_l k
 unfold formularylaw07_IntegersRanges.f
 repeat' first
   | (with_reducible exact ih0 _ _ _ _ _ _ _ _ _ _ _)
   | (with_reducible exact formularylaw07_awake.mono _)
   | (with_reducible exact fr7_RangeOf.mono _ _ _ _ _ _)
   | (with_reducible exact integers_Apply.mono _ _ _ _)
   | (with_reducible exact integers_RangeOf.mono _ _ _ _ _ _)
   | (with_reducible exact LeO.refl _)
   | (with_reducible exact LeO.none _)
   | (with_reducible refine LeO.ite ?_ ?_)
   | (with_reducible refine LeO.bind ?_ (fun _ => ?_))
   | exact ih0 _ _ _ _ _ _ _ _ _ _ _
   | exact formularylaw07_awake.mono _
   | exact fr7_RangeOf.mono _ _ _ _ _ _
   | exact integers_Apply.mono _ _ _ _
   | exact integers_RangeOf.mono _ _ _ _ _ _
   | exact LeO.none _
   | refine LeO.ite ?_ ?_
   | refine LeO.bind ?_ (fun _ => ?_)
def formularylaw07_IntegersRanges.T3 : Bool × List (List Nat × List Nat) := (true, [([], []), ([0], [0]), ([], []), ([2], [2]), ([1, 3], [1, 3]), ([], []), ([5], [5]), ([], []), ([7], [7]), ([6, 8], [6, 8]), ([], []), ([], []), ([10, 4, 0, 1, 2, 3, 4, 10, 11], [4, 10]), ([11, 9, 12, 0, 1, 2, 3, 4, 5, 6, 7, 8, 9, 10, 11, 12], [9, 11])])
def formularylaw07_IntegersRanges.B3 : List Nat := [0, 1, 0, 4, 15, 0, 32, 0, 128, 480, 0, 0, 3103, 8191]
theorem formularylaw07_IntegersRanges.tab3 : rtab .any (opsOf Try.f6 3) = formularylaw07_IntegersRanges.T3 := by kernel_rfl
theorem formularylaw07_IntegersRanges.bits3 : waitsOk formularylaw07_IntegersRanges.T3.2 formularylaw07_IntegersRanges.B3 = true := by kernel_rfl
def formularylaw07_IntegersRanges.T10 : Bool × List (List Nat × List Nat) := (true, [([], []), ([0], [0]), ([], []), ([2], [2]), ([], []), ([4], [4]), ([], []), ([6], [6]), ([5, 7], [5, 7]), ([8], [8]), ([3, 9], [3, 9]), ([1, 10], [1, 10]), ([11, 10, 0, 1, 2, 3, 4, 5, 6, 7, 8, 9, 10, 11], [11])])
def formularylaw07_IntegersRanges.B10 : List Nat := [0, 1, 0, 4, 0, 16, 0, 64, 240, 496, 1020, 2047, 4095]
theorem formularylaw07_IntegersRanges.tab10 : rtab .any (opsOf Try.f6 10) = formularylaw07_IntegersRanges.T10 := by kernel_rfl
theorem formularylaw07_IntegersRanges.bits10 : waitsOk formularylaw07_IntegersRanges.T10.2 formularylaw07_IntegersRanges.B10 = true := by kernel_rfl
def formularylaw07_IntegersRanges.T11 : Bool × List (List Nat × List Nat) := (true, [([], []), ([0], [0]), ([], []), ([2], [2]), ([], []), ([4], [4]), ([], []), ([6], [6]), ([5, 7], [5, 7]), ([8], [8]), ([3, 9], [3, 9]), ([1, 10], [1, 10]), ([11, 10, 0, 1, 2, 3, 4, 5, 6, 7, 8, 9, 10, 11], [11])])
def formularylaw07_IntegersRanges.B11 : List Nat := [0, 1, 0, 4, 0, 16, 0, 64, 240, 496, 1020, 2047, 4095]
theorem formularylaw07_IntegersRanges.tab11 : rtab .any (opsOf Try.f6 11) = formularylaw07_IntegersRanges.T11 := by kernel_rfl
theorem formularylaw07_IntegersRanges.bits11 : waitsOk formularylaw07_IntegersRanges.T11.2 formularylaw07_IntegersRanges.B11 = true := by kernel_rfl
set_option maxHeartbeats 8000000 in
set_option maxRecDepth 100000 in
theorem formularylaw07_IntegersRanges.calls (k : Nat) (a0 : Int) (a1_0 : Int) (a1_1 : Int) (a1_2 : Int) (a1_3 : Int) (a2_0 : Int) (a2_1 : Int) (r : Bool) (w : World) (h : formularylaw07_IntegersRanges.f k a0 a1_0 a1_1 a1_2 a1_3 a2_0 a2_1 = some r) :
  Calls Try.prog 6 #[.int .i64 a0, .agg #[.int .i64 a1_0, .int .i64 a1_1, .int .i64 a1_2, .int .i64 a1_3], .agg #[.int .i64 a2_0, .int .i64 a2_1]] w fun e w' => e = .returned (.bool r) ∧ Below w.heap.size w w' := by
 have hu32 := Try.underlying32;have hu33 := Try.underlying33;have hu35 := Try.underlying35;have HB := Aside0.mk (Below.refl w.heap.size w)
 have H : ((formularylaw07_awake.f k).bind fun t335 => (if t335 = true then ((integers_RangeOf.f k a0 a1_0 a1_1 a1_2 a1_3).bind fun bt338 => ((fr7_RangeOf.f k a0 a1_0 a1_1 a1_2 a1_3).bind fun bt342 => (if bt338.2.2 = bt342.2.2 then (formularylaw07_IntegersRanges.j0 k a0 bt342.2.2 (!(bt338.1 == bt342.1) || (!(bt338.2.1 == bt342.2.1))) a2_0 a2_1 a1_0 a1_1 a1_2 a1_3 bt338.1 bt338.2.1) else (none)))) else (none))) = some r := h
 clear h;replace H := Option.bind_eq_some_iff.mp H;obtain ⟨t335, A40, H⟩ := H
 try dsimp only at H
 have A4 := Aside0.mk A40;clear A40
 by_cases c5 : t335 = true
 ·subst c5
  have H1 : ((integers_RangeOf.f k a0 a1_0 a1_1 a1_2 a1_3).bind fun bt338 => ((fr7_RangeOf.f k a0 a1_0 a1_1 a1_2 a1_3).bind fun bt342 => (if bt338.2.2 = bt342.2.2 then (formularylaw07_IntegersRanges.j0 k a0 bt342.2.2 (!(bt338.1 == bt342.1) || (!(bt338.2.1 == bt342.2.1))) a2_0 a2_1 a1_0 a1_1 a1_2 a1_3 bt338.1 bt338.2.1) else (none)))) = some r := by rw [if_pos rfl] at H; exact H
  clear H;have H := H1;clear H1;replace H := Option.bind_eq_some_iff.mp H;obtain ⟨⟨t338, t339, t340⟩, A60, H⟩ := H
  try dsimp only at H
  have A6 := Aside0.mk A60;clear A60;replace H := Option.bind_eq_some_iff.mp H;obtain ⟨⟨t342, t343, t344⟩, A70, H⟩ := H
  try dsimp only at H
  have A7 := Aside0.mk A70;clear A70;have HC8 := Aside0.mk H;clear H
  go_enter Try.func6, Try.ntmps6
  try go_wp2_with (first | ((with_reducible refine gate_dst (N := 4) rfl ?_); refine box_event ?hg (N := 4) ?hd (cs := #[.int .i64 a1_0, .int .i64 a1_1, .int .i64 a1_2, .int .i64 a1_3]) (t := 32) ?hr ?_; (case hd => rfl); (case hg => rfl); (case hr => first | (go_simp; done) | (go_simp; rfl)); intro gb333 hg w9 hbox hb; have n0_ := Aside0.mk (below_step (bw HB.out) hb); have n1_ := Aside0.mk (hbox); have n2_ := Aside0.mk ((by rw [hg]; exact (below_size (bw HB.out)) : w.heap.size ≤ gb333)); have n3_ := Aside0.mk ((by rw [hg]; exact (below_size (bw HB.out)) : w.heap.size ≤ gb333)); clear HB; have HB := n0_; have BK333 := n1_; have GW333 := n2_; have GE333 := n3_; clear n0_ n1_ n2_ n3_; clear hb hbox hg) | ((with_reducible refine gate_dst (N := 5) rfl ?_); refine box_event ?hg (N := 5) ?hd (cs := #[.int .i64 a2_0, .int .i64 a2_1]) (t := 33) ?hr ?_; (case hd => rfl); (case hg => rfl); (case hr => first | (go_simp; done) | (go_simp; rfl)); intro gb334 hg w10 hbox hb; have n0_ := Aside0.mk (blk_below (g := gb333) (o := .cells #[.int .i64 a1_0, .int .i64 a1_1, .int .i64 a1_2, .int .i64 a1_3] 32 (0, 0)) (bk BK333.out) hb); have n1_ := Aside0.mk (below_step (by repeat (first | (with_reducible first | exact HB.out | apply below_alloc | apply pw_below_drewN | apply below_drew1 | refine below_set ?_ GE333.out) | exact HB.out)) hb); have n2_ := Aside0.mk (hbox); have n3_ := Aside0.mk ((by rw [hg]; exact (below_size (by repeat (first | (with_reducible first | exact HB.out | apply below_alloc | apply pw_below_drewN | apply below_drew1 | refine below_set ?_ GE333.out) | exact HB.out))) : w.heap.size ≤ gb334)); have n4_ := Aside0.mk ((by rw [hg]; exact (below_size (by repeat (first | (with_reducible first | exact HB.out | apply below_alloc | apply pw_below_drewN | apply below_drew1 | refine below_set ?_ GE333.out) | exact HB.out))) : w.heap.size ≤ gb334)); have n5_ := Aside0.mk ((by rw [hg]; exact Nat.ne_of_lt (blk_lt (g := gb333) (o := .cells #[.int .i64 a1_0, .int .i64 a1_1, .int .i64 a1_2, .int .i64 a1_3] 32 (0, 0)) (bk BK333.out)) : gb333 ≠ gb334)); have n6_ := Aside0.mk ((by rw [hg]; exact Nat.ne_of_gt (blk_lt (g := gb333) (o := .cells #[.int .i64 a1_0, .int .i64 a1_1, .int .i64 a1_2, .int .i64 a1_3] 32 (0, 0)) (bk BK333.out)) : gb334 ≠ gb333)); clear BK333; clear HB; have BK333 := n0_; have HB := n1_; have BK334 := n2_; have GW334 := n3_; have GE334 := n4_; have NB333_334 := n5_; have NB334_333 := n6_; clear n0_ n1_ n2_ n3_ n4_ n5_ n6_; clear hb hbox hg) | ((with_reducible refine gate_callee (f := 12) rfl ?_); refine goesL_ (some 17) rfl rfl Try.func12 (by kernel_rfl) rfl #[] rfl (by (try simp only [List.map_toArray, List.map_cons, List.map_nil]); first | done | rfl) ?_; (with_reducible refine (formularylaw07_awake.calls k  true _ A4.out).mono ?_); rintro e w11 ⟨rfl, hb⟩; refine ⟨_, rfl, ?_⟩; have n0_ := Aside0.mk (blk_below (g := gb333) (o := .cells #[.int .i64 a1_0, .int .i64 a1_1, .int .i64 a1_2, .int .i64 a1_3] 32 (0, 0)) (bk BK333.out) hb); have n1_ := Aside0.mk (blk_below (g := gb334) (o := .cells #[.int .i64 a2_0, .int .i64 a2_1] 33 (0, 0)) (bk BK334.out) hb); have n2_ := Aside0.mk (below_step (by repeat (first | (with_reducible first | exact HB.out | apply below_alloc | apply pw_below_drewN | apply below_drew1 | refine below_set ?_ GE333.out | refine below_set ?_ GE334.out) | exact HB.out)) hb); clear BK333; clear BK334; clear HB; have BK333 := n0_; have BK334 := n1_; have HB := n2_; clear n0_ n1_ n2_; (try clear hb); (try clear hb2); (try clear hk); (try clear hi)))
  have n0_ := Aside0.mk (blk_drew BK333.out);have n1_ := Aside0.mk (blk_drew BK334.out);have n2_ := Aside0.mk (below_drew1 HB.out);clear BK333;clear BK334;clear HB;have BK333 := n0_;have BK334 := n1_;have HB := n2_;clear n0_ n1_ n2_
  refine start_ (n := 14) (S := fun w' => w'.cell? ⟨gb333, 0, none⟩ = some (.int .i64 a1_0) ∧ w'.cell? ⟨gb333, 1, none⟩ = some (.int .i64 a1_1) ∧ w'.cell? ⟨gb333, 2, none⟩ = some (.int .i64 a1_2) ∧ w'.cell? ⟨gb333, 3, none⟩ = some (.int .i64 a1_3)) (ds := []) #[false, false, false, false, false, false, false, false, false, false, false, false, false, false] (by kernel_rfl) rfl rfl ⟨(blk_cell BK333.out 0).trans rfl, (blk_cell BK333.out 1).trans rfl, (blk_cell BK333.out 2).trans rfl, (blk_cell BK333.out 3).trans rfl⟩ (fun hHeld => ?_); refine with_tabW formularylaw07_IntegersRanges.tab3 formularylaw07_IntegersRanges.bits3 (fun HT_ HW_ => ?_)
  generalize w11.drew = w12 at BK333 BK334 HB hHeld ⊢
  refine pure_ (i := 0) (N := some 19) (v := ?_) (a' := ?_) #[true, false, false, false, false, false, false, false, false, false, false, false, false, false] rfl rfl (any_of HT_.out (by kernel_rfl)) (fun _ _ _ h => h) (Or.inl ⟨by rfl, ?_⟩) ?_ ?_
  rotate_left
  ·intro w'
   go_simp
   with_reducible rfl
  rotate_left
  ·simp only [Act.put, List.setIfInBounds_toArray, List.set_cons_zero, List.set_cons_succ, i64_w, i32_w]
   rfl
  refine pure_ (i := 2) (N := some 21) (v := ?_) (a' := ?_) #[true, false, true, false, false, false, false, false, false, false, false, false, false, false] rfl rfl (any_of HT_.out (by kernel_rfl)) (fun _ _ _ h => h) (Or.inl ⟨by rfl, ?_⟩) ?_ ?_
  rotate_left
  ·intro w'
   go_simp
   with_reducible rfl
  rotate_left
  ·simp only [Act.put, List.setIfInBounds_toArray, List.set_cons_zero, List.set_cons_succ, i64_w, i32_w]
   rfl
  refine pure_ (i := 5) (N := some 24) (v := ?_) (a' := ?_) #[true, false, true, false, false, true, false, false, false, false, false, false, false, false] rfl rfl (any_of HT_.out (by kernel_rfl)) (fun _ _ _ h => h) (Or.inl ⟨by rfl, ?_⟩) ?_ ?_
  rotate_left
  ·intro w'
   go_simp
   with_reducible rfl
  rotate_left
  ·simp only [Act.put, List.setIfInBounds_toArray, List.set_cons_zero, List.set_cons_succ, i64_w, i32_w]
   rfl
  refine pure_ (i := 7) (N := some 26) (v := ?_) (a' := ?_) #[true, false, true, false, false, true, false, true, false, false, false, false, false, false] rfl rfl (any_of HT_.out (by kernel_rfl)) (fun _ _ _ h => h) (Or.inl ⟨by rfl, ?_⟩) ?_ ?_
  rotate_left
  ·intro w'
   go_simp
   with_reducible rfl
  rotate_left
  ·simp only [Act.put, List.setIfInBounds_toArray, List.set_cons_zero, List.set_cons_succ, i64_w, i32_w]
   rfl
  refine take_ (i := 1) (N := some 20) (v := ?_) (a' := ?_) #[true, true, true, false, false, true, false, true, false, false, false, false, false, false] rfl rfl (take_ofW HT_.out HW_.out (by kernel_rfl)) (fun _ _ _ h => h) (Or.inl ⟨by rfl, ?_⟩) hHeld ?_ ?_
  rotate_left
  ·rintro w' ⟨s0, s1, s2, s3⟩
   go_simp
   with_reducible rfl
  rotate_left
  ·simp only [Act.put, List.setIfInBounds_toArray, List.set_cons_zero, List.set_cons_succ, i64_w, i32_w]
   rfl
  refine take_ (i := 3) (N := some 22) (v := ?_) (a' := ?_) #[true, true, true, true, false, true, false, true, false, false, false, false, false, false] rfl rfl (take_ofW HT_.out HW_.out (by kernel_rfl)) (fun _ _ _ h => h) (Or.inl ⟨by rfl, ?_⟩) hHeld ?_ ?_
  rotate_left
  ·rintro w' ⟨s0, s1, s2, s3⟩
   go_simp
   with_reducible rfl
  rotate_left
  ·simp only [Act.put, List.setIfInBounds_toArray, List.set_cons_zero, List.set_cons_succ, i64_w, i32_w]
   rfl
  refine pure_ (i := 4) (N := some 23) (v := ?_) (a' := ?_) #[true, true, true, true, true, true, false, true, false, false, false, false, false, false] rfl rfl (any_of HT_.out (by kernel_rfl)) (fun _ _ _ h => h) (Or.inl ⟨by rfl, ?_⟩) ?_ ?_
  rotate_left
  ·intro w'
   go_simp
   with_reducible rfl
  rotate_left
  ·simp only [Act.put, List.setIfInBounds_toArray, List.set_cons_zero, List.set_cons_succ, i64_w, i32_w]
   rfl
  refine take_ (i := 6) (N := some 25) (v := ?_) (a' := ?_) #[true, true, true, true, true, true, true, true, false, false, false, false, false, false] rfl rfl (take_ofW HT_.out HW_.out (by kernel_rfl)) (fun _ _ _ h => h) (Or.inl ⟨by rfl, ?_⟩) hHeld ?_ ?_
  rotate_left
  ·rintro w' ⟨s0, s1, s2, s3⟩
   go_simp
   with_reducible rfl
  rotate_left
  ·simp only [Act.put, List.setIfInBounds_toArray, List.set_cons_zero, List.set_cons_succ, i64_w, i32_w]
   rfl
  refine take_ (i := 8) (N := some 27) (v := ?_) (a' := ?_) #[true, true, true, true, true, true, true, true, true, false, false, false, false, false] rfl rfl (take_ofW HT_.out HW_.out (by kernel_rfl)) (fun _ _ _ h => h) (Or.inl ⟨by rfl, ?_⟩) hHeld ?_ ?_
  rotate_left
  ·rintro w' ⟨s0, s1, s2, s3⟩
   go_simp
   with_reducible rfl
  rotate_left
  ·simp only [Act.put, List.setIfInBounds_toArray, List.set_cons_zero, List.set_cons_succ, i64_w, i32_w]
   rfl
  refine pure_ (i := 9) (N := some 28) (v := ?_) (a' := ?_) #[true, true, true, true, true, true, true, true, true, true, false, false, false, false] rfl rfl (any_of HT_.out (by kernel_rfl)) (fun _ _ _ h => h) (Or.inl ⟨by rfl, ?_⟩) ?_ ?_
  rotate_left
  ·intro w'
   go_simp
   with_reducible rfl
  rotate_left
  ·simp only [Act.put, List.setIfInBounds_toArray, List.set_cons_zero, List.set_cons_succ, i64_w, i32_w]
   rfl
  refine join_ (σ := Nat × Nat) 2 #[true, true, true, true, true, true, true, true, true, true, true, true, false, false] (fun s_ => [(7, .pointer (some ⟨s_.1, 0, none⟩)), (8, .pointer (some ⟨s_.2, 0, none⟩))]) (fun s_ w' => (w'.cell? ⟨gb333, 0, none⟩ = some (.int .i64 a1_0) ∧ w'.cell? ⟨gb333, 1, none⟩ = some (.int .i64 a1_1) ∧ w'.cell? ⟨gb333, 2, none⟩ = some (.int .i64 a1_2) ∧ w'.cell? ⟨gb333, 3, none⟩ = some (.int .i64 a1_3)) ∧ (w'.heap[gb333]? = some (.cells #[.int .i64 a1_0, .int .i64 a1_1, .int .i64 a1_2, .int .i64 a1_3] 32 (0, 0))) ∧ (w'.heap[gb334]? = some (.cells #[.int .i64 a2_0, .int .i64 a2_1] 33 (0, 0))) ∧ (w'.heap[s_.1]? = some (.cells #[.int .i64 0, .int .i64 0] 35 (0, 0))) ∧ (w'.heap[s_.2]? = some (.cells #[.int .i64 0, .int .i64 0] 35 (0, 0))) ∧ (w.heap.size ≤ s_.1) ∧ (w.heap.size ≤ s_.1) ∧ (gb333 ≠ s_.1) ∧ (s_.1 ≠ gb333) ∧ (gb334 ≠ s_.1) ∧ (s_.1 ≠ gb334) ∧ (s_.2 ≠ s_.1) ∧ (s_.1 ≠ s_.2) ∧ (w.heap.size ≤ s_.2) ∧ (w.heap.size ≤ s_.2) ∧ (gb333 ≠ s_.2) ∧ (s_.2 ≠ gb333) ∧ (gb334 ≠ s_.2) ∧ (s_.2 ≠ gb334) ∧ (Below w.heap.size w w')) ?_ ?_
  rotate_left
  ·intro hCont
   refine two_ (i := 10) (j := 11) (Ni := some 7) (Nj := some 8) #[true, true, true, true, true, true, true, true, true, true, true, false, false, false] #[true, true, true, true, true, true, true, true, true, true, false, true, false, false] rfl rfl rfl rfl (two_of HT_.out (by kernel_rfl)) (by decide) (by decide) (fun K hK => ?_) (fun K hK => ?_)
   ·skip
    refine box_step ?hg (N := 7) ?hd (cs := #[.int .i64 0, .int .i64 0]) (t := 35) ?hr ?_; (case hd => rfl); (case hg => rfl); (case hr => first | (go_simp; done) | (go_simp; rfl))
    intro gb336 hg w13 hbox hb
    have n0_ := Aside0.mk (blk_below (g := gb333) (o := .cells #[.int .i64 a1_0, .int .i64 a1_1, .int .i64 a1_2, .int .i64 a1_3] 32 (0, 0)) (bk BK333.out) hb);have n1_ := Aside0.mk (blk_below (g := gb334) (o := .cells #[.int .i64 a2_0, .int .i64 a2_1] 33 (0, 0)) (bk BK334.out) hb)
    have n2_ := Aside0.mk (below_step (by repeat (first | (with_reducible first | exact HB.out | apply below_alloc | apply pw_below_drewN | apply below_drew1 | refine below_set ?_ GE333.out | refine below_set ?_ GE334.out) | exact HB.out)) hb)
    have n3_ := Aside0.mk (hbox)
    have n4_ := Aside0.mk ((by rw [hg]; exact (below_size (by repeat (first | (with_reducible first | exact HB.out | apply below_alloc | apply pw_below_drewN | apply below_drew1 | refine below_set ?_ GE333.out | refine below_set ?_ GE334.out) | exact HB.out))) : w.heap.size ≤ gb336))
    have n5_ := Aside0.mk ((by rw [hg]; exact (below_size (by repeat (first | (with_reducible first | exact HB.out | apply below_alloc | apply pw_below_drewN | apply below_drew1 | refine below_set ?_ GE333.out | refine below_set ?_ GE334.out) | exact HB.out))) : w.heap.size ≤ gb336))
    have n6_ := Aside0.mk ((by rw [hg]; exact Nat.ne_of_lt (blk_lt (g := gb333) (o := .cells #[.int .i64 a1_0, .int .i64 a1_1, .int .i64 a1_2, .int .i64 a1_3] 32 (0, 0)) (bk BK333.out)) : gb333 ≠ gb336))
    have n7_ := Aside0.mk ((by rw [hg]; exact Nat.ne_of_gt (blk_lt (g := gb333) (o := .cells #[.int .i64 a1_0, .int .i64 a1_1, .int .i64 a1_2, .int .i64 a1_3] 32 (0, 0)) (bk BK333.out)) : gb336 ≠ gb333))
    have n8_ := Aside0.mk ((by rw [hg]; exact Nat.ne_of_lt (blk_lt (g := gb334) (o := .cells #[.int .i64 a2_0, .int .i64 a2_1] 33 (0, 0)) (bk BK334.out)) : gb334 ≠ gb336))
    have n9_ := Aside0.mk ((by rw [hg]; exact Nat.ne_of_gt (blk_lt (g := gb334) (o := .cells #[.int .i64 a2_0, .int .i64 a2_1] 33 (0, 0)) (bk BK334.out)) : gb336 ≠ gb334))
    clear BK333;clear BK334;clear HB;have BK333 := n0_;have BK334 := n1_;have HB := n2_;have BK336 := n3_;have GW336 := n4_;have GE336 := n5_;have NB333_336 := n6_;have NB336_333 := n7_;have NB334_336 := n8_;have NB336_334 := n9_;clear n0_ n1_ n2_ n3_ n4_ n5_ n6_ n7_ n8_ n9_;clear hb hbox hg
    refine hK.out _ _ ⟨(blk_cell BK333.out 0).trans rfl, (blk_cell BK333.out 1).trans rfl, (blk_cell BK333.out 2).trans rfl, (blk_cell BK333.out 3).trans rfl⟩ (fun hHeld => ?_)
    clear hK K
    refine norm_ (a' := ?_) ?_ ?_
    rotate_left
    ·show Act.put _ (some 7) _ = _
     simp only [Act.put, List.setIfInBounds_toArray, List.set_cons_zero, List.set_cons_succ, i64_w, i32_w]
     rfl
    refine one_ (i := 11) (N := some 8) #[true, true, true, true, true, true, true, true, true, true, true, true, false, false] rfl rfl (one_of HT_.out (by kernel_rfl)) (by decide) (fun K hK => ?_)
    refine box_step ?hg (N := 8) ?hd (cs := #[.int .i64 0, .int .i64 0]) (t := 35) ?hr ?_; (case hd => rfl); (case hg => rfl); (case hr => first | (go_simp; done) | (go_simp; rfl))
    intro gb337 hg w14 hbox hb
    have n0_ := Aside0.mk (blk_below (g := gb333) (o := .cells #[.int .i64 a1_0, .int .i64 a1_1, .int .i64 a1_2, .int .i64 a1_3] 32 (0, 0)) (bk BK333.out) hb);have n1_ := Aside0.mk (blk_below (g := gb334) (o := .cells #[.int .i64 a2_0, .int .i64 a2_1] 33 (0, 0)) (bk BK334.out) hb);have n2_ := Aside0.mk (blk_below (g := gb336) (o := .cells #[.int .i64 0, .int .i64 0] 35 (0, 0)) (bk BK336.out) hb)
    have n3_ := Aside0.mk (below_step (by repeat (first | (with_reducible first | exact HB.out | apply below_alloc | apply pw_below_drewN | apply below_drew1 | refine below_set ?_ GE333.out | refine below_set ?_ GE334.out | refine below_set ?_ GE336.out) | exact HB.out)) hb)
    have n4_ := Aside0.mk (hbox)
    have n5_ := Aside0.mk ((by rw [hg]; exact (below_size (by repeat (first | (with_reducible first | exact HB.out | apply below_alloc | apply pw_below_drewN | apply below_drew1 | refine below_set ?_ GE333.out | refine below_set ?_ GE334.out | refine below_set ?_ GE336.out) | exact HB.out))) : w.heap.size ≤ gb337))
    have n6_ := Aside0.mk ((by rw [hg]; exact (below_size (by repeat (first | (with_reducible first | exact HB.out | apply below_alloc | apply pw_below_drewN | apply below_drew1 | refine below_set ?_ GE333.out | refine below_set ?_ GE334.out | refine below_set ?_ GE336.out) | exact HB.out))) : w.heap.size ≤ gb337))
    have n7_ := Aside0.mk ((by rw [hg]; exact Nat.ne_of_lt (blk_lt (g := gb333) (o := .cells #[.int .i64 a1_0, .int .i64 a1_1, .int .i64 a1_2, .int .i64 a1_3] 32 (0, 0)) (bk BK333.out)) : gb333 ≠ gb337))
    have n8_ := Aside0.mk ((by rw [hg]; exact Nat.ne_of_gt (blk_lt (g := gb333) (o := .cells #[.int .i64 a1_0, .int .i64 a1_1, .int .i64 a1_2, .int .i64 a1_3] 32 (0, 0)) (bk BK333.out)) : gb337 ≠ gb333))
    have n9_ := Aside0.mk ((by rw [hg]; exact Nat.ne_of_lt (blk_lt (g := gb334) (o := .cells #[.int .i64 a2_0, .int .i64 a2_1] 33 (0, 0)) (bk BK334.out)) : gb334 ≠ gb337))
    have n10_ := Aside0.mk ((by rw [hg]; exact Nat.ne_of_gt (blk_lt (g := gb334) (o := .cells #[.int .i64 a2_0, .int .i64 a2_1] 33 (0, 0)) (bk BK334.out)) : gb337 ≠ gb334))
    have n11_ := Aside0.mk ((by rw [hg]; exact Nat.ne_of_lt (blk_lt (g := gb336) (o := .cells #[.int .i64 0, .int .i64 0] 35 (0, 0)) (bk BK336.out)) : gb336 ≠ gb337))
    have n12_ := Aside0.mk ((by rw [hg]; exact Nat.ne_of_gt (blk_lt (g := gb336) (o := .cells #[.int .i64 0, .int .i64 0] 35 (0, 0)) (bk BK336.out)) : gb337 ≠ gb336))
    clear BK333;clear BK334;clear BK336;clear HB;have BK333 := n0_;have BK334 := n1_;have BK336 := n2_;have HB := n3_;have BK337 := n4_;have GW337 := n5_;have GE337 := n6_;have NB333_337 := n7_;have NB337_333 := n8_;have NB334_337 := n9_;have NB337_334 := n10_;have NB336_337 := n11_;have NB337_336 := n12_;clear n0_ n1_ n2_ n3_ n4_ n5_ n6_ n7_ n8_ n9_ n10_ n11_ n12_;clear hb hbox hg
    refine hK.out _ _ ⟨(blk_cell BK333.out 0).trans rfl, (blk_cell BK333.out 1).trans rfl, (blk_cell BK333.out 2).trans rfl, (blk_cell BK333.out 3).trans rfl⟩ (fun hHeld => ?_)
    clear hK K
    refine norm_ (a' := ?_) ?_ ?_
    rotate_left
    ·show Act.put _ (some 8) _ = _
     simp only [Act.put, List.setIfInBounds_toArray, List.set_cons_zero, List.set_cons_succ, i64_w, i32_w]
     rfl
    exact norm_ (by simp only [putAll, Act.put, List.setIfInBounds_toArray, List.set_cons_zero, List.set_cons_succ]) (hCont (gb336, gb337) _ ⟨hHeld, (bk BK333.out), (bk BK334.out), (bk BK336.out), (bk BK337.out), GW336.out, GE336.out, NB333_336.out, NB336_333.out, NB334_336.out, NB336_334.out, NB337_336.out, NB336_337.out, GW337.out, GE337.out, NB333_337.out, NB337_333.out, NB334_337.out, NB337_334.out, (by repeat (first | (with_reducible first | exact HB.out | apply below_alloc | apply pw_below_drewN | apply below_drew1 | refine below_set ?_ GE333.out | refine below_set ?_ GE334.out | refine below_set ?_ GE336.out | refine below_set ?_ GE337.out) | exact HB.out))⟩)
   ·skip
    refine box_step ?hg (N := 8) ?hd (cs := #[.int .i64 0, .int .i64 0]) (t := 35) ?hr ?_; (case hd => rfl); (case hg => rfl); (case hr => first | (go_simp; done) | (go_simp; rfl))
    intro gb337 hg w13 hbox hb
    have n0_ := Aside0.mk (blk_below (g := gb333) (o := .cells #[.int .i64 a1_0, .int .i64 a1_1, .int .i64 a1_2, .int .i64 a1_3] 32 (0, 0)) (bk BK333.out) hb);have n1_ := Aside0.mk (blk_below (g := gb334) (o := .cells #[.int .i64 a2_0, .int .i64 a2_1] 33 (0, 0)) (bk BK334.out) hb)
    have n2_ := Aside0.mk (below_step (by repeat (first | (with_reducible first | exact HB.out | apply below_alloc | apply pw_below_drewN | apply below_drew1 | refine below_set ?_ GE333.out | refine below_set ?_ GE334.out) | exact HB.out)) hb)
    have n3_ := Aside0.mk (hbox)
    have n4_ := Aside0.mk ((by rw [hg]; exact (below_size (by repeat (first | (with_reducible first | exact HB.out | apply below_alloc | apply pw_below_drewN | apply below_drew1 | refine below_set ?_ GE333.out | refine below_set ?_ GE334.out) | exact HB.out))) : w.heap.size ≤ gb337))
    have n5_ := Aside0.mk ((by rw [hg]; exact (below_size (by repeat (first | (with_reducible first | exact HB.out | apply below_alloc | apply pw_below_drewN | apply below_drew1 | refine below_set ?_ GE333.out | refine below_set ?_ GE334.out) | exact HB.out))) : w.heap.size ≤ gb337))
    have n6_ := Aside0.mk ((by rw [hg]; exact Nat.ne_of_lt (blk_lt (g := gb333) (o := .cells #[.int .i64 a1_0, .int .i64 a1_1, .int .i64 a1_2, .int .i64 a1_3] 32 (0, 0)) (bk BK333.out)) : gb333 ≠ gb337))
    have n7_ := Aside0.mk ((by rw [hg]; exact Nat.ne_of_gt (blk_lt (g := gb333) (o := .cells #[.int .i64 a1_0, .int .i64 a1_1, .int .i64 a1_2, .int .i64 a1_3] 32 (0, 0)) (bk BK333.out)) : gb337 ≠ gb333))
    have n8_ := Aside0.mk ((by rw [hg]; exact Nat.ne_of_lt (blk_lt (g := gb334) (o := .cells #[.int .i64 a2_0, .int .i64 a2_1] 33 (0, 0)) (bk BK334.out)) : gb334 ≠ gb337))
    have n9_ := Aside0.mk ((by rw [hg]; exact Nat.ne_of_gt (blk_lt (g := gb334) (o := .cells #[.int .i64 a2_0, .int .i64 a2_1] 33 (0, 0)) (bk BK334.out)) : gb337 ≠ gb334))
    clear BK333;clear BK334;clear HB;have BK333 := n0_;have BK334 := n1_;have HB := n2_;have BK337 := n3_;have GW337 := n4_;have GE337 := n5_;have NB333_337 := n6_;have NB337_333 := n7_;have NB334_337 := n8_;have NB337_334 := n9_;clear n0_ n1_ n2_ n3_ n4_ n5_ n6_ n7_ n8_ n9_;clear hb hbox hg
    refine hK.out _ _ ⟨(blk_cell BK333.out 0).trans rfl, (blk_cell BK333.out 1).trans rfl, (blk_cell BK333.out 2).trans rfl, (blk_cell BK333.out 3).trans rfl⟩ (fun hHeld => ?_)
    clear hK K
    refine norm_ (a' := ?_) ?_ ?_
    rotate_left
    ·show Act.put _ (some 8) _ = _
     simp only [Act.put, List.setIfInBounds_toArray, List.set_cons_zero, List.set_cons_succ, i64_w, i32_w]
     rfl
    refine one_ (i := 10) (N := some 7) #[true, true, true, true, true, true, true, true, true, true, true, true, false, false] rfl rfl (one_of HT_.out (by kernel_rfl)) (by decide) (fun K hK => ?_)
    refine box_step ?hg (N := 7) ?hd (cs := #[.int .i64 0, .int .i64 0]) (t := 35) ?hr ?_; (case hd => rfl); (case hg => rfl); (case hr => first | (go_simp; done) | (go_simp; rfl))
    intro gb336 hg w14 hbox hb
    have n0_ := Aside0.mk (blk_below (g := gb333) (o := .cells #[.int .i64 a1_0, .int .i64 a1_1, .int .i64 a1_2, .int .i64 a1_3] 32 (0, 0)) (bk BK333.out) hb);have n1_ := Aside0.mk (blk_below (g := gb334) (o := .cells #[.int .i64 a2_0, .int .i64 a2_1] 33 (0, 0)) (bk BK334.out) hb);have n2_ := Aside0.mk (blk_below (g := gb337) (o := .cells #[.int .i64 0, .int .i64 0] 35 (0, 0)) (bk BK337.out) hb)
    have n3_ := Aside0.mk (below_step (by repeat (first | (with_reducible first | exact HB.out | apply below_alloc | apply pw_below_drewN | apply below_drew1 | refine below_set ?_ GE333.out | refine below_set ?_ GE334.out | refine below_set ?_ GE337.out) | exact HB.out)) hb)
    have n4_ := Aside0.mk (hbox)
    have n5_ := Aside0.mk ((by rw [hg]; exact (below_size (by repeat (first | (with_reducible first | exact HB.out | apply below_alloc | apply pw_below_drewN | apply below_drew1 | refine below_set ?_ GE333.out | refine below_set ?_ GE334.out | refine below_set ?_ GE337.out) | exact HB.out))) : w.heap.size ≤ gb336))
    have n6_ := Aside0.mk ((by rw [hg]; exact (below_size (by repeat (first | (with_reducible first | exact HB.out | apply below_alloc | apply pw_below_drewN | apply below_drew1 | refine below_set ?_ GE333.out | refine below_set ?_ GE334.out | refine below_set ?_ GE337.out) | exact HB.out))) : w.heap.size ≤ gb336))
    have n7_ := Aside0.mk ((by rw [hg]; exact Nat.ne_of_lt (blk_lt (g := gb333) (o := .cells #[.int .i64 a1_0, .int .i64 a1_1, .int .i64 a1_2, .int .i64 a1_3] 32 (0, 0)) (bk BK333.out)) : gb333 ≠ gb336))
    have n8_ := Aside0.mk ((by rw [hg]; exact Nat.ne_of_gt (blk_lt (g := gb333) (o := .cells #[.int .i64 a1_0, .int .i64 a1_1, .int .i64 a1_2, .int .i64 a1_3] 32 (0, 0)) (bk BK333.out)) : gb336 ≠ gb333))
    have n9_ := Aside0.mk ((by rw [hg]; exact Nat.ne_of_lt (blk_lt (g := gb334) (o := .cells #[.int .i64 a2_0, .int .i64 a2_1] 33 (0, 0)) (bk BK334.out)) : gb334 ≠ gb336))
    have n10_ := Aside0.mk ((by rw [hg]; exact Nat.ne_of_gt (blk_lt (g := gb334) (o := .cells #[.int .i64 a2_0, .int .i64 a2_1] 33 (0, 0)) (bk BK334.out)) : gb336 ≠ gb334))
    have n11_ := Aside0.mk ((by rw [hg]; exact Nat.ne_of_lt (blk_lt (g := gb337) (o := .cells #[.int .i64 0, .int .i64 0] 35 (0, 0)) (bk BK337.out)) : gb337 ≠ gb336))
    have n12_ := Aside0.mk ((by rw [hg]; exact Nat.ne_of_gt (blk_lt (g := gb337) (o := .cells #[.int .i64 0, .int .i64 0] 35 (0, 0)) (bk BK337.out)) : gb336 ≠ gb337))
    clear BK333;clear BK334;clear BK337;clear HB;have BK333 := n0_;have BK334 := n1_;have BK337 := n2_;have HB := n3_;have BK336 := n4_;have GW336 := n5_;have GE336 := n6_;have NB333_336 := n7_;have NB336_333 := n8_;have NB334_336 := n9_;have NB336_334 := n10_;have NB337_336 := n11_;have NB336_337 := n12_;clear n0_ n1_ n2_ n3_ n4_ n5_ n6_ n7_ n8_ n9_ n10_ n11_ n12_;clear hb hbox hg
    refine hK.out _ _ ⟨(blk_cell BK333.out 0).trans rfl, (blk_cell BK333.out 1).trans rfl, (blk_cell BK333.out 2).trans rfl, (blk_cell BK333.out 3).trans rfl⟩ (fun hHeld => ?_)
    clear hK K
    refine norm_ (a' := ?_) ?_ ?_
    rotate_left
    ·show Act.put _ (some 7) _ = _
     simp only [Act.put, List.setIfInBounds_toArray, List.set_cons_zero, List.set_cons_succ, i64_w, i32_w]
     rfl
    exact norm_ (by simp only [putAll, Act.put, List.setIfInBounds_toArray, List.set_cons_zero, List.set_cons_succ]) (hCont (gb336, gb337) _ ⟨hHeld, (bk BK333.out), (bk BK334.out), (bk BK336.out), (bk BK337.out), GW336.out, GE336.out, NB333_336.out, NB336_333.out, NB334_336.out, NB336_334.out, NB337_336.out, NB336_337.out, GW337.out, GE337.out, NB333_337.out, NB337_333.out, NB334_337.out, NB337_334.out, (by repeat (first | (with_reducible first | exact HB.out | apply below_alloc | apply pw_below_drewN | apply below_drew1 | refine below_set ?_ GE333.out | refine below_set ?_ GE334.out | refine below_set ?_ GE337.out | refine below_set ?_ GE336.out) | exact HB.out))⟩)
  rintro ⟨gb336, gb337⟩ w15 ⟨hS_, h0_, h1_, h2_, h3_, h4_, h5_, h6_, h7_, h8_, h9_, h10_, h11_, h12_, h13_, h14_, h15_, h16_, h17_, h18_⟩
  have n0_ : Aside0 (w15.heap[gb333]? = some (.cells #[.int .i64 a1_0, .int .i64 a1_1, .int .i64 a1_2, .int .i64 a1_3] 32 (0, 0))) := ⟨h0_⟩
  have n1_ : Aside0 (w15.heap[gb334]? = some (.cells #[.int .i64 a2_0, .int .i64 a2_1] 33 (0, 0))) := ⟨h1_⟩
  have n2_ : Aside0 (w15.heap[gb336]? = some (.cells #[.int .i64 0, .int .i64 0] 35 (0, 0))) := ⟨h2_⟩
  have n3_ : Aside0 (w15.heap[gb337]? = some (.cells #[.int .i64 0, .int .i64 0] 35 (0, 0))) := ⟨h3_⟩
  have n4_ : Aside0 (w.heap.size ≤ gb336) := ⟨h4_⟩
  have n5_ : Aside0 (w.heap.size ≤ gb336) := ⟨h5_⟩
  have n6_ : Aside0 (gb333 ≠ gb336) := ⟨h6_⟩
  have n7_ : Aside0 (gb336 ≠ gb333) := ⟨h7_⟩
  have n8_ : Aside0 (gb334 ≠ gb336) := ⟨h8_⟩
  have n9_ : Aside0 (gb336 ≠ gb334) := ⟨h9_⟩
  have n10_ : Aside0 (gb337 ≠ gb336) := ⟨h10_⟩
  have n11_ : Aside0 (gb336 ≠ gb337) := ⟨h11_⟩
  have n12_ : Aside0 (w.heap.size ≤ gb337) := ⟨h12_⟩
  have n13_ : Aside0 (w.heap.size ≤ gb337) := ⟨h13_⟩
  have n14_ : Aside0 (gb333 ≠ gb337) := ⟨h14_⟩
  have n15_ : Aside0 (gb337 ≠ gb333) := ⟨h15_⟩
  have n16_ : Aside0 (gb334 ≠ gb337) := ⟨h16_⟩
  have n17_ : Aside0 (gb337 ≠ gb334) := ⟨h17_⟩
  have n18_ : Aside0 (Below w.heap.size w w15) := ⟨h18_⟩
  clear BK333;clear BK334;clear HB;clear h0_ h1_ h2_ h3_ h4_ h5_ h6_ h7_ h8_ h9_ h10_ h11_ h12_ h13_ h14_ h15_ h16_ h17_ h18_;have BK333 := n0_;have BK334 := n1_;have BK336 := n2_;have BK337 := n3_;have GW336 := n4_;have GE336 := n5_;have NB333_336 := n6_;have NB336_333 := n7_;have NB334_336 := n8_;have NB336_334 := n9_;have NB337_336 := n10_;have NB336_337 := n11_;have GW337 := n12_;have GE337 := n13_;have NB333_337 := n14_;have NB337_333 := n15_;have NB334_337 := n16_;have NB337_334 := n17_;have HB := n18_;clear n0_ n1_ n2_ n3_ n4_ n5_ n6_ n7_ n8_ n9_ n10_ n11_ n12_ n13_ n14_ n15_ n16_ n17_ n18_
  have hHeld : w15.cell? ⟨gb333, 0, none⟩ = some (.int .i64 a1_0) ∧ w15.cell? ⟨gb333, 1, none⟩ = some (.int .i64 a1_1) ∧ w15.cell? ⟨gb333, 2, none⟩ = some (.int .i64 a1_2) ∧ w15.cell? ⟨gb333, 3, none⟩ = some (.int .i64 a1_3) := hS_
  refine norm_ (a' := ?_) ?_ ?_
  rotate_left
  ·simp only [putAll, Act.put, List.setIfInBounds_toArray, List.set_cons_zero, List.set_cons_succ]
   rfl
  refine one_ (i := 12) (N := none) #[true, true, true, true, true, true, true, true, true, true, true, true, true, false] rfl rfl (one_of HT_.out (by kernel_rfl)) (by decide) (fun K hK => ?_)
  have hs16 : w15.cell? ⟨gb336, 0, none⟩ = some (.int .i64 0) := (blk_cell BK336.out 0).trans rfl
  have hfs16 := blk_frozen BK336.out 0;have hns16_0 := NB333_336.out;have hns16_1 := NB334_336.out;have hns16_3 := NB337_336.out;have hms16_0 := NB336_333.out;have hms16_1 := NB336_334.out;have hms16_3 := NB336_337.out
  have hs17 : w15.cell? ⟨gb336, 1, none⟩ = some (.int .i64 0) := (blk_cell BK336.out 1).trans rfl
  have hfs17 := blk_frozen BK336.out 1;have hns17_0 := NB333_336.out;have hns17_1 := NB334_336.out;have hns17_3 := NB337_336.out;have hms17_0 := NB336_333.out;have hms17_1 := NB336_334.out;have hms17_3 := NB336_337.out
  refine skip_ (w1 := ?_) (by rfl) rfl ?_ ?_
  rotate_left
  ·go_simp
   rfl
  refine hK.out _ _ ⟨((cell_far (p := ⟨gb336, _, none⟩) NB333_336.out _).trans (((cell_far (p := ⟨gb336, _, none⟩) NB333_336.out _).trans (hHeld.1)))), ((cell_far (p := ⟨gb336, _, none⟩) NB333_336.out _).trans (((cell_far (p := ⟨gb336, _, none⟩) NB333_336.out _).trans (hHeld.2.1)))), ((cell_far (p := ⟨gb336, _, none⟩) NB333_336.out _).trans (((cell_far (p := ⟨gb336, _, none⟩) NB333_336.out _).trans (hHeld.2.2.1)))), ((cell_far (p := ⟨gb336, _, none⟩) NB333_336.out _).trans (((cell_far (p := ⟨gb336, _, none⟩) NB333_336.out _).trans (hHeld.2.2.2))))⟩ (fun hHeld => ?_)
  clear hK K
  refine one_ (i := 13) (N := none) #[true, true, true, true, true, true, true, true, true, true, true, true, true, true] rfl rfl (one_of HT_.out (by kernel_rfl)) (by decide) (fun K hK => ?_)
  have hs18 : w15.cell? ⟨gb337, 0, none⟩ = some (.int .i64 0) := (blk_cell BK337.out 0).trans rfl
  have hfs18 := blk_frozen BK337.out 0;have hns18_0 := NB333_337.out;have hns18_1 := NB334_337.out;have hns18_2 := NB336_337.out;have hms18_0 := NB337_333.out;have hms18_1 := NB337_334.out;have hms18_2 := NB337_336.out
  have hs19 : w15.cell? ⟨gb337, 1, none⟩ = some (.int .i64 0) := (blk_cell BK337.out 1).trans rfl
  have hfs19 := blk_frozen BK337.out 1;have hns19_0 := NB333_337.out;have hns19_1 := NB334_337.out;have hns19_2 := NB336_337.out;have hms19_0 := NB337_333.out;have hms19_1 := NB337_334.out;have hms19_2 := NB337_336.out
  refine skip_ (w1 := ?_) (by rfl) rfl ?_ ?_
  rotate_left
  ·go_simp
   rfl
  refine hK.out _ _ ⟨((cell_far (p := ⟨gb337, _, none⟩) NB333_337.out _).trans (((cell_far (p := ⟨gb337, _, none⟩) NB333_337.out _).trans (hHeld.1)))), ((cell_far (p := ⟨gb337, _, none⟩) NB333_337.out _).trans (((cell_far (p := ⟨gb337, _, none⟩) NB333_337.out _).trans (hHeld.2.1)))), ((cell_far (p := ⟨gb337, _, none⟩) NB333_337.out _).trans (((cell_far (p := ⟨gb337, _, none⟩) NB333_337.out _).trans (hHeld.2.2.1)))), ((cell_far (p := ⟨gb337, _, none⟩) NB333_337.out _).trans (((cell_far (p := ⟨gb337, _, none⟩) NB333_337.out _).trans (hHeld.2.2.2))))⟩ (fun hHeld => ?_)
  clear hK K
  refine done_ (done_of HT_.out (by kernel_rfl)) ?_
  have hnb20 := NB336_333.out;have hnc20 := NB333_336.out;have hnb21 := NB336_334.out;have hnc21 := NB334_336.out;have hnb22 := NB336_337.out;have hnc22 := NB337_336.out
  have hcz23_0 : w15.cell? ⟨gb336, 0, none⟩ = some (.int .i64 0) := (blk_cell BK336.out 0).trans rfl
  have hcz23_1 : w15.cell? ⟨gb336, 1, none⟩ = some (.int .i64 0) := (blk_cell BK336.out 1).trans rfl
  have hfz23_0 := blk_frozen BK336.out 0;have hfz23_1 := blk_frozen BK336.out 1;have hnb24 := NB337_333.out;have hnc24 := NB333_337.out;have hnb25 := NB337_334.out;have hnc25 := NB334_337.out
  have hcz26_0 : w15.cell? ⟨gb337, 0, none⟩ = some (.int .i64 0) := (blk_cell BK337.out 0).trans rfl
  have hcz26_1 : w15.cell? ⟨gb337, 1, none⟩ = some (.int .i64 0) := (blk_cell BK337.out 1).trans rfl
  have hfz26_0 := blk_frozen BK337.out 0;have hfz26_1 := blk_frozen BK337.out 1
  go_upto_region 6 with (first | ((with_reducible refine gate_callee (f := 22) rfl ?_); refine goesL_ (some 33) rfl rfl Try.func22 (by kernel_rfl) rfl #[.int .i64 a0, .agg #[.int .i64 a1_0, .int .i64 a1_1], .agg #[.int .i64 a1_2, .int .i64 a1_3]] rfl (by (try simp only [List.map_toArray, List.map_cons, List.map_nil]); first | done | rfl) ?_; (with_reducible refine (integers_RangeOf.calls k a0 a1_0 a1_1 a1_2 a1_3 t338 t339 t340 _ A6.out).mono ?_); rintro e w27 ⟨rfl, hb⟩; refine ⟨_, rfl, ?_⟩; have n0_ := Aside0.mk (blk_below (g := gb333) (o := .cells #[.int .i64 a1_0, .int .i64 a1_1, .int .i64 a1_2, .int .i64 a1_3] 32 (0, 0)) (by refine bk (blk_far ?_ NB333_337.out _); refine bk (blk_far ?_ NB333_337.out _); refine bk (blk_far ?_ NB333_336.out _); refine bk (blk_far ?_ NB333_336.out _); exact bk BK333.out) hb); have n1_ := Aside0.mk (blk_below (g := gb334) (o := .cells #[.int .i64 a2_0, .int .i64 a2_1] 33 (0, 0)) (by refine bk (blk_far ?_ NB334_337.out _); refine bk (blk_far ?_ NB334_337.out _); refine bk (blk_far ?_ NB334_336.out _); refine bk (blk_far ?_ NB334_336.out _); exact bk BK334.out) hb); have n2_ := Aside0.mk (blk_below (g := gb336) (o := .cells #[.int .i64 a1_0, .int .i64 a1_1] 35 (0, 0)) (by refine bk (blk_far ?_ NB336_337.out _); refine bk (blk_far ?_ NB336_337.out _); refine bk (blk_put (cs := #[.int .i64 a1_0, .int .i64 0]) ?_ 1 _ rfl); refine bk (blk_put (cs := #[.int .i64 0, .int .i64 0]) ?_ 0 _ rfl); exact bk BK336.out) hb); have n3_ := Aside0.mk (blk_below (g := gb337) (o := .cells #[.int .i64 a1_2, .int .i64 a1_3] 35 (0, 0)) (by refine bk (blk_put (cs := #[.int .i64 a1_2, .int .i64 0]) ?_ 1 _ rfl); refine bk (blk_put (cs := #[.int .i64 0, .int .i64 0]) ?_ 0 _ rfl); refine bk (blk_far ?_ NB337_336.out _); refine bk (blk_far ?_ NB337_336.out _); exact bk BK337.out) hb); have n4_ := Aside0.mk (below_step (by repeat (first | (with_reducible first | exact HB.out | apply below_alloc | apply pw_below_drewN | apply below_drew1 | refine below_set ?_ GE333.out | refine below_set ?_ GE334.out | refine below_set ?_ GE336.out | refine below_set ?_ GE337.out) | exact HB.out)) hb); clear BK333; clear BK334; clear BK336; clear BK337; clear HB; have BK333 := n0_; have BK334 := n1_; have BK336 := n2_; have BK337 := n3_; have HB := n4_; clear n0_ n1_ n2_ n3_ n4_; (try clear hb); (try clear hb2); (try clear hk); (try clear hi)) | ((with_reducible refine gate_dst (N := 9) rfl ?_); refine box_event ?hg (N := 9) ?hd (cs := #[.int .i64 0, .int .i64 0]) (t := 35) ?hr ?_; (case hd => rfl); (case hg => rfl); (case hr => first | (go_simp; done) | (go_simp; rfl)); intro gb341 hg w28 hbox hb; have n0_ := Aside0.mk (blk_below (g := gb333) (o := .cells #[.int .i64 a1_0, .int .i64 a1_1, .int .i64 a1_2, .int .i64 a1_3] 32 (0, 0)) (bk BK333.out) hb); have n1_ := Aside0.mk (blk_below (g := gb334) (o := .cells #[.int .i64 a2_0, .int .i64 a2_1] 33 (0, 0)) (bk BK334.out) hb); have n2_ := Aside0.mk (blk_below (g := gb336) (o := .cells #[.int .i64 a1_0, .int .i64 a1_1] 35 (0, 0)) (bk BK336.out) hb); have n3_ := Aside0.mk (blk_below (g := gb337) (o := .cells #[.int .i64 a1_2, .int .i64 a1_3] 35 (0, 0)) (bk BK337.out) hb); have n4_ := Aside0.mk (below_step (by repeat (first | (with_reducible first | exact HB.out | apply below_alloc | apply pw_below_drewN | apply below_drew1 | refine below_set ?_ GE333.out | refine below_set ?_ GE334.out | refine below_set ?_ GE336.out | refine below_set ?_ GE337.out) | exact HB.out)) hb); have n5_ := Aside0.mk (hbox); have n6_ := Aside0.mk ((by rw [hg]; exact (below_size (by repeat (first | (with_reducible first | exact HB.out | apply below_alloc | apply pw_below_drewN | apply below_drew1 | refine below_set ?_ GE333.out | refine below_set ?_ GE334.out | refine below_set ?_ GE336.out | refine below_set ?_ GE337.out) | exact HB.out))) : w.heap.size ≤ gb341)); have n7_ := Aside0.mk ((by rw [hg]; exact (below_size (by repeat (first | (with_reducible first | exact HB.out | apply below_alloc | apply pw_below_drewN | apply below_drew1 | refine below_set ?_ GE333.out | refine below_set ?_ GE334.out | refine below_set ?_ GE336.out | refine below_set ?_ GE337.out) | exact HB.out))) : w.heap.size ≤ gb341)); have n8_ := Aside0.mk ((by rw [hg]; exact Nat.ne_of_lt (blk_lt (g := gb333) (o := .cells #[.int .i64 a1_0, .int .i64 a1_1, .int .i64 a1_2, .int .i64 a1_3] 32 (0, 0)) (bk BK333.out)) : gb333 ≠ gb341)); have n9_ := Aside0.mk ((by rw [hg]; exact Nat.ne_of_gt (blk_lt (g := gb333) (o := .cells #[.int .i64 a1_0, .int .i64 a1_1, .int .i64 a1_2, .int .i64 a1_3] 32 (0, 0)) (bk BK333.out)) : gb341 ≠ gb333)); have n10_ := Aside0.mk ((by rw [hg]; exact Nat.ne_of_lt (blk_lt (g := gb334) (o := .cells #[.int .i64 a2_0, .int .i64 a2_1] 33 (0, 0)) (bk BK334.out)) : gb334 ≠ gb341)); have n11_ := Aside0.mk ((by rw [hg]; exact Nat.ne_of_gt (blk_lt (g := gb334) (o := .cells #[.int .i64 a2_0, .int .i64 a2_1] 33 (0, 0)) (bk BK334.out)) : gb341 ≠ gb334)); have n12_ := Aside0.mk ((by rw [hg]; exact Nat.ne_of_lt (blk_lt (g := gb336) (o := .cells #[.int .i64 a1_0, .int .i64 a1_1] 35 (0, 0)) (bk BK336.out)) : gb336 ≠ gb341)); have n13_ := Aside0.mk ((by rw [hg]; exact Nat.ne_of_gt (blk_lt (g := gb336) (o := .cells #[.int .i64 a1_0, .int .i64 a1_1] 35 (0, 0)) (bk BK336.out)) : gb341 ≠ gb336)); have n14_ := Aside0.mk ((by rw [hg]; exact Nat.ne_of_lt (blk_lt (g := gb337) (o := .cells #[.int .i64 a1_2, .int .i64 a1_3] 35 (0, 0)) (bk BK337.out)) : gb337 ≠ gb341)); have n15_ := Aside0.mk ((by rw [hg]; exact Nat.ne_of_gt (blk_lt (g := gb337) (o := .cells #[.int .i64 a1_2, .int .i64 a1_3] 35 (0, 0)) (bk BK337.out)) : gb341 ≠ gb337)); clear BK333; clear BK334; clear BK336; clear BK337; clear HB; have BK333 := n0_; have BK334 := n1_; have BK336 := n2_; have BK337 := n3_; have HB := n4_; have BK341 := n5_; have GW341 := n6_; have GE341 := n7_; have NB333_341 := n8_; have NB341_333 := n9_; have NB334_341 := n10_; have NB341_334 := n11_; have NB336_341 := n12_; have NB341_336 := n13_; have NB337_341 := n14_; have NB341_337 := n15_; clear n0_ n1_ n2_ n3_ n4_ n5_ n6_ n7_ n8_ n9_ n10_ n11_ n12_ n13_ n14_ n15_; clear hb hbox hg; have hnb29 := NB341_333.out; have hnc29 := NB333_341.out; have hnb30 := NB341_334.out; have hnc30 := NB334_341.out; have hnb31 := NB341_336.out; have hnc31 := NB336_341.out; have hnb32 := NB341_337.out; have hnc32 := NB337_341.out; have hcz33_0 : w28.cell? ⟨gb341, 0, none⟩ = some (.int .i64 0) := (blk_cell BK341.out 0).trans rfl; have hcz33_1 : w28.cell? ⟨gb341, 1, none⟩ = some (.int .i64 0) := (blk_cell BK341.out 1).trans rfl; have hfz33_0 := blk_frozen BK341.out 0; have hfz33_1 := blk_frozen BK341.out 1; have hcz34_0 : w28.cell? ⟨gb336, 0, none⟩ = some (.int .i64 a1_0) := (blk_cell BK336.out 0).trans rfl; have hcz34_1 : w28.cell? ⟨gb336, 1, none⟩ = some (.int .i64 a1_1) := (blk_cell BK336.out 1).trans rfl; have hfz34_0 := blk_frozen BK336.out 0; have hfz34_1 := blk_frozen BK336.out 1; have hcz35_0 : w28.cell? ⟨gb337, 0, none⟩ = some (.int .i64 a1_2) := (blk_cell BK337.out 0).trans rfl; have hcz35_1 : w28.cell? ⟨gb337, 1, none⟩ = some (.int .i64 a1_3) := (blk_cell BK337.out 1).trans rfl; have hfz35_0 := blk_frozen BK337.out 0; have hfz35_1 := blk_frozen BK337.out 1) | ((with_reducible refine gate_callee (f := 23) rfl ?_); refine goesL_ (some 40) rfl rfl Try.func23 (by kernel_rfl) rfl #[.int .i64 a0, .agg #[.int .i64 a1_0, .int .i64 a1_1], .agg #[.int .i64 a1_2, .int .i64 a1_3]] rfl (by (try simp only [List.map_toArray, List.map_cons, List.map_nil]); first | done | rfl) ?_; (with_reducible refine (fr7_RangeOf.calls k a0 a1_0 a1_1 a1_2 a1_3 t342 t343 t344 _ A7.out).mono ?_); rintro e w36 ⟨rfl, hb⟩; refine ⟨_, rfl, ?_⟩; have n0_ := Aside0.mk (blk_below (g := gb333) (o := .cells #[.int .i64 a1_0, .int .i64 a1_1, .int .i64 a1_2, .int .i64 a1_3] 32 (0, 0)) (by refine bk (blk_far ?_ NB333_341.out _); refine bk (blk_far ?_ NB333_341.out _); exact bk BK333.out) hb); have n1_ := Aside0.mk (blk_below (g := gb334) (o := .cells #[.int .i64 a2_0, .int .i64 a2_1] 33 (0, 0)) (by refine bk (blk_far ?_ NB334_341.out _); refine bk (blk_far ?_ NB334_341.out _); exact bk BK334.out) hb); have n2_ := Aside0.mk (blk_below (g := gb336) (o := .cells #[.int .i64 a1_0, .int .i64 a1_1] 35 (0, 0)) (by refine bk (blk_far ?_ NB336_341.out _); refine bk (blk_far ?_ NB336_341.out _); exact bk BK336.out) hb); have n3_ := Aside0.mk (blk_below (g := gb337) (o := .cells #[.int .i64 a1_2, .int .i64 a1_3] 35 (0, 0)) (by refine bk (blk_far ?_ NB337_341.out _); refine bk (blk_far ?_ NB337_341.out _); exact bk BK337.out) hb); have n4_ := Aside0.mk (blk_below (g := gb341) (o := .cells #[.int .i64 t338, .int .i64 t339] 35 (0, 0)) (by refine bk (blk_put (cs := #[.int .i64 t338, .int .i64 0]) ?_ 1 _ rfl); refine bk (blk_put (cs := #[.int .i64 0, .int .i64 0]) ?_ 0 _ rfl); exact bk BK341.out) hb); have n5_ := Aside0.mk (below_step (by repeat (first | (with_reducible first | exact HB.out | apply below_alloc | apply pw_below_drewN | apply below_drew1 | refine below_set ?_ GE333.out | refine below_set ?_ GE334.out | refine below_set ?_ GE336.out | refine below_set ?_ GE337.out | refine below_set ?_ GE341.out) | exact HB.out)) hb); clear BK333; clear BK334; clear BK336; clear BK337; clear BK341; clear HB; have BK333 := n0_; have BK334 := n1_; have BK336 := n2_; have BK337 := n3_; have BK341 := n4_; have HB := n5_; clear n0_ n1_ n2_ n3_ n4_ n5_; (try clear hb); (try clear hb2); (try clear hk); (try clear hi)) | ((with_reducible refine gate_dst (N := 11) rfl ?_); refine box_event ?hg (N := 11) ?hd (cs := #[.int .i64 0, .int .i64 0]) (t := 35) ?hr ?_; (case hd => rfl); (case hg => rfl); (case hr => first | (go_simp; done) | (go_simp; rfl)); intro gb345 hg w37 hbox hb; have n0_ := Aside0.mk (blk_below (g := gb333) (o := .cells #[.int .i64 a1_0, .int .i64 a1_1, .int .i64 a1_2, .int .i64 a1_3] 32 (0, 0)) (bk BK333.out) hb); have n1_ := Aside0.mk (blk_below (g := gb334) (o := .cells #[.int .i64 a2_0, .int .i64 a2_1] 33 (0, 0)) (bk BK334.out) hb); have n2_ := Aside0.mk (blk_below (g := gb336) (o := .cells #[.int .i64 a1_0, .int .i64 a1_1] 35 (0, 0)) (bk BK336.out) hb); have n3_ := Aside0.mk (blk_below (g := gb337) (o := .cells #[.int .i64 a1_2, .int .i64 a1_3] 35 (0, 0)) (bk BK337.out) hb); have n4_ := Aside0.mk (blk_below (g := gb341) (o := .cells #[.int .i64 t338, .int .i64 t339] 35 (0, 0)) (bk BK341.out) hb); have n5_ := Aside0.mk (below_step (by repeat (first | (with_reducible first | exact HB.out | apply below_alloc | apply pw_below_drewN | apply below_drew1 | refine below_set ?_ GE333.out | refine below_set ?_ GE334.out | refine below_set ?_ GE336.out | refine below_set ?_ GE337.out | refine below_set ?_ GE341.out) | exact HB.out)) hb); have n6_ := Aside0.mk (hbox); have n7_ := Aside0.mk ((by rw [hg]; exact (below_size (by repeat (first | (with_reducible first | exact HB.out | apply below_alloc | apply pw_below_drewN | apply below_drew1 | refine below_set ?_ GE333.out | refine below_set ?_ GE334.out | refine below_set ?_ GE336.out | refine below_set ?_ GE337.out | refine below_set ?_ GE341.out) | exact HB.out))) : w.heap.size ≤ gb345)); have n8_ := Aside0.mk ((by rw [hg]; exact (below_size (by repeat (first | (with_reducible first | exact HB.out | apply below_alloc | apply pw_below_drewN | apply below_drew1 | refine below_set ?_ GE333.out | refine below_set ?_ GE334.out | refine below_set ?_ GE336.out | refine below_set ?_ GE337.out | refine below_set ?_ GE341.out) | exact HB.out))) : w.heap.size ≤ gb345)); have n9_ := Aside0.mk ((by rw [hg]; exact Nat.ne_of_lt (blk_lt (g := gb333) (o := .cells #[.int .i64 a1_0, .int .i64 a1_1, .int .i64 a1_2, .int .i64 a1_3] 32 (0, 0)) (bk BK333.out)) : gb333 ≠ gb345)); have n10_ := Aside0.mk ((by rw [hg]; exact Nat.ne_of_gt (blk_lt (g := gb333) (o := .cells #[.int .i64 a1_0, .int .i64 a1_1, .int .i64 a1_2, .int .i64 a1_3] 32 (0, 0)) (bk BK333.out)) : gb345 ≠ gb333)); have n11_ := Aside0.mk ((by rw [hg]; exact Nat.ne_of_lt (blk_lt (g := gb334) (o := .cells #[.int .i64 a2_0, .int .i64 a2_1] 33 (0, 0)) (bk BK334.out)) : gb334 ≠ gb345)); have n12_ := Aside0.mk ((by rw [hg]; exact Nat.ne_of_gt (blk_lt (g := gb334) (o := .cells #[.int .i64 a2_0, .int .i64 a2_1] 33 (0, 0)) (bk BK334.out)) : gb345 ≠ gb334)); have n13_ := Aside0.mk ((by rw [hg]; exact Nat.ne_of_lt (blk_lt (g := gb336) (o := .cells #[.int .i64 a1_0, .int .i64 a1_1] 35 (0, 0)) (bk BK336.out)) : gb336 ≠ gb345)); have n14_ := Aside0.mk ((by rw [hg]; exact Nat.ne_of_gt (blk_lt (g := gb336) (o := .cells #[.int .i64 a1_0, .int .i64 a1_1] 35 (0, 0)) (bk BK336.out)) : gb345 ≠ gb336)); have n15_ := Aside0.mk ((by rw [hg]; exact Nat.ne_of_lt (blk_lt (g := gb337) (o := .cells #[.int .i64 a1_2, .int .i64 a1_3] 35 (0, 0)) (bk BK337.out)) : gb337 ≠ gb345)); have n16_ := Aside0.mk ((by rw [hg]; exact Nat.ne_of_gt (blk_lt (g := gb337) (o := .cells #[.int .i64 a1_2, .int .i64 a1_3] 35 (0, 0)) (bk BK337.out)) : gb345 ≠ gb337)); have n17_ := Aside0.mk ((by rw [hg]; exact Nat.ne_of_lt (blk_lt (g := gb341) (o := .cells #[.int .i64 t338, .int .i64 t339] 35 (0, 0)) (bk BK341.out)) : gb341 ≠ gb345)); have n18_ := Aside0.mk ((by rw [hg]; exact Nat.ne_of_gt (blk_lt (g := gb341) (o := .cells #[.int .i64 t338, .int .i64 t339] 35 (0, 0)) (bk BK341.out)) : gb345 ≠ gb341)); clear BK333; clear BK334; clear BK336; clear BK337; clear BK341; clear HB; have BK333 := n0_; have BK334 := n1_; have BK336 := n2_; have BK337 := n3_; have BK341 := n4_; have HB := n5_; have BK345 := n6_; have GW345 := n7_; have GE345 := n8_; have NB333_345 := n9_; have NB345_333 := n10_; have NB334_345 := n11_; have NB345_334 := n12_; have NB336_345 := n13_; have NB345_336 := n14_; have NB337_345 := n15_; have NB345_337 := n16_; have NB341_345 := n17_; have NB345_341 := n18_; clear n0_ n1_ n2_ n3_ n4_ n5_ n6_ n7_ n8_ n9_ n10_ n11_ n12_ n13_ n14_ n15_ n16_ n17_ n18_; clear hb hbox hg; have hnb38 := NB345_333.out; have hnc38 := NB333_345.out; have hnb39 := NB345_334.out; have hnc39 := NB334_345.out; have hnb40 := NB345_336.out; have hnc40 := NB336_345.out; have hnb41 := NB345_337.out; have hnc41 := NB337_345.out; have hnb42 := NB345_341.out; have hnc42 := NB341_345.out; have hcz43_0 : w37.cell? ⟨gb345, 0, none⟩ = some (.int .i64 0) := (blk_cell BK345.out 0).trans rfl; have hcz43_1 : w37.cell? ⟨gb345, 1, none⟩ = some (.int .i64 0) := (blk_cell BK345.out 1).trans rfl; have hfz43_0 := blk_frozen BK345.out 0; have hfz43_1 := blk_frozen BK345.out 1))
  (try simp only [Act.put, List.setIfInBounds_toArray, List.set_cons_zero, List.set_cons_succ])
  go_cut [50] (fun v50 wc => ∃ (kq : Nat) (x50_7 : Bool), v50 = .bool x50_7 ∧ Aside0 (formularylaw07_IntegersRanges.j0 kq a0 t344 x50_7 a2_0 a2_1 a1_0 a1_1 a1_2 a1_3 t338 t339 = some r) ∧ Aside0 (kq ≤ k) ∧ Aside0 (wc.heap[gb333]? = some (.cells #[.int .i64 a1_0, .int .i64 a1_1, .int .i64 a1_2, .int .i64 a1_3] 32 (0, 0))) ∧ Aside0 (wc.heap[gb334]? = some (.cells #[.int .i64 a2_0, .int .i64 a2_1] 33 (0, 0))) ∧ Aside0 (wc.heap[gb336]? = some (.cells #[.int .i64 a1_0, .int .i64 a1_1] 35 (0, 0))) ∧ Aside0 (wc.heap[gb337]? = some (.cells #[.int .i64 a1_2, .int .i64 a1_3] 35 (0, 0))) ∧ Aside0 (wc.heap[gb341]? = some (.cells #[.int .i64 t338, .int .i64 t339] 35 (0, 0))) ∧ Aside0 (wc.heap[gb345]? = some (.cells #[.int .i64 t342, .int .i64 t343] 35 (0, 0))) ∧ Aside0 (Below w.heap.size w wc))
  case first =>
   have H := HC8.out;clear HC8
   by_cases c44 : t340 = t344
   ·rw [if_pos c44] at H
    have c44b0 : (t340 == t344) = true := beq_iff_eq.mpr c44
    have c44b1 : (t340 != t344) = false := bne_eq_false_iff_eq.mpr c44
    clear c44
    (first | rw [c44b0] | (simp only [i64_w, i32_w]; rw [c44b0]) | skip)
    as_aux_lemma =>
     have H' := Aside0.mk H
     clear H;have hnb45 := NB341_333.out;have hnc45 := NB333_341.out;have hnb46 := NB341_334.out;have hnc46 := NB334_341.out;have hnb47 := NB341_336.out;have hnc47 := NB336_341.out;have hnb48 := NB341_337.out;have hnc48 := NB337_341.out;have hnb49 := NB341_345.out;have hnc49 := NB345_341.out
     have hcz50_0 : w37.cell? ⟨gb341, 0, none⟩ = some (.int .i64 t338) := (blk_cell BK341.out 0).trans rfl
     have hcz50_1 : w37.cell? ⟨gb341, 1, none⟩ = some (.int .i64 t339) := (blk_cell BK341.out 1).trans rfl
     have hfz50_0 := blk_frozen BK341.out 0;have hfz50_1 := blk_frozen BK341.out 1;have hnb51 := NB345_333.out;have hnc51 := NB333_345.out;have hnb52 := NB345_334.out;have hnc52 := NB334_345.out;have hnb53 := NB345_336.out;have hnc53 := NB336_345.out;have hnb54 := NB345_337.out;have hnc54 := NB337_345.out
     have hcz55_0 : w37.cell? ⟨gb345, 0, none⟩ = some (.int .i64 0) := (blk_cell BK345.out 0).trans rfl
     have hcz55_1 : w37.cell? ⟨gb345, 1, none⟩ = some (.int .i64 0) := (blk_cell BK345.out 1).trans rfl
     have hfz55_0 := blk_frozen BK345.out 0;have hfz55_1 := blk_frozen BK345.out 1
     go_wp2
     go_meet
     case rel => exact ⟨_, ((!(t338 == t342) || (!(t339 == t343)))), (by first | rfl | (simp; done) | (simp [*]; done)), H', ⟨by first | omega | exact Nat.le_refl _⟩, ⟨by refine bk (blk_far ?_ NB333_345.out _); refine bk (blk_far ?_ NB333_345.out _); exact bk BK333.out⟩, ⟨by refine bk (blk_far ?_ NB334_345.out _); refine bk (blk_far ?_ NB334_345.out _); exact bk BK334.out⟩, ⟨by refine bk (blk_far ?_ NB336_345.out _); refine bk (blk_far ?_ NB336_345.out _); exact bk BK336.out⟩, ⟨by refine bk (blk_far ?_ NB337_345.out _); refine bk (blk_far ?_ NB337_345.out _); exact bk BK337.out⟩, ⟨by refine bk (blk_far ?_ NB341_345.out _); refine bk (blk_far ?_ NB341_345.out _); exact bk BK341.out⟩, ⟨by refine bk (blk_put (cs := #[.int .i64 t342, .int .i64 0]) ?_ 1 _ rfl); refine bk (blk_put (cs := #[.int .i64 0, .int .i64 0]) ?_ 0 _ rfl); exact bk BK345.out⟩, ⟨by repeat (first | (with_reducible first | exact HB.out | apply below_alloc | apply pw_below_drewN | apply below_drew1 | refine below_set ?_ GE333.out | refine below_set ?_ GE334.out | refine below_set ?_ GE336.out | refine below_set ?_ GE337.out | refine below_set ?_ GE341.out | refine below_set ?_ GE345.out) | exact HB.out)⟩⟩
   ·rw [if_neg c44] at H
    exact absurd H (by simp)
  case rest =>
   clear HC8;obtain ⟨kq, x50_7, rfl, HA, HJ7, BK333, BK334, BK336, BK337, BK341, BK345, HB⟩ := hcut
   cases kq with
   | zero => exact absurd HA.out (by simp [formularylaw07_IntegersRanges.j0])
   | succ kj7 =>
    have H := HA.out;clear HA;simp only [formularylaw07_IntegersRanges.j0] at H
    by_cases c56 : x50_7 = true
    ·subst c56
     have H1 : (none) = some r := by rw [if_pos rfl] at H; exact H
     clear H;have H := H1;clear H1
     exact absurd H (by simp)
    ·replace c56 := Bool.eq_false_iff.mpr c56
     subst c56
     have H1 : (if t344 = 0 then ((formularybase_Mod.f a2_0 (wrap64 ((wrap64 (a1_1 - a1_0)) + 1))).bind fun t346 => ((formularybase_Mod.f a2_1 (wrap64 ((wrap64 (a1_3 - a1_2)) + 1))).bind fun t347 => ((integers_Apply.f kj7 a0 (wrap64 (a1_0 + t346)) (wrap64 (a1_2 + t347))).bind fun bt348 => (if bt348.2 = 0 then ((formularybase_Within.f bt348.1 t338 t339).bind fun t350 => (some t350)) else (none))))) else (some true)) = some r := by rw [if_neg (show ¬ (false = true) by decide)] at H; exact H
     clear H;have H := H1;clear H1
     by_cases c57 : t344 = 0
     ·rw [if_pos c57] at H
      have c57b0 : (t344 == 0) = true := beq_iff_eq.mpr c57
      have c57b1 : (t344 != 0) = false := bne_eq_false_iff_eq.mpr c57
      clear c57;replace H := Option.bind_eq_some_iff.mp H;obtain ⟨t346, A580, H⟩ := H
      try dsimp only at H
      have A58 := Aside0.mk A580;clear A580;replace H := Option.bind_eq_some_iff.mp H;obtain ⟨t347, A590, H⟩ := H
      try dsimp only at H
      have A59 := Aside0.mk A590;clear A590;replace H := Option.bind_eq_some_iff.mp H;obtain ⟨⟨t348, t349⟩, A600, H⟩ := H
      try dsimp only at H
      have A60 := Aside0.mk A600;clear A600
      by_cases c61 : t349 = 0
      ·rw [if_pos c61] at H
       have c61b0 : (t349 == 0) = true := beq_iff_eq.mpr c61
       have c61b1 : (t349 != 0) = false := bne_eq_false_iff_eq.mpr c61
       clear c61;replace H := Option.bind_eq_some_iff.mp H;obtain ⟨t350, A620, H⟩ := H
       try dsimp only at H
       have A62 := Aside0.mk A620;clear A620
       as_aux_lemma =>
        obtain rfl := Option.some.inj H
        try go_wp2
        have n0_ := Aside0.mk (blk_drew BK333.out);have n1_ := Aside0.mk (blk_drew BK334.out);have n2_ := Aside0.mk (blk_drew BK336.out);have n3_ := Aside0.mk (blk_drew BK337.out);have n4_ := Aside0.mk (blk_drew BK341.out);have n5_ := Aside0.mk (blk_drew BK345.out);have n6_ := Aside0.mk (below_drew1 HB.out);clear BK333;clear BK334;clear BK336;clear BK337;clear BK341;clear BK345;clear HB;have BK333 := n0_;have BK334 := n1_;have BK336 := n2_;have BK337 := n3_;have BK341 := n4_;have BK345 := n5_;have HB := n6_;clear n0_ n1_ n2_ n3_ n4_ n5_ n6_
        refine start_ (n := 13) (S := fun w' => w'.cell? ⟨gb336, 0, none⟩ = some (.int .i64 a1_0) ∧ w'.cell? ⟨gb336, 1, none⟩ = some (.int .i64 a1_1) ∧ w'.cell? ⟨gb334, 0, none⟩ = some (.int .i64 a2_0) ∧ w'.cell? ⟨gb334, 1, none⟩ = some (.int .i64 a2_1)) (ds := []) #[false, false, false, false, false, false, false, false, false, false, false, false, false] (by kernel_rfl) rfl rfl ⟨(blk_cell BK336.out 0).trans rfl, (blk_cell BK336.out 1).trans rfl, (blk_cell BK334.out 0).trans rfl, (blk_cell BK334.out 1).trans rfl⟩ (fun hHeld => ?_); refine with_tabW formularylaw07_IntegersRanges.tab10 formularylaw07_IntegersRanges.bits10 (fun HT_ HW_ => ?_)
        generalize wc.drew = w63 at BK333 BK334 BK336 BK337 BK341 BK345 HB hHeld ⊢
        refine pure_ (i := 0) (N := some 53) (v := ?_) (a' := ?_) #[true, false, false, false, false, false, false, false, false, false, false, false, false] rfl rfl (any_of HT_.out (by kernel_rfl)) (fun _ _ _ h => h) (Or.inl ⟨by rfl, ?_⟩) ?_ ?_
        rotate_left
        ·intro w'
         go_simp
         with_reducible rfl
        rotate_left
        ·simp only [Act.put, List.setIfInBounds_toArray, List.set_cons_zero, List.set_cons_succ, i64_w, i32_w]
         rfl
        refine pure_ (i := 2) (N := some 55) (v := ?_) (a' := ?_) #[true, false, true, false, false, false, false, false, false, false, false, false, false] rfl rfl (any_of HT_.out (by kernel_rfl)) (fun _ _ _ h => h) (Or.inl ⟨by rfl, ?_⟩) ?_ ?_
        rotate_left
        ·intro w'
         go_simp
         with_reducible rfl
        rotate_left
        ·simp only [Act.put, List.setIfInBounds_toArray, List.set_cons_zero, List.set_cons_succ, i64_w, i32_w]
         rfl
        refine pure_ (i := 4) (N := some 57) (v := ?_) (a' := ?_) #[true, false, true, false, true, false, false, false, false, false, false, false, false] rfl rfl (any_of HT_.out (by kernel_rfl)) (fun _ _ _ h => h) (Or.inl ⟨by rfl, ?_⟩) ?_ ?_
        rotate_left
        ·intro w'
         go_simp
         with_reducible rfl
        rotate_left
        ·simp only [Act.put, List.setIfInBounds_toArray, List.set_cons_zero, List.set_cons_succ, i64_w, i32_w]
         rfl
        refine pure_ (i := 6) (N := some 59) (v := ?_) (a' := ?_) #[true, false, true, false, true, false, true, false, false, false, false, false, false] rfl rfl (any_of HT_.out (by kernel_rfl)) (fun _ _ _ h => h) (Or.inl ⟨by rfl, ?_⟩) ?_ ?_
        rotate_left
        ·intro w'
         go_simp
         with_reducible rfl
        rotate_left
        ·simp only [Act.put, List.setIfInBounds_toArray, List.set_cons_zero, List.set_cons_succ, i64_w, i32_w]
         rfl
        refine take_ (i := 1) (N := some 54) (v := ?_) (a' := ?_) #[true, true, true, false, true, false, true, false, false, false, false, false, false] rfl rfl (take_ofW HT_.out HW_.out (by kernel_rfl)) (fun _ _ _ h => h) (Or.inl ⟨by rfl, ?_⟩) hHeld ?_ ?_
        rotate_left
        ·rintro w' ⟨s0, s1, s2, s3⟩
         go_simp
         with_reducible rfl
        rotate_left
        ·simp only [Act.put, List.setIfInBounds_toArray, List.set_cons_zero, List.set_cons_succ, i64_w, i32_w]
         rfl
        refine take_ (i := 3) (N := some 56) (v := ?_) (a' := ?_) #[true, true, true, true, true, false, true, false, false, false, false, false, false] rfl rfl (take_ofW HT_.out HW_.out (by kernel_rfl)) (fun _ _ _ h => h) (Or.inl ⟨by rfl, ?_⟩) hHeld ?_ ?_
        rotate_left
        ·rintro w' ⟨s0, s1, s2, s3⟩
         go_simp
         with_reducible rfl
        rotate_left
        ·simp only [Act.put, List.setIfInBounds_toArray, List.set_cons_zero, List.set_cons_succ, i64_w, i32_w]
         rfl
        refine take_ (i := 5) (N := some 58) (v := ?_) (a' := ?_) #[true, true, true, true, true, true, true, false, false, false, false, false, false] rfl rfl (take_ofW HT_.out HW_.out (by kernel_rfl)) (fun _ _ _ h => h) (Or.inl ⟨by rfl, ?_⟩) hHeld ?_ ?_
        rotate_left
        ·rintro w' ⟨s0, s1, s2, s3⟩
         go_simp
         with_reducible rfl
        rotate_left
        ·simp only [Act.put, List.setIfInBounds_toArray, List.set_cons_zero, List.set_cons_succ, i64_w, i32_w]
         rfl
        refine take_ (i := 7) (N := some 60) (v := ?_) (a' := ?_) #[true, true, true, true, true, true, true, true, false, false, false, false, false] rfl rfl (take_ofW HT_.out HW_.out (by kernel_rfl)) (fun _ _ _ h => h) (Or.inl ⟨by rfl, ?_⟩) hHeld ?_ ?_
        rotate_left
        ·rintro w' ⟨s0, s1, s2, s3⟩
         go_simp
         with_reducible rfl
        rotate_left
        ·simp only [Act.put, List.setIfInBounds_toArray, List.set_cons_zero, List.set_cons_succ, i64_w, i32_w]
         rfl
        refine pure_ (i := 8) (N := some 61) (v := ?_) (a' := ?_) #[true, true, true, true, true, true, true, true, true, false, false, false, false] rfl rfl (any_of HT_.out (by kernel_rfl)) (fun _ _ _ h => h) (Or.inl ⟨by rfl, ?_⟩) ?_ ?_
        rotate_left
        ·intro w'
         go_simp
         with_reducible rfl
        rotate_left
        ·simp only [Act.put, List.setIfInBounds_toArray, List.set_cons_zero, List.set_cons_succ, i64_w, i32_w]
         rfl
        refine pure_ (i := 9) (N := some 62) (v := ?_) (a' := ?_) #[true, true, true, true, true, true, true, true, true, true, false, false, false] rfl rfl (any_of HT_.out (by kernel_rfl)) (fun _ _ _ h => h) (Or.inl ⟨by rfl, ?_⟩) ?_ ?_
        rotate_left
        ·intro w'
         go_simp
         with_reducible rfl
        rotate_left
        ·simp only [Act.put, List.setIfInBounds_toArray, List.set_cons_zero, List.set_cons_succ, i64_w, i32_w]
         rfl
        refine one_ (i := 10) (N := some 63) #[true, true, true, true, true, true, true, true, true, true, true, false, false] rfl rfl (one_of HT_.out (by kernel_rfl)) (by decide) (fun K hK => ?_)
        refine goes_ Try.func24 (by kernel_rfl) rfl #[.int .i64 a2_0, .int .i64 (wrap64 ((wrap64 (a1_1 - a1_0)) + 1))] (by rfl) rfl rfl (by (try simp only [List.map_toArray, List.map_cons, List.map_nil]); first | done | rfl) ?_
        with_reducible refine (formularybase_Mod.calls a2_0 (wrap64 ((wrap64 (a1_1 - a1_0)) + 1)) t346 _ A58.out).mono ?_
        rintro e w' ⟨rfl, ⟨nd, rfl⟩⟩
        refine ⟨_, rfl, ?_⟩
        refine hK.out _ _ ⟨(blk_cell BK336.out 0).trans rfl, (blk_cell BK336.out 1).trans rfl, (blk_cell BK334.out 0).trans rfl, (blk_cell BK334.out 1).trans rfl⟩ (fun hHeld => ?_)
        clear hK K
        refine norm_ (a' := ?_) ?_ ?_
        rotate_left
        ·show Act.put _ (some 63) _ = _
         simp only [Act.put, List.setIfInBounds_toArray, List.set_cons_zero, List.set_cons_succ, i64_w, i32_w]
         rfl
        refine pure_ (i := 11) (N := some 64) (v := ?_) (a' := ?_) #[true, true, true, true, true, true, true, true, true, true, true, true, false] rfl rfl (any_of HT_.out (by kernel_rfl)) (fun _ _ _ h => h) (Or.inl ⟨by rfl, ?_⟩) ?_ ?_
        rotate_left
        ·intro w'
         go_simp
         with_reducible rfl
        rotate_left
        ·simp only [Act.put, List.setIfInBounds_toArray, List.set_cons_zero, List.set_cons_succ, i64_w, i32_w]
         rfl
        refine pure_ (i := 12) (N := some 13) (v := ?_) (a' := ?_) #[true, true, true, true, true, true, true, true, true, true, true, true, true] rfl rfl (any_of HT_.out (by kernel_rfl)) (fun _ _ _ h => h) (Or.inl ⟨by rfl, ?_⟩) ?_ ?_
        rotate_left
        ·intro w'
         go_simp
         with_reducible rfl
        rotate_left
        ·simp only [Act.put, List.setIfInBounds_toArray, List.set_cons_zero, List.set_cons_succ, i64_w, i32_w]
         rfl
        refine done_ (done_of HT_.out (by kernel_rfl)) ?_
        try go_wp2
        (try (rw [drewN_self w63]; generalize hq_ : World.drewN w63 _ = w63; have n0_ : Aside0 (w63.heap[gb333]? = some (.cells #[.int .i64 a1_0, .int .i64 a1_1, .int .i64 a1_2, .int .i64 a1_3] 32 (0, 0))) := ⟨by rw [← hq_]; exact (bk BK333.out)⟩; have n1_ : Aside0 (w63.heap[gb334]? = some (.cells #[.int .i64 a2_0, .int .i64 a2_1] 33 (0, 0))) := ⟨by rw [← hq_]; exact (bk BK334.out)⟩; have n2_ : Aside0 (w63.heap[gb336]? = some (.cells #[.int .i64 a1_0, .int .i64 a1_1] 35 (0, 0))) := ⟨by rw [← hq_]; exact (bk BK336.out)⟩; have n3_ : Aside0 (w63.heap[gb337]? = some (.cells #[.int .i64 a1_2, .int .i64 a1_3] 35 (0, 0))) := ⟨by rw [← hq_]; exact (bk BK337.out)⟩; have n4_ : Aside0 (w63.heap[gb341]? = some (.cells #[.int .i64 t338, .int .i64 t339] 35 (0, 0))) := ⟨by rw [← hq_]; exact (bk BK341.out)⟩; have n5_ : Aside0 (w63.heap[gb345]? = some (.cells #[.int .i64 t342, .int .i64 t343] 35 (0, 0))) := ⟨by rw [← hq_]; exact (bk BK345.out)⟩; have n6_ : Aside0 (Below w.heap.size w w63) := ⟨by rw [← hq_]; exact (by repeat (first | (with_reducible first | exact HB.out | apply below_alloc | apply pw_below_drewN | apply below_drew1 | refine below_set ?_ GE333.out | refine below_set ?_ GE334.out | refine below_set ?_ GE336.out | refine below_set ?_ GE337.out | refine below_set ?_ GE341.out | refine below_set ?_ GE345.out) | exact HB.out))⟩; clear BK333 BK334 BK336 BK337 BK341 BK345 HB hq_; have BK333 := n0_; have BK334 := n1_; have BK336 := n2_; have BK337 := n3_; have BK341 := n4_; have BK345 := n5_; have HB := n6_; clear n0_ n1_ n2_ n3_ n4_ n5_ n6_))
        have n0_ := Aside0.mk (blk_drew BK333.out);have n1_ := Aside0.mk (blk_drew BK334.out);have n2_ := Aside0.mk (blk_drew BK336.out);have n3_ := Aside0.mk (blk_drew BK337.out);have n4_ := Aside0.mk (blk_drew BK341.out);have n5_ := Aside0.mk (blk_drew BK345.out);have n6_ := Aside0.mk (below_drew1 HB.out);clear BK333;clear BK334;clear BK336;clear BK337;clear BK341;clear BK345;clear HB;have BK333 := n0_;have BK334 := n1_;have BK336 := n2_;have BK337 := n3_;have BK341 := n4_;have BK345 := n5_;have HB := n6_;clear n0_ n1_ n2_ n3_ n4_ n5_ n6_
        refine start_ (n := 13) (S := fun w' => w'.cell? ⟨gb337, 0, none⟩ = some (.int .i64 a1_2) ∧ w'.cell? ⟨gb337, 1, none⟩ = some (.int .i64 a1_3) ∧ w'.cell? ⟨gb334, 0, none⟩ = some (.int .i64 a2_0) ∧ w'.cell? ⟨gb334, 1, none⟩ = some (.int .i64 a2_1)) (ds := []) #[false, false, false, false, false, false, false, false, false, false, false, false, false] (by kernel_rfl) rfl rfl ⟨(blk_cell BK337.out 0).trans rfl, (blk_cell BK337.out 1).trans rfl, (blk_cell BK334.out 0).trans rfl, (blk_cell BK334.out 1).trans rfl⟩ (fun hHeld => ?_); refine with_tabW formularylaw07_IntegersRanges.tab11 formularylaw07_IntegersRanges.bits11 (fun HT_ HW_ => ?_)
        generalize w63.drew = w64 at BK333 BK334 BK336 BK337 BK341 BK345 HB hHeld ⊢
        refine pure_ (i := 0) (N := some 65) (v := ?_) (a' := ?_) #[true, false, false, false, false, false, false, false, false, false, false, false, false] rfl rfl (any_of HT_.out (by kernel_rfl)) (fun _ _ _ h => h) (Or.inl ⟨by rfl, ?_⟩) ?_ ?_
        rotate_left
        ·intro w'
         go_simp
         with_reducible rfl
        rotate_left
        ·simp only [Act.put, List.setIfInBounds_toArray, List.set_cons_zero, List.set_cons_succ, i64_w, i32_w]
         rfl
        refine pure_ (i := 2) (N := some 67) (v := ?_) (a' := ?_) #[true, false, true, false, false, false, false, false, false, false, false, false, false] rfl rfl (any_of HT_.out (by kernel_rfl)) (fun _ _ _ h => h) (Or.inl ⟨by rfl, ?_⟩) ?_ ?_
        rotate_left
        ·intro w'
         go_simp
         with_reducible rfl
        rotate_left
        ·simp only [Act.put, List.setIfInBounds_toArray, List.set_cons_zero, List.set_cons_succ, i64_w, i32_w]
         rfl
        refine pure_ (i := 4) (N := some 69) (v := ?_) (a' := ?_) #[true, false, true, false, true, false, false, false, false, false, false, false, false] rfl rfl (any_of HT_.out (by kernel_rfl)) (fun _ _ _ h => h) (Or.inl ⟨by rfl, ?_⟩) ?_ ?_
        rotate_left
        ·intro w'
         go_simp
         with_reducible rfl
        rotate_left
        ·simp only [Act.put, List.setIfInBounds_toArray, List.set_cons_zero, List.set_cons_succ, i64_w, i32_w]
         rfl
        refine pure_ (i := 6) (N := some 71) (v := ?_) (a' := ?_) #[true, false, true, false, true, false, true, false, false, false, false, false, false] rfl rfl (any_of HT_.out (by kernel_rfl)) (fun _ _ _ h => h) (Or.inl ⟨by rfl, ?_⟩) ?_ ?_
        rotate_left
        ·intro w'
         go_simp
         with_reducible rfl
        rotate_left
        ·simp only [Act.put, List.setIfInBounds_toArray, List.set_cons_zero, List.set_cons_succ, i64_w, i32_w]
         rfl
        refine take_ (i := 1) (N := some 66) (v := ?_) (a' := ?_) #[true, true, true, false, true, false, true, false, false, false, false, false, false] rfl rfl (take_ofW HT_.out HW_.out (by kernel_rfl)) (fun _ _ _ h => h) (Or.inl ⟨by rfl, ?_⟩) hHeld ?_ ?_
        rotate_left
        ·rintro w' ⟨s0, s1, s2, s3⟩
         go_simp
         with_reducible rfl
        rotate_left
        ·simp only [Act.put, List.setIfInBounds_toArray, List.set_cons_zero, List.set_cons_succ, i64_w, i32_w]
         rfl
        refine take_ (i := 3) (N := some 68) (v := ?_) (a' := ?_) #[true, true, true, true, true, false, true, false, false, false, false, false, false] rfl rfl (take_ofW HT_.out HW_.out (by kernel_rfl)) (fun _ _ _ h => h) (Or.inl ⟨by rfl, ?_⟩) hHeld ?_ ?_
        rotate_left
        ·rintro w' ⟨s0, s1, s2, s3⟩
         go_simp
         with_reducible rfl
        rotate_left
        ·simp only [Act.put, List.setIfInBounds_toArray, List.set_cons_zero, List.set_cons_succ, i64_w, i32_w]
         rfl
        refine take_ (i := 5) (N := some 70) (v := ?_) (a' := ?_) #[true, true, true, true, true, true, true, false, false, false, false, false, false] rfl rfl (take_ofW HT_.out HW_.out (by kernel_rfl)) (fun _ _ _ h => h) (Or.inl ⟨by rfl, ?_⟩) hHeld ?_ ?_
        rotate_left
        ·rintro w' ⟨s0, s1, s2, s3⟩
         go_simp
         with_reducible rfl
        rotate_left
        ·simp only [Act.put, List.setIfInBounds_toArray, List.set_cons_zero, List.set_cons_succ, i64_w, i32_w]
         rfl
        refine take_ (i := 7) (N := some 72) (v := ?_) (a' := ?_) #[true, true, true, true, true, true, true, true, false, false, false, false, false] rfl rfl (take_ofW HT_.out HW_.out (by kernel_rfl)) (fun _ _ _ h => h) (Or.inl ⟨by rfl, ?_⟩) hHeld ?_ ?_
        rotate_left
        ·rintro w' ⟨s0, s1, s2, s3⟩
         go_simp
         with_reducible rfl
        rotate_left
        ·simp only [Act.put, List.setIfInBounds_toArray, List.set_cons_zero, List.set_cons_succ, i64_w, i32_w]
         rfl
        refine pure_ (i := 8) (N := some 73) (v := ?_) (a' := ?_) #[true, true, true, true, true, true, true, true, true, false, false, false, false] rfl rfl (any_of HT_.out (by kernel_rfl)) (fun _ _ _ h => h) (Or.inl ⟨by rfl, ?_⟩) ?_ ?_
        rotate_left
        ·intro w'
         go_simp
         with_reducible rfl
        rotate_left
        ·simp only [Act.put, List.setIfInBounds_toArray, List.set_cons_zero, List.set_cons_succ, i64_w, i32_w]
         rfl
        refine pure_ (i := 9) (N := some 74) (v := ?_) (a' := ?_) #[true, true, true, true, true, true, true, true, true, true, false, false, false] rfl rfl (any_of HT_.out (by kernel_rfl)) (fun _ _ _ h => h) (Or.inl ⟨by rfl, ?_⟩) ?_ ?_
        rotate_left
        ·intro w'
         go_simp
         with_reducible rfl
        rotate_left
        ·simp only [Act.put, List.setIfInBounds_toArray, List.set_cons_zero, List.set_cons_succ, i64_w, i32_w]
         rfl
        refine one_ (i := 10) (N := some 75) #[true, true, true, true, true, true, true, true, true, true, true, false, false] rfl rfl (one_of HT_.out (by kernel_rfl)) (by decide) (fun K hK => ?_)
        refine goes_ Try.func24 (by kernel_rfl) rfl #[.int .i64 a2_1, .int .i64 (wrap64 ((wrap64 (a1_3 - a1_2)) + 1))] (by rfl) rfl rfl (by (try simp only [List.map_toArray, List.map_cons, List.map_nil]); first | done | rfl) ?_
        with_reducible refine (formularybase_Mod.calls a2_1 (wrap64 ((wrap64 (a1_3 - a1_2)) + 1)) t347 _ A59.out).mono ?_
        rintro e w' ⟨rfl, ⟨nd, rfl⟩⟩
        refine ⟨_, rfl, ?_⟩
        refine hK.out _ _ ⟨(blk_cell BK337.out 0).trans rfl, (blk_cell BK337.out 1).trans rfl, (blk_cell BK334.out 0).trans rfl, (blk_cell BK334.out 1).trans rfl⟩ (fun hHeld => ?_)
        clear hK K
        refine norm_ (a' := ?_) ?_ ?_
        rotate_left
        ·show Act.put _ (some 75) _ = _
         simp only [Act.put, List.setIfInBounds_toArray, List.set_cons_zero, List.set_cons_succ, i64_w, i32_w]
         rfl
        refine pure_ (i := 11) (N := some 76) (v := ?_) (a' := ?_) #[true, true, true, true, true, true, true, true, true, true, true, true, false] rfl rfl (any_of HT_.out (by kernel_rfl)) (fun _ _ _ h => h) (Or.inl ⟨by rfl, ?_⟩) ?_ ?_
        rotate_left
        ·intro w'
         go_simp
         with_reducible rfl
        rotate_left
        ·simp only [Act.put, List.setIfInBounds_toArray, List.set_cons_zero, List.set_cons_succ, i64_w, i32_w]
         rfl
        refine pure_ (i := 12) (N := some 14) (v := ?_) (a' := ?_) #[true, true, true, true, true, true, true, true, true, true, true, true, true] rfl rfl (any_of HT_.out (by kernel_rfl)) (fun _ _ _ h => h) (Or.inl ⟨by rfl, ?_⟩) ?_ ?_
        rotate_left
        ·intro w'
         go_simp
         with_reducible rfl
        rotate_left
        ·simp only [Act.put, List.setIfInBounds_toArray, List.set_cons_zero, List.set_cons_succ, i64_w, i32_w]
         rfl
        refine done_ (done_of HT_.out (by kernel_rfl)) ?_
        try go_wp2_with (first | ((with_reducible refine gate_callee (f := 13) rfl ?_); refine goesL_ (some 81) rfl rfl Try.func13 (by kernel_rfl) rfl #[.int .i64 a0, .int .i64 (wrap64 (a1_0 + t346)), .int .i64 (wrap64 (a1_2 + t347))] rfl (by (try simp only [List.map_toArray, List.map_cons, List.map_nil]); first | done | rfl) ?_; (with_reducible refine (integers_Apply.calls kj7 a0 (wrap64 (a1_0 + t346)) (wrap64 (a1_2 + t347)) t348 t349 _ A60.out).mono ?_); rintro e w65 ⟨rfl, hb⟩; refine ⟨_, rfl, ?_⟩; have n0_ := Aside0.mk (blk_below (g := gb333) (o := .cells #[.int .i64 a1_0, .int .i64 a1_1, .int .i64 a1_2, .int .i64 a1_3] 32 (0, 0)) (bk BK333.out) hb); have n1_ := Aside0.mk (blk_below (g := gb334) (o := .cells #[.int .i64 a2_0, .int .i64 a2_1] 33 (0, 0)) (bk BK334.out) hb); have n2_ := Aside0.mk (blk_below (g := gb336) (o := .cells #[.int .i64 a1_0, .int .i64 a1_1] 35 (0, 0)) (bk BK336.out) hb); have n3_ := Aside0.mk (blk_below (g := gb337) (o := .cells #[.int .i64 a1_2, .int .i64 a1_3] 35 (0, 0)) (bk BK337.out) hb); have n4_ := Aside0.mk (blk_below (g := gb341) (o := .cells #[.int .i64 t338, .int .i64 t339] 35 (0, 0)) (bk BK341.out) hb); have n5_ := Aside0.mk (blk_below (g := gb345) (o := .cells #[.int .i64 t342, .int .i64 t343] 35 (0, 0)) (bk BK345.out) hb); have n6_ := Aside0.mk (below_step (by repeat (first | (with_reducible first | exact HB.out | apply below_alloc | apply pw_below_drewN | apply below_drew1 | refine below_set ?_ GE333.out | refine below_set ?_ GE334.out | refine below_set ?_ GE336.out | refine below_set ?_ GE337.out | refine below_set ?_ GE341.out | refine below_set ?_ GE345.out) | exact HB.out)) hb); clear BK333; clear BK334; clear BK336; clear BK337; clear BK341; clear BK345; clear HB; have BK333 := n0_; have BK334 := n1_; have BK336 := n2_; have BK337 := n3_; have BK341 := n4_; have BK345 := n5_; have HB := n6_; clear n0_ n1_ n2_ n3_ n4_ n5_ n6_; (try clear hb); (try clear hb2); (try clear hk); (try clear hi); have hnb66 := NB341_333.out; have hnc66 := NB333_341.out; have hnb67 := NB341_334.out; have hnc67 := NB334_341.out; have hnb68 := NB341_336.out; have hnc68 := NB336_341.out; have hnb69 := NB341_337.out; have hnc69 := NB337_341.out; have hnb70 := NB341_345.out; have hnc70 := NB345_341.out; have hcz71_0 : w65.cell? ⟨gb341, 0, none⟩ = some (.int .i64 t338) := (blk_cell BK341.out 0).trans rfl; have hcz71_1 : w65.cell? ⟨gb341, 1, none⟩ = some (.int .i64 t339) := (blk_cell BK341.out 1).trans rfl; have hfz71_0 := blk_frozen BK341.out 0; have hfz71_1 := blk_frozen BK341.out 1) | (go_at_call 19; (with_reducible refine (formularybase_Within.calls t348 t338 t339 t350 _ A62.out).mono ?_); rintro e w' ⟨rfl, ⟨nd, rfl⟩⟩))
        go_ret
        exact ⟨by first | rfl | (simp [*] <;> rfl), by repeat (first | (with_reducible first | exact HB.out | apply below_alloc | apply pw_below_drewN | apply below_drew1 | refine below_set ?_ GE333.out | refine below_set ?_ GE334.out | refine below_set ?_ GE336.out | refine below_set ?_ GE337.out | refine below_set ?_ GE341.out | refine below_set ?_ GE345.out) | exact HB.out)⟩
      ·rw [if_neg c61] at H
       exact absurd H (by simp)
     ·rw [if_neg c57] at H
      have c57b0 : (t344 == 0) = false := beq_eq_false_iff_ne.mpr c57
      have c57b1 : (t344 != 0) = true := bne_iff_ne.mpr c57
      as_aux_lemma =>
       obtain rfl := Option.some.inj H
       go_wp2
       go_ret
       exact ⟨by first | rfl | (simp [*] <;> rfl), by repeat (first | (with_reducible first | exact HB.out | apply below_alloc | apply pw_below_drewN | apply below_drew1 | refine below_set ?_ GE333.out | refine below_set ?_ GE334.out | refine below_set ?_ GE336.out | refine below_set ?_ GE337.out | refine below_set ?_ GE341.out | refine below_set ?_ GE345.out) | exact HB.out)⟩
 ·replace c5 := Bool.eq_false_iff.mpr c5
  subst c5
  have H1 : (none) = some r := by rw [if_neg (show ¬ (false = true) by decide)] at H; exact H
  clear H;have H := H1;clear H1
  exact absurd H (by simp)

end Go.Proofs.Ytgmlihjopinagaa.PIntegersRanges
