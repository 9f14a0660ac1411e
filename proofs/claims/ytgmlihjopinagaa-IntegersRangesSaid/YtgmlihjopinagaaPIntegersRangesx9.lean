-- (short) Written by myprint.py of this session over the kit's print program; contracts by hand where it does not serve.
import Derived.Test.YtgmlihjopinagaaPIntegersRangesx0
import Derived.Test.YtgmlihjopinagaaPIntegersRangesx1
import Derived.Test.YtgmlihjopinagaaPIntegersRangesx2
import Derived.Test.YtgmlihjopinagaaPIntegersRangesx3
import Derived.Test.YtgmlihjopinagaaPIntegersRangesx4
import Derived.Test.YtgmlihjopinagaaPIntegersRangesx8
namespace Go.Proofs.Ytgmlihjopinagaa.PIntegersRanges
open Go.RowKit Go.Proofs.YtgmlihjopinagaaW.PrintWords Go.Proofs.YtgmlihjopinagaaW.PrintLast Go.Proofs.YtgmlihjopinagaaW.PrintMore
attribute [local go_sem] max2_int min2_int max_two min_two max_three min_three max_four min_four   -- for this text's walks alone
set_option linter.unusedVariables false
set_option linter.unusedSimpArgs false

attribute [local go_sem high] eqA35 eqA43
/-! ### integers_Divided: function 26 -/
def integers_Divided.f (k : Nat) (a0 : Int) (a1 : Int) : Option (Int × Int × Int) := (integers_Apply.f k 3 a0 a1).bind fun bt251 => (if bt251.2 = 0 then (some (bt251.1, wrap64 (a0 - (wrap64 (bt251.1 * a1))), 0)) else (some (0, 0, bt251.2)))
theorem integers_Divided.mono : ∀ a0 a1 k, LeO (integers_Divided.f k a0 a1) (integers_Divided.f (k + 1) a0 a1) := by
 intro a0 a1 k
 unfold integers_Divided.f
 repeat' first
   | (with_reducible exact integers_Apply.mono _ _ _ _)
   | (with_reducible exact LeO.refl _)
   | (with_reducible exact LeO.none _)
   | (with_reducible refine LeO.ite ?_ ?_)
   | (with_reducible refine LeO.bind ?_ (fun _ => ?_))
   | exact integers_Apply.mono _ _ _ _
   | exact LeO.none _
   | refine LeO.ite ?_ ?_
   | refine LeO.bind ?_ (fun _ => ?_)
set_option maxHeartbeats 8000000 in
set_option maxRecDepth 100000 in
theorem integers_Divided.calls (k : Nat) (a0 : Int) (a1 : Int) (r1 : Int) (r2 : Int) (r3 : Int) (w : World) (h : integers_Divided.f k a0 a1 = some (r1, r2, r3)) :
  Calls Try.prog 26 #[.int .i64 a0, .int .i64 a1] w fun e w' => e = .returned (.tuple #[.agg #[.int .i64 r1, .int .i64 r2], .int .i64 r3]) ∧ Below w.heap.size w w' := by
 have hu43 := Try.underlying43;have HB := Aside0.mk (Below.refl w.heap.size w)
 have H : ((integers_Apply.f k 3 a0 a1).bind fun bt251 => (if bt251.2 = 0 then (some (bt251.1, wrap64 (a0 - (wrap64 (bt251.1 * a1))), 0)) else (some (0, 0, bt251.2)))) = some (r1, r2, r3) := h
 clear h;replace H := Option.bind_eq_some_iff.mp H;obtain ⟨⟨t251, t252⟩, A30, H⟩ := H
 try dsimp only at H
 have A3 := Aside0.mk A30;clear A30
 by_cases c4 : t252 = 0
 ·rw [if_pos c4] at H
  have c4b0 : (t252 == 0) = true := beq_iff_eq.mpr c4
  have c4b1 : (t252 != 0) = false := bne_eq_false_iff_eq.mpr c4
  clear c4
  as_aux_lemma =>
   simp only [Option.some.injEq, Prod.mk.injEq] at H;obtain ⟨rfl, rfl, rfl⟩ := H
   go_enter Try.func26, Try.ntmps26
   go_wp2_with (first | ((with_reducible refine gate_dst (N := 4) rfl ?_); refine box_event ?hg (N := 4) ?hd (cs := #[.int .i64 0, .int .i64 0]) (t := 43) ?hr ?_; (case hd => rfl); (case hg => rfl); (case hr => first | (go_simp; done) | (go_simp; rfl)); intro gb250 hg w5 hbox hb; have n0_ := Aside0.mk (below_step (bw HB.out) hb); have n1_ := Aside0.mk (hbox); have n2_ := Aside0.mk ((by rw [hg]; exact (below_size (bw HB.out)) : w.heap.size ≤ gb250)); have n3_ := Aside0.mk ((by rw [hg]; exact (below_size (bw HB.out)) : w.heap.size ≤ gb250)); clear HB; have HB := n0_; have BK250 := n1_; have GW250 := n2_; have GE250 := n3_; clear n0_ n1_ n2_ n3_; clear hb hbox hg) | ((with_reducible refine gate_callee (f := 13) rfl ?_); refine goesL_ (some 11) rfl rfl Try.func13 (by kernel_rfl) rfl #[.int .i64 3, .int .i64 a0, .int .i64 a1] rfl (by (try simp only [List.map_toArray, List.map_cons, List.map_nil]); first | done | rfl) ?_; (with_reducible refine (integers_Apply.calls k 3 a0 a1 t251 t252 _ A3.out).mono ?_); rintro e w6 ⟨rfl, hb⟩; refine ⟨_, rfl, ?_⟩; have n0_ := Aside0.mk (blk_below (g := gb250) (o := .cells #[.int .i64 0, .int .i64 0] 43 (0, 0)) (bk BK250.out) hb); have n1_ := Aside0.mk (below_step (by repeat (first | (with_reducible first | exact HB.out | apply below_alloc | apply pw_below_drewN | apply below_drew1 | refine below_set ?_ GE250.out) | exact HB.out)) hb); clear BK250; clear HB; have BK250 := n0_; have HB := n1_; clear n0_ n1_; (try clear hb); (try clear hb2); (try clear hk); (try clear hi); have hcz7_0 : w6.cell? ⟨gb250, 0, none⟩ = some (.int .i64 0) := (blk_cell BK250.out 0).trans rfl; have hcz7_1 : w6.cell? ⟨gb250, 1, none⟩ = some (.int .i64 0) := (blk_cell BK250.out 1).trans rfl; have hfz7_0 := blk_frozen BK250.out 0; have hfz7_1 := blk_frozen BK250.out 1))
   refine bodyPost_ret (results_ct rfl _ _ gb250 43 #[.int .i64 t251, .int .i64 (wrap64 (a0 - (wrap64 (t251 * a1))))] (0, 0) _ rfl (by refine bk (blk_put (cs := #[.int .i64 t251, .int .i64 0]) ?_ 1 _ rfl); refine bk (blk_put (cs := #[.int .i64 0, .int .i64 0]) ?_ 0 _ rfl); exact bk BK250.out) Try.underlying43 rfl (by kernel_rfl)) rfl ?_
   exact ⟨by first | rfl | (simp [*] <;> rfl), by repeat (first | (with_reducible first | exact HB.out | apply below_alloc | apply pw_below_drewN | apply below_drew1 | refine below_set ?_ GE250.out) | exact HB.out)⟩
 ·rw [if_neg c4] at H
  have c4b0 : (t252 == 0) = false := beq_eq_false_iff_ne.mpr c4
  have c4b1 : (t252 != 0) = true := bne_iff_ne.mpr c4
  as_aux_lemma =>
   simp only [Option.some.injEq, Prod.mk.injEq] at H;obtain ⟨rfl, rfl, rfl⟩ := H
   go_enter Try.func26, Try.ntmps26
   go_wp2_with (first | ((with_reducible refine gate_dst (N := 4) rfl ?_); refine box_event ?hg (N := 4) ?hd (cs := #[.int .i64 0, .int .i64 0]) (t := 43) ?hr ?_; (case hd => rfl); (case hg => rfl); (case hr => first | (go_simp; done) | (go_simp; rfl)); intro gb250 hg w8 hbox hb; have n0_ := Aside0.mk (below_step (bw HB.out) hb); have n1_ := Aside0.mk (hbox); have n2_ := Aside0.mk ((by rw [hg]; exact (below_size (bw HB.out)) : w.heap.size ≤ gb250)); have n3_ := Aside0.mk ((by rw [hg]; exact (below_size (bw HB.out)) : w.heap.size ≤ gb250)); clear HB; have HB := n0_; have BK250 := n1_; have GW250 := n2_; have GE250 := n3_; clear n0_ n1_ n2_ n3_; clear hb hbox hg) | ((with_reducible refine gate_callee (f := 13) rfl ?_); refine goesL_ (some 11) rfl rfl Try.func13 (by kernel_rfl) rfl #[.int .i64 3, .int .i64 a0, .int .i64 a1] rfl (by (try simp only [List.map_toArray, List.map_cons, List.map_nil]); first | done | rfl) ?_; (with_reducible refine (integers_Apply.calls k 3 a0 a1 t251 t252 _ A3.out).mono ?_); rintro e w9 ⟨rfl, hb⟩; refine ⟨_, rfl, ?_⟩; have n0_ := Aside0.mk (blk_below (g := gb250) (o := .cells #[.int .i64 0, .int .i64 0] 43 (0, 0)) (bk BK250.out) hb); have n1_ := Aside0.mk (below_step (by repeat (first | (with_reducible first | exact HB.out | apply below_alloc | apply pw_below_drewN | apply below_drew1 | refine below_set ?_ GE250.out) | exact HB.out)) hb); clear BK250; clear HB; have BK250 := n0_; have HB := n1_; clear n0_ n1_; (try clear hb); (try clear hb2); (try clear hk); (try clear hi); have hcz10_0 : w9.cell? ⟨gb250, 0, none⟩ = some (.int .i64 0) := (blk_cell BK250.out 0).trans rfl; have hcz10_1 : w9.cell? ⟨gb250, 1, none⟩ = some (.int .i64 0) := (blk_cell BK250.out 1).trans rfl; have hfz10_0 := blk_frozen BK250.out 0; have hfz10_1 := blk_frozen BK250.out 1))
   refine bodyPost_ret (results_ct rfl _ _ gb250 43 #[.int .i64 0, .int .i64 0] (0, 0) _ rfl (by refine bk (blk_put (cs := #[.int .i64 0, .int .i64 0]) ?_ 1 _ rfl); refine bk (blk_put (cs := #[.int .i64 0, .int .i64 0]) ?_ 0 _ rfl); exact bk BK250.out) Try.underlying43 rfl (by kernel_rfl)) rfl ?_
   exact ⟨by first | rfl | (simp [*] <;> rfl), by repeat (first | (with_reducible first | exact HB.out | apply below_alloc | apply pw_below_drewN | apply below_drew1 | refine below_set ?_ GE250.out) | exact HB.out)⟩

/-! ### integers_check_field: function 67 -/
def integers_check_field.ins (n : Int) : Bool := decide (0 ≤ n) && decide (n ≤ 32)
set_option maxHeartbeats 8000000 in
theorem integers_check_field.inside (n : Int) (w : World) :
  Calls Try.prog 81 #[.int .i64 n] w fun e w' => e = .returned (.bool (integers_check_field.ins n)) ∧ Drawn0 w w' := by
 unfold integers_check_field.ins
 by_cases h : 0 ≤ n
 ·have c0 : decide (0 ≤ n) = true := decide_eq_true h
  clear h
  go_enter Try.func81, Try.ntmps81
  go_wp2
  go_ret
  exact ⟨by simp [c0], by repeat (first | exact Drawn0.refl _ | apply Drawn0.step)⟩
 ·have c0 : decide (0 ≤ n) = false := decide_eq_false h
  clear h
  go_enter Try.func81, Try.ntmps81
  go_wp2
  go_ret
  exact ⟨by simp [c0], by repeat (first | exact Drawn0.refl _ | apply Drawn0.step)⟩
/-- whether there is such a field -/
def integers_check_field.has (a1 a2 : Int) : Bool := integers_check_field.ins a1 && integers_check_field.ins a2 && decide (a1 ≤ 32 - a2)
def integers_check_field.f (a0 : Int) (a1 : Int) (a2 : Int) : Option (Int) := integers_check_want.f a0 (integers_check_field.has a1 a2) 2
set_option maxHeartbeats 8000000 in
set_option maxRecDepth 100000 in
theorem integers_check_field.calls (a0 : Int) (a1 : Int) (a2 : Int) (r : Int) (w : World) (h : integers_check_field.f a0 a1 a2 = some r) :
  Calls Try.prog 67 #[.int .i64 a0, .int .i64 a1, .int .i64 a2] w fun e w' => e = .returned (.int .i64 r) ∧ Below w.heap.size w w' := by
 have H0 := Aside0.mk h;clear h
 by_cases h1 : integers_check_field.ins a1 = true
 ·by_cases h2 : integers_check_field.ins a2 = true
  ·have hb : 0 ≤ a2 ∧ a2 ≤ 32 := by simpa [integers_check_field.ins] using h2
   obtain ⟨b0, b1⟩ := hb
   have e : integers_check_field.has a1 a2 = decide (a1 ≤ 32 - a2) := by simp [integers_check_field.has, h1, h2]
   have H : integers_check_want.f a0 (decide (a1 ≤ 32 - a2)) 2 = some r := by rw [← e]; exact H0.out
   have A1 := Aside0.mk H;clear H e H0
   go_enter Try.func67, Try.ntmps67
   go_wp2_with (first | (go_at_call 81; (with_reducible refine (integers_check_field.inside _ _).mono ?_); rintro e w' ⟨rfl, ⟨nd, rfl⟩⟩) | (go_at_call 48; (with_reducible refine (integers_check_want.calls a0 (decide (a1 ≤ 32 - a2)) 2 r _ A1.out).mono ?_); rintro e w' ⟨rfl, ⟨nd, rfl⟩⟩))
   go_ret
   exact ⟨by first | rfl | (simp; done) | (simp [*]; done), Drawn0.below (by repeat (first | exact Drawn0.refl _ | apply Drawn0.step))⟩
  ·replace h2 := Bool.eq_false_iff.mpr h2
   have e : integers_check_field.has a1 a2 = false := by simp [integers_check_field.has, h2]
   have H : integers_check_want.f a0 false 2 = some r := by rw [← e]; exact H0.out
   have A1 := Aside0.mk H;clear H e H0
   go_enter Try.func67, Try.ntmps67
   go_wp2_with (first | (go_at_call 81; (with_reducible refine (integers_check_field.inside _ _).mono ?_); rintro e w' ⟨rfl, ⟨nd, rfl⟩⟩) | (go_at_call 48; (with_reducible refine (integers_check_want.calls a0 false 2 r _ A1.out).mono ?_); rintro e w' ⟨rfl, ⟨nd, rfl⟩⟩))
   go_ret
   exact ⟨by first | rfl | (simp; done) | (simp [*]; done), Drawn0.below (by repeat (first | exact Drawn0.refl _ | apply Drawn0.step))⟩
 ·replace h1 := Bool.eq_false_iff.mpr h1
  have e : integers_check_field.has a1 a2 = false := by simp [integers_check_field.has, h1]
  have H : integers_check_want.f a0 false 2 = some r := by rw [← e]; exact H0.out
  have A1 := Aside0.mk H;clear H e H0
  go_enter Try.func67, Try.ntmps67
  go_wp2_with (first | (go_at_call 81; (with_reducible refine (integers_check_field.inside _ _).mono ?_); rintro e w' ⟨rfl, ⟨nd, rfl⟩⟩) | (go_at_call 48; (with_reducible refine (integers_check_want.calls a0 false 2 r _ A1.out).mono ?_); rintro e w' ⟨rfl, ⟨nd, rfl⟩⟩))
  go_ret
  exact ⟨by first | rfl | (simp; done) | (simp [*]; done), Drawn0.below (by repeat (first | exact Drawn0.refl _ | apply Drawn0.step))⟩


/-! ### integers_field: function 68 -/
def integers_field.f (a0 : Int) (a1 : Int) : Option (Int) := if 0 ≤ a1 then (if 0 ≤ a0 then (some ((shl .u64 (IntKind.u64.wrap ((shl .u64 1 a1) - 1)) a0) % 4294967296)) else (none)) else (none)
set_option maxHeartbeats 8000000 in
set_option maxRecDepth 100000 in
theorem integers_field.calls (a0 : Int) (a1 : Int) (r : Int) (w : World) (h : integers_field.f a0 a1 = some r) :
  Calls Try.prog 68 #[.int .i64 a0, .int .i64 a1] w fun e w' => e = .returned (.int .u32 r) ∧ Drawn0 w w' := by
 have H : (if 0 ≤ a1 then (if 0 ≤ a0 then (some ((shl .u64 (IntKind.u64.wrap ((shl .u64 1 a1) - 1)) a0) % 4294967296)) else (none)) else (none)) = some r := h
 clear h
 by_cases c3 : 0 ≤ a1
 ·rw [if_pos c3] at H
  have c3b0 := eq_true c3
  have c3b1 : decide (0 ≤ a1) = true := decide_eq_true c3
  clear c3
  obtain ⟨ji4, hji4⟩ : ∃ j_ : Int, (shl .u64 1 a1) = j_ := ⟨_, rfl⟩
  replace H : (if 0 ≤ a0 then (some ((shl .u64 (IntKind.u64.wrap ((ji4) - 1)) a0) % 4294967296)) else (none)) = some r := by first | (rw [hji4] at H; exact H) | (simp only [hji4] at H ⊢; exact H)
  have hji4_ : (IntKind.u64.wrap (1 * 2 ^ min a1.toNat 64)) = ji4 := hji4
  have hji4z : a1 ≤ 64 → (IntKind.u64.wrap (1 * 2 ^ a1.toNat)) = ji4 := shl_small hji4
  have hji4u : (IntKind.u64.wrap (2 ^ min a1.toNat 64)) = ji4 := by have h_ := hji4_; rw [Int.one_mul] at h_; exact h_
  have hji4v : a1 ≤ 64 → (IntKind.u64.wrap (2 ^ a1.toNat)) = ji4 := fun hle_ => by have h_ := hji4z hle_; rw [Int.one_mul] at h_; exact h_
  by_cases c5 : 0 ≤ a0
  ·rw [if_pos c5] at H
   have c5b0 := eq_true c5
   have c5b1 : decide (0 ≤ a0) = true := decide_eq_true c5
   clear c5
   obtain ⟨ji6, hji6⟩ : ∃ j_ : Int, (shl .u64 (IntKind.u64.wrap ((ji4) - 1)) a0) = j_ := ⟨_, rfl⟩
   replace H : (some ((ji6) % 4294967296)) = some r := by first | (rw [hji6] at H; exact H) | (simp only [hji6] at H ⊢; exact H)
   have hji6_ : (IntKind.u64.wrap ((IntKind.u64.wrap ((ji4) - 1)) * 2 ^ min a0.toNat 64)) = ji6 := hji6
   have hji6z : a0 ≤ 64 → (IntKind.u64.wrap ((IntKind.u64.wrap ((ji4) - 1)) * 2 ^ a0.toNat)) = ji6 := shl_small hji6
   as_aux_lemma =>
    obtain rfl := Option.some.inj H
    go_enter Try.func68, Try.ntmps68
    go_wp2
    go_ret
    exact ⟨by first | rfl | (simp; done) | (simp only [← hji4, ← hji6] <;> (first | rfl | simp)) | (simp [*]; done), by repeat (first | exact Drawn0.refl _ | apply Drawn0.step)⟩
  ·rw [if_neg c5] at H
   exact absurd H (by simp)
 ·rw [if_neg c3] at H
  exact absurd H (by simp)

/-! ### integers_FieldOf: function 29 -/
def integers_FieldOf.f (k : Nat) (a0 : Int) (a1 : Int) (a2 : Int) : Option (Int × Int) := (integers_check_integers.f k 0 (([a0] : List Int))).bind fun t256 => ((integers_check_field.f t256 a1 a2).bind fun t257 => (if t257 = 0 then ((integers_pattern.f a0).bind fun t258 => ((integers_field.f a1 a2).bind fun t259 => (if 0 ≤ a1 then ((integers_signed.f ((shr .u64 (IntKind.u64.wrap (Go.bits .and .u32 t258 t259)) a1) % 4294967296)).bind fun t260 => (some (t260, 0))) else (none)))) else ((integers_check_err.f t257).bind fun t261 => (some (0, t261)))))
theorem integers_FieldOf.mono : ∀ a0 a1 a2 k, LeO (integers_FieldOf.f k a0 a1 a2) (integers_FieldOf.f (k + 1) a0 a1 a2) := by
 intro a0 a1 a2 k
 unfold integers_FieldOf.f
 repeat' first
   | (with_reducible exact integers_check_integers.mono _ _ _)
   | (with_reducible exact LeO.refl _)
   | (with_reducible exact LeO.none _)
   | (with_reducible refine LeO.ite ?_ ?_)
   | (with_reducible refine LeO.bind ?_ (fun _ => ?_))
   | exact integers_check_integers.mono _ _ _
   | exact LeO.none _
   | refine LeO.ite ?_ ?_
   | refine LeO.bind ?_ (fun _ => ?_)
set_option maxHeartbeats 8000000 in
set_option maxRecDepth 100000 in
theorem integers_FieldOf.calls (k : Nat) (a0 : Int) (a1 : Int) (a2 : Int) (r1 : Int) (r2 : Int) (w : World) (h : integers_FieldOf.f k a0 a1 a2 = some (r1, r2)) :
  Calls Try.prog 29 #[.int .i64 a0, .int .i64 a1, .int .i64 a2] w fun e w' => e = .returned (.tuple #[.int .i64 r1, .int .i64 r2]) ∧ Below w.heap.size w w' := by
 have HB := Aside0.mk (Below.refl w.heap.size w)
 have H : ((integers_check_integers.f k 0 (([a0] : List Int))).bind fun t256 => ((integers_check_field.f t256 a1 a2).bind fun t257 => (if t257 = 0 then ((integers_pattern.f a0).bind fun t258 => ((integers_field.f a1 a2).bind fun t259 => (if 0 ≤ a1 then ((integers_signed.f ((shr .u64 (IntKind.u64.wrap (Go.bits .and .u32 t258 t259)) a1) % 4294967296)).bind fun t260 => (some (t260, 0))) else (none)))) else ((integers_check_err.f t257).bind fun t261 => (some (0, t261)))))) = some (r1, r2) := h
 clear h
 obtain ⟨y253, hy253⟩ : ∃ y_ : List Int, y_ = (([a0] : List Int)) := ⟨_, rfl⟩
 replace H : ((integers_check_integers.f k 0 y253).bind fun t256 => ((integers_check_field.f t256 a1 a2).bind fun t257 => (if t257 = 0 then ((integers_pattern.f a0).bind fun t258 => ((integers_field.f a1 a2).bind fun t259 => (if 0 ≤ a1 then ((integers_signed.f ((shr .u64 (IntKind.u64.wrap (Go.bits .and .u32 t258 t259)) a1) % 4294967296)).bind fun t260 => (some (t260, 0))) else (none)))) else ((integers_check_err.f t257).bind fun t261 => (some (0, t261)))))) = some (r1, r2) := by first | (rw [hy253]; with_reducible exact H) | (have H2_ := (Option.bind_some _ _).symm.trans H; rw [hy253]; with_reducible exact H2_) | (have H2_ := (Option.bind_some _ _).symm.trans H; with_reducible exact H2_) | with_reducible exact H | (rw [hy253]; exact H) | exact H
 have Ny253 := Aside0.mk hy253;clear hy253;replace H := Option.bind_eq_some_iff.mp H;obtain ⟨t256, A40, H⟩ := H
 try dsimp only at H
 have A4 := Aside0.mk A40;clear A40;replace H := Option.bind_eq_some_iff.mp H;obtain ⟨t257, A50, H⟩ := H
 try dsimp only at H
 have A5 := Aside0.mk A50;clear A50
 by_cases c6 : t257 = 0
 ·rw [if_pos c6] at H
  have c6b0 : (t257 == 0) = true := beq_iff_eq.mpr c6
  have c6b1 : (t257 != 0) = false := bne_eq_false_iff_eq.mpr c6
  clear c6;replace H := Option.bind_eq_some_iff.mp H;obtain ⟨t258, A70, H⟩ := H
  try dsimp only at H
  have A7 := Aside0.mk A70;clear A70;replace H := Option.bind_eq_some_iff.mp H;obtain ⟨t259, A80, H⟩ := H
  try dsimp only at H
  have A8 := Aside0.mk A80;clear A80
  by_cases c9 : 0 ≤ a1
  ·rw [if_pos c9] at H
   have c9b0 := eq_true c9
   have c9b1 : decide (0 ≤ a1) = true := decide_eq_true c9
   clear c9
   obtain ⟨ji10, hji10⟩ : ∃ j_ : Int, (shr .u64 (IntKind.u64.wrap (Go.bits .and .u32 t258 t259)) a1) = j_ := ⟨_, rfl⟩
   replace H : ((integers_signed.f ((ji10) % 4294967296)).bind fun t260 => (some (t260, 0))) = some (r1, r2) := by first | (rw [hji10] at H; exact H) | (simp only [hji10] at H ⊢; exact H)
   (try rw [hji10] at A4)
   (try rw [hji10] at A5)
   (try rw [hji10] at A7)
   (try rw [hji10] at A8)
   have hji10_ : ((IntKind.u64.wrap (Go.bits .and .u32 t258 t259)) / 2 ^ min a1.toNat 64) = ji10 := hji10
   have hji10z : a1 ≤ 64 → ((IntKind.u64.wrap (Go.bits .and .u32 t258 t259)) / 2 ^ a1.toNat) = ji10 := shr_small hji10
   replace H := Option.bind_eq_some_iff.mp H;obtain ⟨t260, A110, H⟩ := H
   try dsimp only at H
   have A11 := Aside0.mk A110;clear A110
   as_aux_lemma =>
    simp only [Option.some.injEq, Prod.mk.injEq] at H;obtain ⟨rfl, rfl⟩ := H
    go_enter Try.func29, Try.ntmps29
    go_wp2_with (first | ((with_reducible refine gate_dst (N := 10) rfl ?_); refine Kd.R_lit (Kd.int .i64) _ 3 ?hg (N := 10) ?hd (xs := ([a0] : List Int)) (inner := [.int .i64 a0]) (ok := fun _ => True) (okp := fun _ => True) ?hr ?hp (fun _ hk => hk) trivial (Below.refl _ _) (Nat.le_refl _) (by simp) ?_; (case hd => rfl); (case hg => rfl); (case hr => first | (go_simp; done) | (go_simp; rfl)); (case hp => exact (Reps.one (show Kd.M (Kd.int .i64) _ _ _ a0 [.int .i64 a0] from rfl) (Reps.none _ _))); intro v254 w12 ho13 hb hg_ hnew_; clear hg_ hnew_; (first | rw [← Ny253.out] at ho13 | (simp only [Int.reduceToNat] at ho13; rw [← Ny253.out] at ho13)); have n0_ := Aside0.mk (Kd.R_lower ho13 (below_size (bw HB.out))); have n1_ := Aside0.mk (below_step (bw HB.out) hb); clear HB; have HO255 := n0_; have HB := n1_; clear n0_ n1_; clear hb ho13; obtain ⟨Ao14, co14, eo14⟩ := Kd.R_slice HO255.out; subst eo14) | ((with_reducible refine gate_callee (f := 47) rfl ?_); refine goesL_ (some 11) rfl rfl Try.func47 (by kernel_rfl) rfl #[.int .i64 0, .slice Ao14 y253.length co14] rfl (by (try simp only [List.map_toArray, List.map_cons, List.map_nil]); first | done | rfl) ?_; (with_reducible refine (integers_check_integers.calls k 0 _ _ y253 t256 _ ?side1 ?side2 A4.out).mono ?_); (case side1 => repeat (first | exact (Kd.R_reads' HO255.out).2.2 | (with_reducible refine Kd.C_alloc ?_ _) | (with_reducible refine Kd.C_drewN ?_ _) | (with_reducible refine Kd.C_drew ?_))); (case side2 => exact (Kd.R_reads' HO255.out).2.1); rintro e w' ⟨rfl, ⟨nd, rfl⟩⟩; refine ⟨_, rfl, ?_⟩) | ((with_reducible refine gate_callee (f := 67) rfl ?_); refine goesL_ (some 14) rfl rfl Try.func67 (by kernel_rfl) rfl #[.int .i64 t256, .int .i64 a1, .int .i64 a2] rfl (by (try simp only [List.map_toArray, List.map_cons, List.map_nil]); first | done | rfl) ?_; (with_reducible refine (integers_check_field.calls t256 a1 a2 t257 _ A5.out).mono ?_); rintro e w15 ⟨rfl, hb⟩; refine ⟨_, rfl, ?_⟩; have n0_ := Aside0.mk (Kd.R_below (by (with_reducible repeat (first | apply Kd.R_alloc | apply Kd.R_drewN | apply Kd.R_drew)); exact HO255.out) hb); have n1_ := Aside0.mk (below_step (bw HB.out) hb); clear HO255; clear HB; have HO255 := n0_; have HB := n1_; clear n0_ n1_; (try clear hb); (try clear hb2); (try clear hk); (try clear hi)) | ((with_reducible refine gate_callee (f := 53) rfl ?_); refine goesL_ (some 20) rfl rfl Try.func53 (by kernel_rfl) rfl #[.int .i64 a0] rfl (by (try simp only [List.map_toArray, List.map_cons, List.map_nil]); first | done | rfl) ?_; (with_reducible refine (integers_pattern.calls a0 t258 _ A7.out).mono ?_); rintro e w' ⟨rfl, ⟨nd, rfl⟩⟩; refine ⟨_, rfl, ?_⟩) | ((with_reducible refine gate_callee (f := 68) rfl ?_); refine goesL_ (some 23) rfl rfl Try.func68 (by kernel_rfl) rfl #[.int .i64 a1, .int .i64 a2] rfl (by (try simp only [List.map_toArray, List.map_cons, List.map_nil]); first | done | rfl) ?_; (with_reducible refine (integers_field.calls a1 a2 t259 _ A8.out).mono ?_); rintro e w' ⟨rfl, ⟨nd, rfl⟩⟩; refine ⟨_, rfl, ?_⟩) | ((with_reducible refine gate_callee (f := 54) rfl ?_); refine goesL_ (some 29) rfl rfl Try.func54 (by kernel_rfl) rfl #[.int .u32 ((ji10) % 4294967296)] rfl (by (try simp only [List.map_toArray, List.map_cons, List.map_nil]); first | done | (simp only [hji10]; rfl) | rfl | (simp only [List.length_drop, List.length_take]; rfl)) ?_; (with_reducible refine (integers_signed.calls ((ji10) % 4294967296) t260 _ A11.out).mono ?_); rintro e w' ⟨rfl, ⟨nd, rfl⟩⟩; refine ⟨_, rfl, ?_⟩))
    go_ret2
    exact ⟨by first | rfl | (simp [errW_none, errW_some] <;> rfl) | (simp only [← hji10]; first | rfl | (simp [errW_none, errW_some] <;> rfl)) | (simp [*, errW_none, errW_some] <;> rfl), bw HB.out⟩
  ·rw [if_neg c9] at H
   exact absurd H (by simp)
 ·rw [if_neg c6] at H
  have c6b0 : (t257 == 0) = false := beq_eq_false_iff_ne.mpr c6
  have c6b1 : (t257 != 0) = true := bne_iff_ne.mpr c6
  replace H := Option.bind_eq_some_iff.mp H;obtain ⟨t261, A160, H⟩ := H
  try dsimp only at H
  have A16 := Aside0.mk A160;clear A160
  as_aux_lemma =>
   simp only [Option.some.injEq, Prod.mk.injEq] at H;obtain ⟨rfl, rfl⟩ := H
   go_enter Try.func29, Try.ntmps29
   go_wp2_with (first | ((with_reducible refine gate_dst (N := 10) rfl ?_); refine Kd.R_lit (Kd.int .i64) _ 3 ?hg (N := 10) ?hd (xs := ([a0] : List Int)) (inner := [.int .i64 a0]) (ok := fun _ => True) (okp := fun _ => True) ?hr ?hp (fun _ hk => hk) trivial (Below.refl _ _) (Nat.le_refl _) (by simp) ?_; (case hd => rfl); (case hg => rfl); (case hr => first | (go_simp; done) | (go_simp; rfl)); (case hp => exact (Reps.one (show Kd.M (Kd.int .i64) _ _ _ a0 [.int .i64 a0] from rfl) (Reps.none _ _))); intro v254 w17 ho18 hb hg_ hnew_; clear hg_ hnew_; (first | rw [← Ny253.out] at ho18 | (simp only [Int.reduceToNat] at ho18; rw [← Ny253.out] at ho18)); have n0_ := Aside0.mk (Kd.R_lower ho18 (below_size (bw HB.out))); have n1_ := Aside0.mk (below_step (bw HB.out) hb); clear HB; have HO255 := n0_; have HB := n1_; clear n0_ n1_; clear hb ho18; obtain ⟨Ao19, co19, eo19⟩ := Kd.R_slice HO255.out; subst eo19) | ((with_reducible refine gate_callee (f := 47) rfl ?_); refine goesL_ (some 11) rfl rfl Try.func47 (by kernel_rfl) rfl #[.int .i64 0, .slice Ao19 y253.length co19] rfl (by (try simp only [List.map_toArray, List.map_cons, List.map_nil]); first | done | rfl) ?_; (with_reducible refine (integers_check_integers.calls k 0 _ _ y253 t256 _ ?side1 ?side2 A4.out).mono ?_); (case side1 => repeat (first | exact (Kd.R_reads' HO255.out).2.2 | (with_reducible refine Kd.C_alloc ?_ _) | (with_reducible refine Kd.C_drewN ?_ _) | (with_reducible refine Kd.C_drew ?_))); (case side2 => exact (Kd.R_reads' HO255.out).2.1); rintro e w' ⟨rfl, ⟨nd, rfl⟩⟩; refine ⟨_, rfl, ?_⟩) | ((with_reducible refine gate_callee (f := 67) rfl ?_); refine goesL_ (some 14) rfl rfl Try.func67 (by kernel_rfl) rfl #[.int .i64 t256, .int .i64 a1, .int .i64 a2] rfl (by (try simp only [List.map_toArray, List.map_cons, List.map_nil]); first | done | rfl) ?_; (with_reducible refine (integers_check_field.calls t256 a1 a2 t257 _ A5.out).mono ?_); rintro e w20 ⟨rfl, hb⟩; refine ⟨_, rfl, ?_⟩; have n0_ := Aside0.mk (Kd.R_below (by (with_reducible repeat (first | apply Kd.R_alloc | apply Kd.R_drewN | apply Kd.R_drew)); exact HO255.out) hb); have n1_ := Aside0.mk (below_step (bw HB.out) hb); clear HO255; clear HB; have HO255 := n0_; have HB := n1_; clear n0_ n1_; (try clear hb); (try clear hb2); (try clear hk); (try clear hi)) | ((with_reducible refine gate_callee (f := 49) rfl ?_); refine goesL_ (some 18) rfl rfl Try.func49 (by kernel_rfl) rfl #[.int .i64 t257] rfl (by (try simp only [List.map_toArray, List.map_cons, List.map_nil]); first | done | rfl) ?_; (with_reducible refine (integers_check_err.calls t257 t261 _ A16.out).mono ?_); rintro e w' ⟨rfl, ⟨nd, rfl⟩⟩; refine ⟨_, rfl, ?_⟩))
   go_ret2
   exact ⟨by first | rfl | (simp [*] <;> rfl), bw HB.out⟩

/-! ### formularylaw07_awake: function 12 -/
def formularylaw07_awake.f (k : Nat)  : Option (Bool) := (integers_Divided.f k (-7) 2).bind fun bt262 => ((integers_Wrapped.f k 2 46341 46341).bind fun bt266 => ((integers_PowerOf.f k 3 19).bind fun bt268 => ((integers_BitOp.f k 3 (-1) (-28)).bind fun bt270 => ((integers_FieldOf.f k 1000 3 5).bind fun bt272 => ((integers_RangeOf.f k 2 (-3) 2 4 5).bind fun bt274 => ((integers_Apply.f k 0 2147483647 1).bind fun bt278 => (if bt262.2.2 = 0 then (if (bt262.1 == (-3) && (bt262.2.1 == (-1))) = true then (if bt266.2 = 0 then (if bt266.1 = (-2147479015) then (if bt268.2 = 0 then (if bt268.1 = 1162261467 then (if bt270.2 = 0 then (if bt270.1 = 15 then (if bt272.2 = 0 then (if bt272.1 = 29 then (if bt274.2.2 = 0 then (if (bt274.1 == (-15) && (bt274.2.1 == 10)) = true then (some (bt278.2 == 28)) else (none)) else (none)) else (none)) else (none)) else (none)) else (none)) else (none)) else (none)) else (none)) else (none)) else (none)) else (none))))))))
theorem formularylaw07_awake.mono : ∀ k, LeO (formularylaw07_awake.f k ) (formularylaw07_awake.f (k + 1) ) := by
 intro  k
 unfold formularylaw07_awake.f
 repeat' first
   | (with_reducible exact integers_Apply.mono _ _ _ _)
   | (with_reducible exact integers_BitOp.mono _ _ _ _)
   | (with_reducible exact integers_Divided.mono _ _ _)
   | (with_reducible exact integers_FieldOf.mono _ _ _ _)
   | (with_reducible exact integers_PowerOf.mono _ _ _)
   | (with_reducible exact integers_RangeOf.mono _ _ _ _ _ _)
   | (with_reducible exact integers_Wrapped.mono _ _ _ _)
   | (with_reducible exact LeO.refl _)
   | (with_reducible exact LeO.none _)
   | (with_reducible refine LeO.ite ?_ ?_)
   | (with_reducible refine LeO.bind ?_ (fun _ => ?_))
   | exact integers_Apply.mono _ _ _ _
   | exact integers_BitOp.mono _ _ _ _
   | exact integers_Divided.mono _ _ _
   | exact integers_FieldOf.mono _ _ _ _
   | exact integers_PowerOf.mono _ _ _
   | exact integers_RangeOf.mono _ _ _ _ _ _
   | exact integers_Wrapped.mono _ _ _ _
   | exact LeO.none _
   | refine LeO.ite ?_ ?_
   | refine LeO.bind ?_ (fun _ => ?_)
set_option maxHeartbeats 8000000 in
set_option maxRecDepth 100000 in
theorem formularylaw07_awake.calls (k : Nat)  (r : Bool) (w : World) (h : formularylaw07_awake.f k  = some r) :
  Calls Try.prog 12 #[] w fun e w' => e = .returned (.bool r) ∧ Below w.heap.size w w' := by
 have hu43 := Try.underlying43;have hu35 := Try.underlying35;have HB := Aside0.mk (Below.refl w.heap.size w)
 have H : ((integers_Divided.f k (-7) 2).bind fun bt262 => ((integers_Wrapped.f k 2 46341 46341).bind fun bt266 => ((integers_PowerOf.f k 3 19).bind fun bt268 => ((integers_BitOp.f k 3 (-1) (-28)).bind fun bt270 => ((integers_FieldOf.f k 1000 3 5).bind fun bt272 => ((integers_RangeOf.f k 2 (-3) 2 4 5).bind fun bt274 => ((integers_Apply.f k 0 2147483647 1).bind fun bt278 => (if bt262.2.2 = 0 then (if (bt262.1 == (-3) && (bt262.2.1 == (-1))) = true then (if bt266.2 = 0 then (if bt266.1 = (-2147479015) then (if bt268.2 = 0 then (if bt268.1 = 1162261467 then (if bt270.2 = 0 then (if bt270.1 = 15 then (if bt272.2 = 0 then (if bt272.1 = 29 then (if bt274.2.2 = 0 then (if (bt274.1 == (-15) && (bt274.2.1 == 10)) = true then (some (bt278.2 == 28)) else (none)) else (none)) else (none)) else (none)) else (none)) else (none)) else (none)) else (none)) else (none)) else (none)) else (none)) else (none))))))))) = some r := h
 clear h;replace H := Option.bind_eq_some_iff.mp H;obtain ⟨⟨t262, t263, t264⟩, A10, H⟩ := H
 try dsimp only at H
 have A1 := Aside0.mk A10;clear A10;replace H := Option.bind_eq_some_iff.mp H;obtain ⟨⟨t266, t267⟩, A20, H⟩ := H
 try dsimp only at H
 have A2 := Aside0.mk A20;clear A20;replace H := Option.bind_eq_some_iff.mp H;obtain ⟨⟨t268, t269⟩, A30, H⟩ := H
 try dsimp only at H
 have A3 := Aside0.mk A30;clear A30;replace H := Option.bind_eq_some_iff.mp H;obtain ⟨⟨t270, t271⟩, A40, H⟩ := H
 try dsimp only at H
 have A4 := Aside0.mk A40;clear A40;replace H := Option.bind_eq_some_iff.mp H;obtain ⟨⟨t272, t273⟩, A50, H⟩ := H
 try dsimp only at H
 have A5 := Aside0.mk A50;clear A50;replace H := Option.bind_eq_some_iff.mp H;obtain ⟨⟨t274, t275, t276⟩, A60, H⟩ := H
 try dsimp only at H
 have A6 := Aside0.mk A60;clear A60;replace H := Option.bind_eq_some_iff.mp H;obtain ⟨⟨t278, t279⟩, A70, H⟩ := H
 try dsimp only at H
 have A7 := Aside0.mk A70;clear A70
 by_cases c8 : t264 = 0
 ·rw [if_pos c8] at H
  have c8b0 : (t264 == 0) = true := beq_iff_eq.mpr c8
  have c8b1 : (t264 != 0) = false := bne_eq_false_iff_eq.mpr c8
  clear c8
  by_cases c9 : (t262 == (-3) && (t263 == (-1))) = true
  ·rw [if_pos c9] at H
   have c9b0 : (t262 == (-3) && (t263 == (-1))) = true := c9
   (try (have c9b1 : decide (t262 = (-3) && (t263 == (-1))) = true := by simpa using c9))
   (try (have c9b2 : (t262 == (-3) && (t263 == (-1))) = true := by simpa using c9))
   clear c9
   by_cases c10 : t267 = 0
   ·rw [if_pos c10] at H
    have c10b0 : (t267 == 0) = true := beq_iff_eq.mpr c10
    have c10b1 : (t267 != 0) = false := bne_eq_false_iff_eq.mpr c10
    clear c10
    by_cases c11 : t266 = (-2147479015)
    ·rw [if_pos c11] at H
     have c11b0 : (t266 == (-2147479015)) = true := beq_iff_eq.mpr c11
     have c11b1 : (t266 != (-2147479015)) = false := bne_eq_false_iff_eq.mpr c11
     clear c11
     by_cases c12 : t269 = 0
     ·rw [if_pos c12] at H
      have c12b0 : (t269 == 0) = true := beq_iff_eq.mpr c12
      have c12b1 : (t269 != 0) = false := bne_eq_false_iff_eq.mpr c12
      clear c12
      by_cases c13 : t268 = 1162261467
      ·rw [if_pos c13] at H
       have c13b0 : (t268 == 1162261467) = true := beq_iff_eq.mpr c13
       have c13b1 : (t268 != 1162261467) = false := bne_eq_false_iff_eq.mpr c13
       clear c13
       by_cases c14 : t271 = 0
       ·rw [if_pos c14] at H
        have c14b0 : (t271 == 0) = true := beq_iff_eq.mpr c14
        have c14b1 : (t271 != 0) = false := bne_eq_false_iff_eq.mpr c14
        clear c14
        by_cases c15 : t270 = 15
        ·rw [if_pos c15] at H
         have c15b0 : (t270 == 15) = true := beq_iff_eq.mpr c15
         have c15b1 : (t270 != 15) = false := bne_eq_false_iff_eq.mpr c15
         clear c15
         by_cases c16 : t273 = 0
         ·rw [if_pos c16] at H
          have c16b0 : (t273 == 0) = true := beq_iff_eq.mpr c16
          have c16b1 : (t273 != 0) = false := bne_eq_false_iff_eq.mpr c16
          clear c16
          by_cases c17 : t272 = 29
          ·rw [if_pos c17] at H
           have c17b0 : (t272 == 29) = true := beq_iff_eq.mpr c17
           have c17b1 : (t272 != 29) = false := bne_eq_false_iff_eq.mpr c17
           clear c17
           by_cases c18 : t276 = 0
           ·rw [if_pos c18] at H
            have c18b0 : (t276 == 0) = true := beq_iff_eq.mpr c18
            have c18b1 : (t276 != 0) = false := bne_eq_false_iff_eq.mpr c18
            clear c18
            by_cases c19 : (t274 == (-15) && (t275 == 10)) = true
            ·rw [if_pos c19] at H
             have c19b0 : (t274 == (-15) && (t275 == 10)) = true := c19
             (try (have c19b1 : decide (t274 = (-15) && (t275 == 10)) = true := by simpa using c19))
             (try (have c19b2 : (t274 == (-15) && (t275 == 10)) = true := by simpa using c19))
             clear c19
             as_aux_lemma =>
              obtain rfl := Option.some.inj H
              go_enter Try.func12, Try.ntmps12
              go_wp2_with (first | ((with_reducible refine gate_callee (f := 26) rfl ?_); refine goesL_ (some 16) rfl rfl Try.func26 (by kernel_rfl) rfl #[.int .i64 (-7), .int .i64 2] rfl (by (try simp only [List.map_toArray, List.map_cons, List.map_nil]); first | done | rfl) ?_; (with_reducible refine (integers_Divided.calls k (-7) 2 t262 t263 t264 _ A1.out).mono ?_); rintro e w20 ⟨rfl, hb⟩; refine ⟨_, rfl, ?_⟩; have n0_ := Aside0.mk (below_step (bw HB.out) hb); clear HB; have HB := n0_; clear n0_; (try clear hb); (try clear hb2); (try clear hk); (try clear hi)) | ((with_reducible refine gate_dst (N := 1) rfl ?_); refine box_event ?hg (N := 1) ?hd (cs := #[.int .i64 0, .int .i64 0]) (t := 43) ?hr ?_; (case hd => rfl); (case hg => rfl); (case hr => first | (go_simp; done) | (go_simp; rfl)); intro gb265 hg w21 hbox hb; have n0_ := Aside0.mk (below_step (bw HB.out) hb); have n1_ := Aside0.mk (hbox); have n2_ := Aside0.mk ((by rw [hg]; exact (below_size (bw HB.out)) : w.heap.size ≤ gb265)); have n3_ := Aside0.mk ((by rw [hg]; exact (below_size (bw HB.out)) : w.heap.size ≤ gb265)); clear HB; have HB := n0_; have BK265 := n1_; have GW265 := n2_; have GE265 := n3_; clear n0_ n1_ n2_ n3_; clear hb hbox hg; have hcz22_0 : w21.cell? ⟨gb265, 0, none⟩ = some (.int .i64 0) := (blk_cell BK265.out 0).trans rfl; have hcz22_1 : w21.cell? ⟨gb265, 1, none⟩ = some (.int .i64 0) := (blk_cell BK265.out 1).trans rfl; have hfz22_0 := blk_frozen BK265.out 0; have hfz22_1 := blk_frozen BK265.out 1) | ((with_reducible refine gate_callee (f := 14) rfl ?_); refine goesL_ (some 20) rfl rfl Try.func14 (by kernel_rfl) rfl #[.int .i64 2, .int .i64 46341, .int .i64 46341] rfl (by (try simp only [List.map_toArray, List.map_cons, List.map_nil]); first | done | rfl) ?_; (with_reducible refine (integers_Wrapped.calls k 2 46341 46341 t266 t267 _ A2.out).mono ?_); rintro e w23 ⟨rfl, hb⟩; refine ⟨_, rfl, ?_⟩; have n0_ := Aside0.mk (blk_below (g := gb265) (o := .cells #[.int .i64 t262, .int .i64 t263] 43 (0, 0)) (by refine bk (blk_put (cs := #[.int .i64 t262, .int .i64 0]) ?_ 1 _ rfl); refine bk (blk_put (cs := #[.int .i64 0, .int .i64 0]) ?_ 0 _ rfl); exact bk BK265.out) hb); have n1_ := Aside0.mk (below_step (by repeat (first | (with_reducible first | exact HB.out | apply below_alloc | apply pw_below_drewN | apply below_drew1 | refine below_set ?_ GE265.out) | exact HB.out)) hb); clear BK265; clear HB; have BK265 := n0_; have HB := n1_; clear n0_ n1_; (try clear hb); (try clear hb2); (try clear hk); (try clear hi)) | ((with_reducible refine gate_callee (f := 17) rfl ?_); refine goesL_ (some 24) rfl rfl Try.func17 (by kernel_rfl) rfl #[.int .i64 3, .int .i64 19] rfl (by (try simp only [List.map_toArray, List.map_cons, List.map_nil]); first | done | rfl) ?_; (with_reducible refine (integers_PowerOf.calls k 3 19 t268 t269 _ A3.out).mono ?_); rintro e w24 ⟨rfl, hb⟩; refine ⟨_, rfl, ?_⟩; have n0_ := Aside0.mk (blk_below (g := gb265) (o := .cells #[.int .i64 t262, .int .i64 t263] 43 (0, 0)) (bk BK265.out) hb); have n1_ := Aside0.mk (below_step (by repeat (first | (with_reducible first | exact HB.out | apply below_alloc | apply pw_below_drewN | apply below_drew1 | refine below_set ?_ GE265.out) | exact HB.out)) hb); clear BK265; clear HB; have BK265 := n0_; have HB := n1_; clear n0_ n1_; (try clear hb); (try clear hb2); (try clear hk); (try clear hi)) | ((with_reducible refine gate_callee (f := 20) rfl ?_); refine goesL_ (some 28) rfl rfl Try.func20 (by kernel_rfl) rfl #[.int .i64 3, .int .i64 (-1), .int .i64 (-28)] rfl (by (try simp only [List.map_toArray, List.map_cons, List.map_nil]); first | done | rfl) ?_; (with_reducible refine (integers_BitOp.calls k 3 (-1) (-28) t270 t271 _ A4.out).mono ?_); rintro e w25 ⟨rfl, hb⟩; refine ⟨_, rfl, ?_⟩; have n0_ := Aside0.mk (blk_below (g := gb265) (o := .cells #[.int .i64 t262, .int .i64 t263] 43 (0, 0)) (bk BK265.out) hb); have n1_ := Aside0.mk (below_step (by repeat (first | (with_reducible first | exact HB.out | apply below_alloc | apply pw_below_drewN | apply below_drew1 | refine below_set ?_ GE265.out) | exact HB.out)) hb); clear BK265; clear HB; have BK265 := n0_; have HB := n1_; clear n0_ n1_; (try clear hb); (try clear hb2); (try clear hk); (try clear hi)) | ((with_reducible refine gate_callee (f := 29) rfl ?_); refine goesL_ (some 32) rfl rfl Try.func29 (by kernel_rfl) rfl #[.int .i64 1000, .int .i64 3, .int .i64 5] rfl (by (try simp only [List.map_toArray, List.map_cons, List.map_nil]); first | done | rfl) ?_; (with_reducible refine (integers_FieldOf.calls k 1000 3 5 t272 t273 _ A5.out).mono ?_); rintro e w26 ⟨rfl, hb⟩; refine ⟨_, rfl, ?_⟩; have n0_ := Aside0.mk (blk_below (g := gb265) (o := .cells #[.int .i64 t262, .int .i64 t263] 43 (0, 0)) (bk BK265.out) hb); have n1_ := Aside0.mk (below_step (by repeat (first | (with_reducible first | exact HB.out | apply below_alloc | apply pw_below_drewN | apply below_drew1 | refine below_set ?_ GE265.out) | exact HB.out)) hb); clear BK265; clear HB; have BK265 := n0_; have HB := n1_; clear n0_ n1_; (try clear hb); (try clear hb2); (try clear hk); (try clear hi)) | ((with_reducible refine gate_callee (f := 22) rfl ?_); refine goesL_ (some 38) rfl rfl Try.func22 (by kernel_rfl) rfl #[.int .i64 2, .agg #[.int .i64 (-3), .int .i64 2], .agg #[.int .i64 4, .int .i64 5]] rfl (by (try simp only [List.map_toArray, List.map_cons, List.map_nil]); first | done | rfl) ?_; (with_reducible refine (integers_RangeOf.calls k 2 (-3) 2 4 5 t274 t275 t276 _ A6.out).mono ?_); rintro e w27 ⟨rfl, hb⟩; refine ⟨_, rfl, ?_⟩; have n0_ := Aside0.mk (blk_below (g := gb265) (o := .cells #[.int .i64 t262, .int .i64 t263] 43 (0, 0)) (bk BK265.out) hb); have n1_ := Aside0.mk (below_step (by repeat (first | (with_reducible first | exact HB.out | apply below_alloc | apply pw_below_drewN | apply below_drew1 | refine below_set ?_ GE265.out) | exact HB.out)) hb); clear BK265; clear HB; have BK265 := n0_; have HB := n1_; clear n0_ n1_; (try clear hb); (try clear hb2); (try clear hk); (try clear hi)) | ((with_reducible refine gate_dst (N := 11) rfl ?_); refine box_event ?hg (N := 11) ?hd (cs := #[.int .i64 0, .int .i64 0]) (t := 35) ?hr ?_; (case hd => rfl); (case hg => rfl); (case hr => first | (go_simp; done) | (go_simp; rfl)); intro gb277 hg w28 hbox hb; have n0_ := Aside0.mk (blk_below (g := gb265) (o := .cells #[.int .i64 t262, .int .i64 t263] 43 (0, 0)) (bk BK265.out) hb); have n1_ := Aside0.mk (below_step (by repeat (first | (with_reducible first | exact HB.out | apply below_alloc | apply pw_below_drewN | apply below_drew1 | refine below_set ?_ GE265.out) | exact HB.out)) hb); have n2_ := Aside0.mk (hbox); have n3_ := Aside0.mk ((by rw [hg]; exact (below_size (by repeat (first | (with_reducible first | exact HB.out | apply below_alloc | apply pw_below_drewN | apply below_drew1 | refine below_set ?_ GE265.out) | exact HB.out))) : w.heap.size ≤ gb277)); have n4_ := Aside0.mk ((by rw [hg]; exact (below_size (by repeat (first | (with_reducible first | exact HB.out | apply below_alloc | apply pw_below_drewN | apply below_drew1 | refine below_set ?_ GE265.out) | exact HB.out))) : w.heap.size ≤ gb277)); have n5_ := Aside0.mk ((by rw [hg]; exact Nat.ne_of_lt (blk_lt (g := gb265) (o := .cells #[.int .i64 t262, .int .i64 t263] 43 (0, 0)) (bk BK265.out)) : gb265 ≠ gb277)); have n6_ := Aside0.mk ((by rw [hg]; exact Nat.ne_of_gt (blk_lt (g := gb265) (o := .cells #[.int .i64 t262, .int .i64 t263] 43 (0, 0)) (bk BK265.out)) : gb277 ≠ gb265)); clear BK265; clear HB; have BK265 := n0_; have HB := n1_; have BK277 := n2_; have GW277 := n3_; have GE277 := n4_; have NB265_277 := n5_; have NB277_265 := n6_; clear n0_ n1_ n2_ n3_ n4_ n5_ n6_; clear hb hbox hg; have hnb29 := NB277_265.out; have hnc29 := NB265_277.out; have hcz30_0 : w28.cell? ⟨gb277, 0, none⟩ = some (.int .i64 0) := (blk_cell BK277.out 0).trans rfl; have hcz30_1 : w28.cell? ⟨gb277, 1, none⟩ = some (.int .i64 0) := (blk_cell BK277.out 1).trans rfl; have hfz30_0 := blk_frozen BK277.out 0; have hfz30_1 := blk_frozen BK277.out 1) | ((with_reducible refine gate_callee (f := 13) rfl ?_); refine goesL_ (some 42) rfl rfl Try.func13 (by kernel_rfl) rfl #[.int .i64 0, .int .i64 2147483647, .int .i64 1] rfl (by (try simp only [List.map_toArray, List.map_cons, List.map_nil]); first | done | rfl) ?_; (with_reducible refine (integers_Apply.calls k 0 2147483647 1 t278 t279 _ A7.out).mono ?_); rintro e w31 ⟨rfl, hb⟩; refine ⟨_, rfl, ?_⟩; have n0_ := Aside0.mk (blk_below (g := gb265) (o := .cells #[.int .i64 t262, .int .i64 t263] 43 (0, 0)) (by refine bk (blk_far ?_ NB265_277.out _); refine bk (blk_far ?_ NB265_277.out _); exact bk BK265.out) hb); have n1_ := Aside0.mk (blk_below (g := gb277) (o := .cells #[.int .i64 t274, .int .i64 t275] 35 (0, 0)) (by refine bk (blk_put (cs := #[.int .i64 t274, .int .i64 0]) ?_ 1 _ rfl); refine bk (blk_put (cs := #[.int .i64 0, .int .i64 0]) ?_ 0 _ rfl); exact bk BK277.out) hb); have n2_ := Aside0.mk (below_step (by repeat (first | (with_reducible first | exact HB.out | apply below_alloc | apply pw_below_drewN | apply below_drew1 | refine below_set ?_ GE265.out | refine below_set ?_ GE277.out) | exact HB.out)) hb); clear BK265; clear BK277; clear HB; have BK265 := n0_; have BK277 := n1_; have HB := n2_; clear n0_ n1_ n2_; (try clear hb); (try clear hb2); (try clear hk); (try clear hi); have hcz32_0 : w31.cell? ⟨gb265, 0, none⟩ = some (.int .i64 t262) := (blk_cell BK265.out 0).trans rfl; have hcz32_1 : w31.cell? ⟨gb265, 1, none⟩ = some (.int .i64 t263) := (blk_cell BK265.out 1).trans rfl; have hfz32_0 := blk_frozen BK265.out 0; have hfz32_1 := blk_frozen BK265.out 1; have hcz33_0 : w31.cell? ⟨gb277, 0, none⟩ = some (.int .i64 t274) := (blk_cell BK277.out 0).trans rfl; have hcz33_1 : w31.cell? ⟨gb277, 1, none⟩ = some (.int .i64 t275) := (blk_cell BK277.out 1).trans rfl; have hfz33_0 := blk_frozen BK277.out 0; have hfz33_1 := blk_frozen BK277.out 1))
              go_ret
              exact ⟨by first | rfl | (simp [*] <;> rfl), by repeat (first | (with_reducible first | exact HB.out | apply below_alloc | apply pw_below_drewN | apply below_drew1 | refine below_set ?_ GE265.out | refine below_set ?_ GE277.out) | exact HB.out)⟩
            ·rw [if_neg c19] at H
             exact absurd H (by simp)
           ·rw [if_neg c18] at H
            exact absurd H (by simp)
          ·rw [if_neg c17] at H
           exact absurd H (by simp)
         ·rw [if_neg c16] at H
          exact absurd H (by simp)
        ·rw [if_neg c15] at H
         exact absurd H (by simp)
       ·rw [if_neg c14] at H
        exact absurd H (by simp)
      ·rw [if_neg c13] at H
       exact absurd H (by simp)
     ·rw [if_neg c12] at H
      exact absurd H (by simp)
    ·rw [if_neg c11] at H
     exact absurd H (by simp)
   ·rw [if_neg c10] at H
    exact absurd H (by simp)
  ·rw [if_neg c9] at H
   exact absurd H (by simp)
 ·rw [if_neg c8] at H
  exact absurd H (by simp)

/-! ### formularybase_Within: function 19 -/
def formularybase_Within.f (a0 : Int) (a1 : Int) (a2 : Int) : Option (Bool) := if a0 < a1 then (some (!true)) else (some (!(decide (a0 > a2))))
set_option maxHeartbeats 8000000 in
set_option maxRecDepth 100000 in
theorem formularybase_Within.calls (a0 : Int) (a1 : Int) (a2 : Int) (r : Bool) (w : World) (h : formularybase_Within.f a0 a1 a2 = some r) :
  Calls Try.prog 19 #[.int .i64 a0, .int .i64 a1, .int .i64 a2] w fun e w' => e = .returned (.bool r) ∧ Drawn0 w w' := by
 have H : (if a0 < a1 then (some (!true)) else (some (!(decide (a0 > a2))))) = some r := h
 clear h
 by_cases c4 : a0 < a1
 ·rw [if_pos c4] at H
  have c4b0 : decide (a0 < a1) = true := decide_eq_true c4
  clear c4
  as_aux_lemma =>
   obtain rfl := Option.some.inj H
   go_enter Try.func19, Try.ntmps19
   go_wp2
   go_ret
   exact ⟨by first | rfl | (simp; done) | (simp [*]; done), by repeat (first | exact Drawn0.refl _ | apply Drawn0.step)⟩
 ·rw [if_neg c4] at H
  have c4b0 : decide (a0 < a1) = false := decide_eq_false c4
  clear c4
  as_aux_lemma =>
   obtain rfl := Option.some.inj H
   go_enter Try.func19, Try.ntmps19
   go_wp2
   go_ret
   exact ⟨by first | rfl | (simp; done) | (simp [*]; done), by repeat (first | exact Drawn0.refl _ | apply Drawn0.step)⟩

/-! ### formularybase_Size: function 27 -/
def formularybase_Size.f (a0 : Int) : Option (Int) := if a0 < 0 then (some (wrap64 (-a0))) else (some a0)
set_option maxHeartbeats 8000000 in
set_option maxRecDepth 100000 in
theorem formularybase_Size.calls (a0 : Int) (r : Int) (w : World) (h : formularybase_Size.f a0 = some r) :
  Calls Try.prog 27 #[.int .i64 a0] w fun e w' => e = .returned (.int .i64 r) ∧ Drawn0 w w' := by
 have H : (if a0 < 0 then (some (wrap64 (-a0))) else (some a0)) = some r := h
 clear h
 by_cases c2 : a0 < 0
 ·rw [if_pos c2] at H
  have c2b0 : decide (a0 < 0) = true := decide_eq_true c2
  clear c2
  as_aux_lemma =>
   obtain rfl := Option.some.inj H
   go_enter Try.func27, Try.ntmps27
   go_wp2
   go_ret
   exact ⟨by first | rfl | (simp; done) | (simp [*]; done), by repeat (first | exact Drawn0.refl _ | apply Drawn0.step)⟩
 ·rw [if_neg c2] at H
  have c2b0 : decide (a0 < 0) = false := decide_eq_false c2
  clear c2
  as_aux_lemma =>
   obtain rfl := Option.some.inj H
   go_enter Try.func27, Try.ntmps27
   go_wp2
   go_ret
   exact ⟨by first | rfl | (simp; done) | (simp [*]; done), by repeat (first | exact Drawn0.refl _ | apply Drawn0.step)⟩

/-! ### fr7_Quotient: function 70 -/
def fr7_Quotient.f (a0 : Int) (a1 : Int) : Option (Int) := (formularybase_Size.f a0).bind fun t280 => ((formularybase_Size.f a1).bind fun t281 => (if t281 = 0 then (none) else (if ((decide (a0 < 0)) != (decide (a1 < 0))) = true then (some (wrap64 (-(wrap64 (Int.tdiv t280 t281))))) else (some (wrap64 (Int.tdiv t280 t281))))))
set_option maxHeartbeats 8000000 in
set_option maxRecDepth 100000 in
theorem fr7_Quotient.calls (a0 : Int) (a1 : Int) (r : Int) (w : World) (h : fr7_Quotient.f a0 a1 = some r) :
  Calls Try.prog 70 #[.int .i64 a0, .int .i64 a1] w fun e w' => e = .returned (.int .i64 r) ∧ Drawn0 w w' := by
 have H : ((formularybase_Size.f a0).bind fun t280 => ((formularybase_Size.f a1).bind fun t281 => (if t281 = 0 then (none) else (if ((decide (a0 < 0)) != (decide (a1 < 0))) = true then (some (wrap64 (-(wrap64 (Int.tdiv t280 t281))))) else (some (wrap64 (Int.tdiv t280 t281))))))) = some r := h
 clear h;replace H := Option.bind_eq_some_iff.mp H;obtain ⟨t280, A30, H⟩ := H
 try dsimp only at H
 have A3 := Aside0.mk A30;clear A30;replace H := Option.bind_eq_some_iff.mp H;obtain ⟨t281, A40, H⟩ := H
 try dsimp only at H
 have A4 := Aside0.mk A40;clear A40
 by_cases c5 : t281 = 0
 ·rw [if_pos c5] at H
  exact absurd H (by simp)
 ·rw [if_neg c5] at H
  have c5b0 : (t281 == 0) = false := beq_eq_false_iff_ne.mpr c5
  have c5b1 : (t281 != 0) = true := bne_iff_ne.mpr c5
  by_cases c6 : ((decide (a0 < 0)) != (decide (a1 < 0))) = true
  ·rw [if_pos c6] at H
   have c6b0 : ((decide (a0 < 0)) != (decide (a1 < 0))) = true := c6
   (try (have c6b1 : decide ((decide (a0 < 0)) = (decide (a1 < 0))) = false := by simpa using c6))
   (try (have c6b2 : ((decide (a0 < 0)) == (decide (a1 < 0))) = false := by simpa using c6))
   (try (have c6b3 : ¬ ((decide (a0 < 0)) = (decide (a1 < 0))) := by simpa using c6))
   clear c6
   as_aux_lemma =>
    obtain rfl := Option.some.inj H
    go_enter Try.func70, Try.ntmps70
    go_wp2_with (first | ((with_reducible refine gate_callee (f := 27) rfl ?_); refine goesL_ (some 7) rfl rfl Try.func27 (by kernel_rfl) rfl #[.int .i64 a0] rfl (by (try simp only [List.map_toArray, List.map_cons, List.map_nil]); first | done | rfl) ?_; (with_reducible refine (formularybase_Size.calls a0 t280 _ A3.out).mono ?_); rintro e w' ⟨rfl, ⟨nd, rfl⟩⟩; refine ⟨_, rfl, ?_⟩) | ((with_reducible refine gate_callee (f := 27) rfl ?_); refine goesL_ (some 9) rfl rfl Try.func27 (by kernel_rfl) rfl #[.int .i64 a1] rfl (by (try simp only [List.map_toArray, List.map_cons, List.map_nil]); first | done | rfl) ?_; (with_reducible refine (formularybase_Size.calls a1 t281 _ A4.out).mono ?_); rintro e w' ⟨rfl, ⟨nd, rfl⟩⟩; refine ⟨_, rfl, ?_⟩))
    go_ret
    exact ⟨by first | rfl | (simp; done) | (simp [*]; done), by repeat (first | exact Drawn0.refl _ | apply Drawn0.step)⟩
  ·rw [if_neg c6] at H
   have c6b0 : ((decide (a0 < 0)) != (decide (a1 < 0))) = false := by simpa using c6
   (try (have c6b1 : decide ((decide (a0 < 0)) = (decide (a1 < 0))) = true := by simpa using c6))
   (try (have c6b2 : ((decide (a0 < 0)) == (decide (a1 < 0))) = true := by simpa using c6))
   clear c6
   as_aux_lemma =>
    obtain rfl := Option.some.inj H
    go_enter Try.func70, Try.ntmps70
    go_wp2_with (first | ((with_reducible refine gate_callee (f := 27) rfl ?_); refine goesL_ (some 7) rfl rfl Try.func27 (by kernel_rfl) rfl #[.int .i64 a0] rfl (by (try simp only [List.map_toArray, List.map_cons, List.map_nil]); first | done | rfl) ?_; (with_reducible refine (formularybase_Size.calls a0 t280 _ A3.out).mono ?_); rintro e w' ⟨rfl, ⟨nd, rfl⟩⟩; refine ⟨_, rfl, ?_⟩) | ((with_reducible refine gate_callee (f := 27) rfl ?_); refine goesL_ (some 9) rfl rfl Try.func27 (by kernel_rfl) rfl #[.int .i64 a1] rfl (by (try simp only [List.map_toArray, List.map_cons, List.map_nil]); first | done | rfl) ?_; (with_reducible refine (formularybase_Size.calls a1 t281 _ A4.out).mono ?_); rintro e w' ⟨rfl, ⟨nd, rfl⟩⟩; refine ⟨_, rfl, ?_⟩))
    go_ret
    exact ⟨by first | rfl | (simp; done) | (simp [*]; done), by repeat (first | exact Drawn0.refl _ | apply Drawn0.step)⟩

/-! ### fr7_Rest: function 71 -/
def fr7_Rest.f (a0 : Int) (a1 : Int) : Option (Int) := (fr7_Quotient.f a0 a1).bind fun t282 => (some (wrap64 (a0 - (wrap64 (a1 * t282)))))
set_option maxHeartbeats 8000000 in
set_option maxRecDepth 100000 in
theorem fr7_Rest.calls (a0 : Int) (a1 : Int) (r : Int) (w : World) (h : fr7_Rest.f a0 a1 = some r) :
  Calls Try.prog 71 #[.int .i64 a0, .int .i64 a1] w fun e w' => e = .returned (.int .i64 r) ∧ Drawn0 w w' := by
 have H : ((fr7_Quotient.f a0 a1).bind fun t282 => (some (wrap64 (a0 - (wrap64 (a1 * t282)))))) = some r := h
 clear h;replace H := Option.bind_eq_some_iff.mp H;obtain ⟨t282, A30, H⟩ := H
 try dsimp only at H
 have A3 := Aside0.mk A30;clear A30
 as_aux_lemma =>
  obtain rfl := Option.some.inj H
  go_enter Try.func71, Try.ntmps71
  go_wp2_with (first | ((with_reducible refine gate_callee (f := 70) rfl ?_); refine goesL_ (some 9) rfl rfl Try.func70 (by kernel_rfl) rfl #[.int .i64 a0, .int .i64 a1] rfl (by (try simp only [List.map_toArray, List.map_cons, List.map_nil]); first | done | rfl) ?_; (with_reducible refine (fr7_Quotient.calls a0 a1 t282 _ A3.out).mono ?_); rintro e w' ⟨rfl, ⟨nd, rfl⟩⟩; refine ⟨_, rfl, ?_⟩))
  go_ret
  exact ⟨by first | rfl | (simp; done) | (simp [*]; done), by repeat (first | exact Drawn0.refl _ | apply Drawn0.step)⟩

/-! ### fr7_Exact: function 44 -/
def fr7_Exact.j0 : Nat → Int → Int → Int → Bool → Option (Int × Int)
 | 0, _, _, _, _ => none
 | k + 1, x0, x1, x2, x17 => if x17 = true then (some (0, 11)) else (if x0 = 0 then (some (wrap64 (x1 + x2), 0)) else (if x0 = 1 then (some (wrap64 (x1 - x2), 0)) else (if x0 = 2 then (some (wrap64 (x1 * x2), 0)) else (if x0 = 3 then ((fr7_Quotient.f x1 x2).bind fun t283 => (some (t283, 0))) else (if x0 = 4 then ((fr7_Rest.f x1 x2).bind fun t284 => (some (t284, 0))) else (if x0 = 5 then (if x2 < 0 then ((formularybase_Size.f x1).bind fun t285 => (some (wrap64 (-t285), 0))) else ((formularybase_Size.f x1).bind fun t286 => (some (t286, 0)))) else (if x0 = 6 then (some (mx (wrap64 (x1 - x2)) 0, 0)) else (if x0 = 7 then (some (mn x1 x2, 0)) else (some (mx x1 x2, 0))))))))))
def fr7_Exact.f (k : Nat) (a0 : Int) (a1 : Int) (a2 : Int) : Option (Int × Int) := if a0 = 3 then (fr7_Exact.j0 k a0 a1 a2 (a2 == 0)) else (if a0 = 4 then (fr7_Exact.j0 k a0 a1 a2 (a2 == 0)) else (fr7_Exact.j0 k a0 a1 a2 false))
theorem fr7_Exact.mono_l : ∀ k, (∀ y0 y1 y2 y3, LeO (fr7_Exact.j0 k y0 y1 y2 y3) (fr7_Exact.j0 (k + 1) y0 y1 y2 y3))
 | 0 => fun _ _ _ _ r h => by simp [fr7_Exact.j0] at h
 | k + 1 => by
  have ih0 := fr7_Exact.mono_l k
  ·intro y0 y1 y2 y3
   unfold fr7_Exact.j0
   repeat' first
   | (with_reducible exact ih0 _ _ _ _)
   | (with_reducible exact LeO.refl _)
   | (with_reducible exact LeO.none _)
   | (with_reducible refine LeO.ite ?_ ?_)
   | (with_reducible refine LeO.bind ?_ (fun _ => ?_))
   | exact ih0 _ _ _ _
   | exact LeO.none _
   | refine LeO.ite ?_ ?_
   | refine LeO.bind ?_ (fun _ => ?_)
theorem fr7_Exact.mono : ∀ a0 a1 a2 k, LeO (fr7_Exact.f k a0 a1 a2) (fr7_Exact.f (k + 1) a0 a1 a2) := by
 intro a0 a1 a2 k
 have ih0 := fr7_Exact.mono_l k
 unfold fr7_Exact.f
 repeat' first
   | (with_reducible exact ih0 _ _ _ _)
   | (with_reducible exact LeO.refl _)
   | (with_reducible exact LeO.none _)
   | (with_reducible refine LeO.ite ?_ ?_)
   | (with_reducible refine LeO.bind ?_ (fun _ => ?_))
   | exact ih0 _ _ _ _
   | exact LeO.none _
   | refine LeO.ite ?_ ?_
   | refine LeO.bind ?_ (fun _ => ?_)
set_option maxHeartbeats 8000000 in
set_option maxRecDepth 100000 in
theorem fr7_Exact.calls (k : Nat) (a0 : Int) (a1 : Int) (a2 : Int) (r1 : Int) (r2 : Int) (w : World) (h : fr7_Exact.f k a0 a1 a2 = some (r1, r2)) :
  Calls Try.prog 44 #[.int .i64 a0, .int .i64 a1, .int .i64 a2] w fun e w' => e = .returned (.tuple #[.int .i64 r1, .int .i64 r2]) ∧ Below w.heap.size w w' := by
 have HB := Aside0.mk (Below.refl w.heap.size w)
 have H : (if a0 = 3 then (fr7_Exact.j0 k a0 a1 a2 (a2 == 0)) else (if a0 = 4 then (fr7_Exact.j0 k a0 a1 a2 (a2 == 0)) else (fr7_Exact.j0 k a0 a1 a2 false))) = some (r1, r2) := h
 clear h;have HC4 := Aside0.mk H;clear H
 go_enter Try.func44, Try.ntmps44
 go_upto_region 1 with (fail)
 go_cut [17] (fun v17 wc => ∃ (kq : Nat) (x17_3 : Bool), v17 = .bool x17_3 ∧ Aside0 (fr7_Exact.j0 kq a0 a1 a2 x17_3 = some (r1, r2)) ∧ Aside0 (kq ≤ k) ∧ Aside0 (Below w.heap.size w wc))
 case first =>
  have H := HC4.out;clear HC4
  by_cases c5 : a0 = 3
  ·rw [if_pos c5] at H
   have c5b0 : (a0 == 3) = true := beq_iff_eq.mpr c5
   have c5b1 : (a0 != 3) = false := bne_eq_false_iff_eq.mpr c5
   clear c5
   (first | rw [c5b0] | (simp only [i64_w, i32_w]; rw [c5b0]) | skip)
   as_aux_lemma =>
    have H' := Aside0.mk H
    clear H
    go_wp2
    go_meet
    case rel => exact ⟨_, ((a2 == 0)), (by first | rfl | (simp; done) | (simp [*]; done)), H', ⟨by first | omega | exact Nat.le_refl _⟩, ⟨bw HB.out⟩⟩
  ·rw [if_neg c5] at H
   have c5b0 : (a0 == 3) = false := beq_eq_false_iff_ne.mpr c5
   have c5b1 : (a0 != 3) = true := bne_iff_ne.mpr c5
   (first | rw [c5b0] | (simp only [i64_w, i32_w]; rw [c5b0]) | skip)
   by_cases c6 : a0 = 4
   ·rw [if_pos c6] at H
    have c6b0 : (a0 == 4) = true := beq_iff_eq.mpr c6
    have c6b1 : (a0 != 4) = false := bne_eq_false_iff_eq.mpr c6
    clear c6
    as_aux_lemma =>
     have H' := Aside0.mk H
     clear H
     go_wp2
     go_meet
     case rel => exact ⟨_, ((a2 == 0)), (by first | rfl | (simp; done) | (simp [*]; done)), H', ⟨by first | omega | exact Nat.le_refl _⟩, ⟨bw HB.out⟩⟩
   ·rw [if_neg c6] at H
    have c6b0 : (a0 == 4) = false := beq_eq_false_iff_ne.mpr c6
    have c6b1 : (a0 != 4) = true := bne_iff_ne.mpr c6
    as_aux_lemma =>
     have H' := Aside0.mk H
     clear H
     go_wp2
     go_meet
     case rel => exact ⟨_, (false), (by first | rfl | (simp; done) | (simp [*]; done)), H', ⟨by first | omega | exact Nat.le_refl _⟩, ⟨bw HB.out⟩⟩
 case rest =>
  clear HC4;obtain ⟨kq, x17_3, rfl, HA, HJ3, HB⟩ := hcut
  cases kq with
  | zero => exact absurd HA.out (by simp [fr7_Exact.j0])
  | succ kj3 =>
   have H := HA.out;clear HA;simp only [fr7_Exact.j0] at H
   by_cases c7 : x17_3 = true
   ·subst c7
    have H1 : (some (0, 11)) = some (r1, r2) := by rw [if_pos rfl] at H; exact H
    clear H;have H := H1;clear H1
    as_aux_lemma =>
     simp only [Option.some.injEq, Prod.mk.injEq] at H;obtain ⟨rfl, rfl⟩ := H
     go_wp2
     go_ret2
     exact ⟨by first | rfl | (simp [*] <;> rfl), bw HB.out⟩
   ·replace c7 := Bool.eq_false_iff.mpr c7
    subst c7
    have H1 : (if a0 = 0 then (some (wrap64 (a1 + a2), 0)) else (if a0 = 1 then (some (wrap64 (a1 - a2), 0)) else (if a0 = 2 then (some (wrap64 (a1 * a2), 0)) else (if a0 = 3 then ((fr7_Quotient.f a1 a2).bind fun t283 => (some (t283, 0))) else (if a0 = 4 then ((fr7_Rest.f a1 a2).bind fun t284 => (some (t284, 0))) else (if a0 = 5 then (if a2 < 0 then ((formularybase_Size.f a1).bind fun t285 => (some (wrap64 (-t285), 0))) else ((formularybase_Size.f a1).bind fun t286 => (some (t286, 0)))) else (if a0 = 6 then (some (mx (wrap64 (a1 - a2)) 0, 0)) else (if a0 = 7 then (some (mn a1 a2, 0)) else (some (mx a1 a2, 0)))))))))) = some (r1, r2) := by rw [if_neg (show ¬ (false = true) by decide)] at H; exact H
    clear H;have H := H1;clear H1
    by_cases c8 : a0 = 0
    ·rw [if_pos c8] at H
     have c8b0 : (a0 == 0) = true := beq_iff_eq.mpr c8
     have c8b1 : (a0 != 0) = false := bne_eq_false_iff_eq.mpr c8
     clear c8
     as_aux_lemma =>
      simp only [Option.some.injEq, Prod.mk.injEq] at H;obtain ⟨rfl, rfl⟩ := H
      go_wp2
      go_ret2
      exact ⟨by first | rfl | (simp [*] <;> rfl), bw HB.out⟩
    ·rw [if_neg c8] at H
     have c8b0 : (a0 == 0) = false := beq_eq_false_iff_ne.mpr c8
     have c8b1 : (a0 != 0) = true := bne_iff_ne.mpr c8
     by_cases c9 : a0 = 1
     ·rw [if_pos c9] at H
      have c9b0 : (a0 == 1) = true := beq_iff_eq.mpr c9
      have c9b1 : (a0 != 1) = false := bne_eq_false_iff_eq.mpr c9
      clear c9
      as_aux_lemma =>
       simp only [Option.some.injEq, Prod.mk.injEq] at H;obtain ⟨rfl, rfl⟩ := H
       go_wp2
       go_ret2
       exact ⟨by first | rfl | (simp [*] <;> rfl), bw HB.out⟩
     ·rw [if_neg c9] at H
      have c9b0 : (a0 == 1) = false := beq_eq_false_iff_ne.mpr c9
      have c9b1 : (a0 != 1) = true := bne_iff_ne.mpr c9
      by_cases c10 : a0 = 2
      ·rw [if_pos c10] at H
       have c10b0 : (a0 == 2) = true := beq_iff_eq.mpr c10
       have c10b1 : (a0 != 2) = false := bne_eq_false_iff_eq.mpr c10
       clear c10
       as_aux_lemma =>
        simp only [Option.some.injEq, Prod.mk.injEq] at H;obtain ⟨rfl, rfl⟩ := H
        go_wp2
        go_ret2
        exact ⟨by first | rfl | (simp [*] <;> rfl), bw HB.out⟩
      ·rw [if_neg c10] at H
       have c10b0 : (a0 == 2) = false := beq_eq_false_iff_ne.mpr c10
       have c10b1 : (a0 != 2) = true := bne_iff_ne.mpr c10
       by_cases c11 : a0 = 3
       ·rw [if_pos c11] at H
        have c11b0 : (a0 == 3) = true := beq_iff_eq.mpr c11
        have c11b1 : (a0 != 3) = false := bne_eq_false_iff_eq.mpr c11
        clear c11;replace H := Option.bind_eq_some_iff.mp H;obtain ⟨t283, A120, H⟩ := H
        try dsimp only at H
        have A12 := Aside0.mk A120;clear A120
        as_aux_lemma =>
         simp only [Option.some.injEq, Prod.mk.injEq] at H;obtain ⟨rfl, rfl⟩ := H
         go_wp2_with (first | ((with_reducible refine gate_callee (f := 70) rfl ?_); refine goesL_ (some 38) rfl rfl Try.func70 (by kernel_rfl) rfl #[.int .i64 a1, .int .i64 a2] rfl (by (try simp only [List.map_toArray, List.map_cons, List.map_nil]); first | done | rfl) ?_; (with_reducible refine (fr7_Quotient.calls a1 a2 t283 _ A12.out).mono ?_); rintro e w' ⟨rfl, ⟨nd, rfl⟩⟩; refine ⟨_, rfl, ?_⟩))
         go_ret2
         exact ⟨by first | rfl | (simp [*] <;> rfl), bw HB.out⟩
       ·rw [if_neg c11] at H
        have c11b0 : (a0 == 3) = false := beq_eq_false_iff_ne.mpr c11
        have c11b1 : (a0 != 3) = true := bne_iff_ne.mpr c11
        by_cases c13 : a0 = 4
        ·rw [if_pos c13] at H
         have c13b0 : (a0 == 4) = true := beq_iff_eq.mpr c13
         have c13b1 : (a0 != 4) = false := bne_eq_false_iff_eq.mpr c13
         clear c13;replace H := Option.bind_eq_some_iff.mp H;obtain ⟨t284, A140, H⟩ := H
         try dsimp only at H
         have A14 := Aside0.mk A140;clear A140
         as_aux_lemma =>
          simp only [Option.some.injEq, Prod.mk.injEq] at H;obtain ⟨rfl, rfl⟩ := H
          go_wp2_with (first | ((with_reducible refine gate_callee (f := 71) rfl ?_); refine goesL_ (some 43) rfl rfl Try.func71 (by kernel_rfl) rfl #[.int .i64 a1, .int .i64 a2] rfl (by (try simp only [List.map_toArray, List.map_cons, List.map_nil]); first | done | rfl) ?_; (with_reducible refine (fr7_Rest.calls a1 a2 t284 _ A14.out).mono ?_); rintro e w' ⟨rfl, ⟨nd, rfl⟩⟩; refine ⟨_, rfl, ?_⟩))
          go_ret2
          exact ⟨by first | rfl | (simp [*] <;> rfl), bw HB.out⟩
        ·rw [if_neg c13] at H
         have c13b0 : (a0 == 4) = false := beq_eq_false_iff_ne.mpr c13
         have c13b1 : (a0 != 4) = true := bne_iff_ne.mpr c13
         by_cases c15 : a0 = 5
         ·rw [if_pos c15] at H
          have c15b0 : (a0 == 5) = true := beq_iff_eq.mpr c15
          have c15b1 : (a0 != 5) = false := bne_eq_false_iff_eq.mpr c15
          clear c15
          by_cases c16 : a2 < 0
          ·rw [if_pos c16] at H
           have c16b0 : decide (a2 < 0) = true := decide_eq_true c16
           clear c16;replace H := Option.bind_eq_some_iff.mp H;obtain ⟨t285, A170, H⟩ := H
           try dsimp only at H
           have A17 := Aside0.mk A170;clear A170
           as_aux_lemma =>
            simp only [Option.some.injEq, Prod.mk.injEq] at H;obtain ⟨rfl, rfl⟩ := H
            go_wp2_with (first | ((with_reducible refine gate_callee (f := 27) rfl ?_); refine goesL_ (some 49) rfl rfl Try.func27 (by kernel_rfl) rfl #[.int .i64 a1] rfl (by (try simp only [List.map_toArray, List.map_cons, List.map_nil]); first | done | rfl) ?_; (with_reducible refine (formularybase_Size.calls a1 t285 _ A17.out).mono ?_); rintro e w' ⟨rfl, ⟨nd, rfl⟩⟩; refine ⟨_, rfl, ?_⟩))
            go_ret2
            exact ⟨by first | rfl | (simp [*] <;> rfl), bw HB.out⟩
          ·rw [if_neg c16] at H
           have c16b0 : decide (a2 < 0) = false := decide_eq_false c16
           clear c16;replace H := Option.bind_eq_some_iff.mp H;obtain ⟨t286, A180, H⟩ := H
           try dsimp only at H
           have A18 := Aside0.mk A180;clear A180
           as_aux_lemma =>
            simp only [Option.some.injEq, Prod.mk.injEq] at H;obtain ⟨rfl, rfl⟩ := H
            go_wp2_with (first | ((with_reducible refine gate_callee (f := 27) rfl ?_); refine goesL_ (some 52) rfl rfl Try.func27 (by kernel_rfl) rfl #[.int .i64 a1] rfl (by (try simp only [List.map_toArray, List.map_cons, List.map_nil]); first | done | rfl) ?_; (with_reducible refine (formularybase_Size.calls a1 t286 _ A18.out).mono ?_); rintro e w' ⟨rfl, ⟨nd, rfl⟩⟩; refine ⟨_, rfl, ?_⟩))
            go_ret2
            exact ⟨by first | rfl | (simp [*] <;> rfl), bw HB.out⟩
         ·rw [if_neg c15] at H
          have c15b0 : (a0 == 5) = false := beq_eq_false_iff_ne.mpr c15
          have c15b1 : (a0 != 5) = true := bne_iff_ne.mpr c15
          by_cases c19 : a0 = 6
          ·rw [if_pos c19] at H
           have c19b0 : (a0 == 6) = true := beq_iff_eq.mpr c19
           have c19b1 : (a0 != 6) = false := bne_eq_false_iff_eq.mpr c19
           clear c19
           obtain ⟨ji20, hji20⟩ : ∃ j_ : Int, (mx (wrap64 (a1 - a2)) 0) = j_ := ⟨_, rfl⟩
           replace H : (some (ji20, 0)) = some (r1, r2) := by first | (rw [hji20] at H; exact H) | (simp only [hji20] at H ⊢; exact H)
           (try (have hji20l : 0 ≤ ji20 := by (rw [← hji20]; unfold mx; (repeat' split) <;> omega)))
           (try (have hji20m : 0 ≤ ji20 := by omega))
           have hji20_ : (if (wrap64 (a1 - a2)) < 0 then 0 else (wrap64 (a1 - a2))) = ji20 := hji20
           as_aux_lemma =>
            simp only [Option.some.injEq, Prod.mk.injEq] at H;obtain ⟨rfl, rfl⟩ := H
            go_wp2
            go_ret2
            exact ⟨by first | rfl | (simp [errW_none, errW_some] <;> rfl) | (simp only [← hji20]; first | rfl | (simp [errW_none, errW_some] <;> rfl)) | (simp [*, errW_none, errW_some] <;> rfl), bw HB.out⟩
          ·rw [if_neg c19] at H
           have c19b0 : (a0 == 6) = false := beq_eq_false_iff_ne.mpr c19
           have c19b1 : (a0 != 6) = true := bne_iff_ne.mpr c19
           by_cases c21 : a0 = 7
           ·rw [if_pos c21] at H
            have c21b0 : (a0 == 7) = true := beq_iff_eq.mpr c21
            have c21b1 : (a0 != 7) = false := bne_eq_false_iff_eq.mpr c21
            clear c21
            obtain ⟨ji22, hji22⟩ : ∃ j_ : Int, (mn a1 a2) = j_ := ⟨_, rfl⟩
            replace H : (some (ji22, 0)) = some (r1, r2) := by first | (rw [hji22] at H; exact H) | (simp only [hji22] at H ⊢; exact H)
            have hji22_ : (if a2 < a1 then a2 else a1) = ji22 := hji22
            as_aux_lemma =>
             simp only [Option.some.injEq, Prod.mk.injEq] at H;obtain ⟨rfl, rfl⟩ := H
             go_wp2
             go_ret2
             exact ⟨by first | rfl | (simp [errW_none, errW_some] <;> rfl) | (simp only [← hji22]; first | rfl | (simp [errW_none, errW_some] <;> rfl)) | (simp [*, errW_none, errW_some] <;> rfl), bw HB.out⟩
           ·rw [if_neg c21] at H
            have c21b0 : (a0 == 7) = false := beq_eq_false_iff_ne.mpr c21
            have c21b1 : (a0 != 7) = true := bne_iff_ne.mpr c21
            obtain ⟨ji23, hji23⟩ : ∃ j_ : Int, (mx a1 a2) = j_ := ⟨_, rfl⟩
            replace H : (some (ji23, 0)) = some (r1, r2) := by first | (rw [hji23] at H; exact H) | (simp only [hji23] at H ⊢; exact H)
            have hji23_ : (if a1 < a2 then a2 else a1) = ji23 := hji23
            as_aux_lemma =>
             simp only [Option.some.injEq, Prod.mk.injEq] at H;obtain ⟨rfl, rfl⟩ := H
             go_wp2
             go_ret2
             exact ⟨by first | rfl | (simp [errW_none, errW_some] <;> rfl) | (simp only [← hji23]; first | rfl | (simp [errW_none, errW_some] <;> rfl)) | (simp [*, errW_none, errW_some] <;> rfl), bw HB.out⟩

/-! ### fr7_IsInteger: function 45 -/
def fr7_IsInteger.f (a0 : Int) : Option (Bool) := (formularybase_Within.f a0 (-2147483648) 2147483647).bind fun t287 => (some t287)
set_option maxHeartbeats 8000000 in
set_option maxRecDepth 100000 in
theorem fr7_IsInteger.calls (a0 : Int) (r : Bool) (w : World) (h : fr7_IsInteger.f a0 = some r) :
  Calls Try.prog 45 #[.int .i64 a0] w fun e w' => e = .returned (.bool r) ∧ Drawn0 w w' := by
 have H : ((formularybase_Within.f a0 (-2147483648) 2147483647).bind fun t287 => (some t287)) = some r := h
 clear h;replace H := Option.bind_eq_some_iff.mp H;obtain ⟨t287, A20, H⟩ := H
 try dsimp only at H
 have A2 := Aside0.mk A20;clear A20
 as_aux_lemma =>
  obtain rfl := Option.some.inj H
  go_enter Try.func45, Try.ntmps45
  go_wp2_with (first | ((with_reducible refine gate_callee (f := 19) rfl ?_); refine goesL_ (some 4) rfl rfl Try.func19 (by kernel_rfl) rfl #[.int .i64 a0, .int .i64 (-2147483648), .int .i64 2147483647] rfl (by (try simp only [List.map_toArray, List.map_cons, List.map_nil]); first | done | rfl) ?_; (with_reducible refine (formularybase_Within.calls a0 (-2147483648) 2147483647 t287 _ A2.out).mono ?_); rintro e w' ⟨rfl, ⟨nd, rfl⟩⟩; refine ⟨_, rfl, ?_⟩))
  go_ret
  exact ⟨by first | rfl | (simp; done) | (simp [*]; done), by repeat (first | exact Drawn0.refl _ | apply Drawn0.step)⟩

/-! ### fr7_OpErr: function 56 -/
def fr7_OpErr.f (a0 : Int) (a1 : Int) : Option (Int) := (formularybase_Within.f a0 0 (wrap64 (a1 - 1))).bind fun t288 => (if t288 = true then (some 0) else (some 15))
set_option maxHeartbeats 8000000 in
set_option maxRecDepth 100000 in
theorem fr7_OpErr.calls (a0 : Int) (a1 : Int) (r : Int) (w : World) (h : fr7_OpErr.f a0 a1 = some r) :
  Calls Try.prog 56 #[.int .i64 a0, .int .i64 a1] w fun e w' => e = .returned (.int .i64 r) ∧ Drawn0 w w' := by
 have H : ((formularybase_Within.f a0 0 (wrap64 (a1 - 1))).bind fun t288 => (if t288 = true then (some 0) else (some 15))) = some r := h
 clear h;replace H := Option.bind_eq_some_iff.mp H;obtain ⟨t288, A30, H⟩ := H
 try dsimp only at H
 have A3 := Aside0.mk A30;clear A30
 by_cases c4 : t288 = true
 ·subst c4
  have H1 : (some 0) = some r := by rw [if_pos rfl] at H; exact H
  clear H;have H := H1;clear H1
  as_aux_lemma =>
   obtain rfl := Option.some.inj H
   go_enter Try.func56, Try.ntmps56
   go_wp2_with (first | ((with_reducible refine gate_callee (f := 19) rfl ?_); refine goesL_ (some 8) rfl rfl Try.func19 (by kernel_rfl) rfl #[.int .i64 a0, .int .i64 0, .int .i64 (wrap64 (a1 - 1))] rfl (by (try simp only [List.map_toArray, List.map_cons, List.map_nil]); first | done | rfl) ?_; (with_reducible refine (formularybase_Within.calls a0 0 (wrap64 (a1 - 1)) true _ A3.out).mono ?_); rintro e w' ⟨rfl, ⟨nd, rfl⟩⟩; refine ⟨_, rfl, ?_⟩))
   go_ret
   exact ⟨by first | rfl | (simp; done) | (simp [*]; done), by repeat (first | exact Drawn0.refl _ | apply Drawn0.step)⟩
 ·replace c4 := Bool.eq_false_iff.mpr c4
  subst c4
  have H1 : (some 15) = some r := by rw [if_neg (show ¬ (false = true) by decide)] at H; exact H
  clear H;have H := H1;clear H1
  as_aux_lemma =>
   obtain rfl := Option.some.inj H
   go_enter Try.func56, Try.ntmps56
   go_wp2_with (first | ((with_reducible refine gate_callee (f := 19) rfl ?_); refine goesL_ (some 8) rfl rfl Try.func19 (by kernel_rfl) rfl #[.int .i64 a0, .int .i64 0, .int .i64 (wrap64 (a1 - 1))] rfl (by (try simp only [List.map_toArray, List.map_cons, List.map_nil]); first | done | rfl) ?_; (with_reducible refine (formularybase_Within.calls a0 0 (wrap64 (a1 - 1)) false _ A3.out).mono ?_); rintro e w' ⟨rfl, ⟨nd, rfl⟩⟩; refine ⟨_, rfl, ?_⟩))
   go_ret
   exact ⟨by first | rfl | (simp; done) | (simp [*]; done), by repeat (first | exact Drawn0.refl _ | apply Drawn0.step)⟩

end Go.Proofs.Ytgmlihjopinagaa.PIntegersRanges
