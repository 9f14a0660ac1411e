-- Written by myprint.py of this session over the kit's print program; contracts by hand where it does not serve.
import Derived.Test.YtgmlihjopinagaaPIntegersExactx0
import Derived.Test.YtgmlihjopinagaaPIntegersExactx3
import Derived.Test.YtgmlihjopinagaaPIntegersExactx7
import Derived.Test.YtgmlihjopinagaaPIntegersExactx8
namespace Go.Proofs.Ytgmlihjopinagaa.PIntegersExact
open Go.RowKit Go.Proofs.YtgmlihjopinagaaW.PrintWords Go.Proofs.YtgmlihjopinagaaW.PrintLast Go.Proofs.YtgmlihjopinagaaW.PrintMore
attribute [local go_sem] max2_int min2_int max_two min_two max_three min_three max_four min_four   -- for this text's walks alone
set_option linter.unusedVariables false
set_option linter.unusedSimpArgs false

/-! ### formularylaw07_IntegersExact: function 7 -/
mutual
def formularylaw07_IntegersExact.j0 : Nat → Int → Int → Bool → Option (Bool)
  | 0, _, _, _ => none
  | k + 1, x0, x1, x74 => if x74 = true then (none) else ((integers_Divided.f k x0 x1).bind fun bt234 => (if bt234.2.2 = 0 then ((integers_Apply.f k 2 bt234.1 x1).bind fun bt238 => ((integers_Apply.f k 0 bt238.1 bt234.2.1).bind fun bt240 => (if bt238.2 = 0 then (if bt240.2 = 0 then (if bt240.1 = x0 then ((formularybase_Size.f bt234.2.1).bind fun t242 => ((formularybase_Size.f x1).bind fun t243 => (if t242 ≥ t243 then (none) else (if bt234.2.1 = 0 then (formularylaw07_IntegersExact.j1 k x0 x1) else (if bt234.2.1 < 0 then (if x0 < 0 then (formularylaw07_IntegersExact.j1 k x0 x1) else (none)) else (if x0 < 0 then (none) else (formularylaw07_IntegersExact.j1 k x0 x1))))))) else (none)) else (none)) else (none)))) else (if x1 = 0 then (formularylaw07_IntegersExact.j1 k x0 x1) else (if x0 = (-2147483648) then (if x1 = (-1) then (formularylaw07_IntegersExact.j1 k x0 x1) else (none)) else (none)))))
def formularylaw07_IntegersExact.j1 : Nat → Int → Int → Option (Bool)
  | 0, _, _ => none
  | k + 1, x0, x1 => (integers_Apply.f k 5 x0 x0).bind fun bt244 => (if bt244.2 = 0 then (formularylaw07_IntegersExact.j2 k x0 x1 (bt244.1 != x0)) else (none))
def formularylaw07_IntegersExact.j2 : Nat → Int → Int → Bool → Option (Bool)
  | 0, _, _, _ => none
  | k + 1, x0, x1, x151 => if x151 = true then (none) else ((integers_Apply.f k 6 x0 x1).bind fun bt246 => ((integers_Apply.f k 6 x1 x0).bind fun bt248 => ((integers_Apply.f k 1 x0 x1).bind fun bt250 => (if bt246.2 = 0 then (if bt248.2 = 0 then (if bt250.2 = 0 then (formularylaw07_IntegersExact.j3 k x0 x1 ((wrap64 (bt246.1 - bt248.1)) != bt250.1)) else (formularylaw07_IntegersExact.j3 k x0 x1 false)) else (formularylaw07_IntegersExact.j3 k x0 x1 false)) else (formularylaw07_IntegersExact.j3 k x0 x1 false)))))
def formularylaw07_IntegersExact.j3 : Nat → Int → Int → Bool → Option (Bool)
  | 0, _, _, _ => none
  | k + 1, x0, x1, x186 => if x186 = true then (none) else ((integers_Apply.f k 7 x0 x1).bind fun bt252 => ((integers_Apply.f k 8 x0 x1).bind fun bt254 => (if bt252.2 = 0 then (if bt254.2 = 0 then (if bt252.1 ≤ bt254.1 then (if bt252.1 = x0 then (if bt254.1 = x1 then (some true) else (if bt252.1 = x1 then (some (bt254.1 == x0)) else (none))) else (if bt252.1 = x1 then (some (bt254.1 == x0)) else (none))) else (none)) else (none)) else (none))))
end
def formularylaw07_IntegersExact.f (k : Nat) (a0 : Int) (a1 : Int) : Option (Bool) := (formularylaw07_awake.f k).bind fun t228 => (if t228 = true then ((formularyref07_TwoErr.f a0 a1).bind fun t229 => (if t229 = 0 then ((integers_Apply.f k 0 a0 a1).bind fun bt230 => ((integers_Wrapped.f k 0 a0 a1).bind fun bt232 => (if bt232.2 = 0 then (if a1 ≥ 0 then (if bt232.1 ≥ a0 then (if bt230.2 = 0 then (if bt230.1 = bt232.1 then (formularylaw07_IntegersExact.j0 k a0 a1 false) else (none)) else (none)) else (if bt230.2 = 0 then (none) else (formularylaw07_IntegersExact.j0 k a0 a1 (bt230.2 != 28)))) else (if bt232.1 ≥ a0 then (if bt230.2 = 0 then (none) else (formularylaw07_IntegersExact.j0 k a0 a1 (bt230.2 != 28))) else (if bt230.2 = 0 then (if bt230.1 = bt232.1 then (formularylaw07_IntegersExact.j0 k a0 a1 false) else (none)) else (none)))) else (none)))) else (some true))) else (none))
theorem formularylaw07_IntegersExact.mono_l : ∀ k, (∀ y0 y1 y2, LeO (formularylaw07_IntegersExact.j0 k y0 y1 y2) (formularylaw07_IntegersExact.j0 (k + 1) y0 y1 y2)) ∧ (∀ y0 y1, LeO (formularylaw07_IntegersExact.j1 k y0 y1) (formularylaw07_IntegersExact.j1 (k + 1) y0 y1)) ∧ (∀ y0 y1 y2, LeO (formularylaw07_IntegersExact.j2 k y0 y1 y2) (formularylaw07_IntegersExact.j2 (k + 1) y0 y1 y2)) ∧ (∀ y0 y1 y2, LeO (formularylaw07_IntegersExact.j3 k y0 y1 y2) (formularylaw07_IntegersExact.j3 (k + 1) y0 y1 y2))
  | 0 => ⟨fun _ _ _ r h => by simp [formularylaw07_IntegersExact.j0] at h, fun _ _ r h => by simp [formularylaw07_IntegersExact.j1] at h, fun _ _ _ r h => by simp [formularylaw07_IntegersExact.j2] at h, fun _ _ _ r h => by simp [formularylaw07_IntegersExact.j3] at h⟩
  | k + 1 => by
    obtain ⟨ih0, ih1, ih2, ih3⟩ := formularylaw07_IntegersExact.mono_l k
    refine ⟨?_, ?_, ?_, ?_⟩
    · intro y0 y1 y2
      unfold formularylaw07_IntegersExact.j0
      repeat' first
      | (with_reducible exact ih0 _ _ _)
      | (with_reducible exact ih1 _ _)
      | (with_reducible exact ih2 _ _ _)
      | (with_reducible exact ih3 _ _ _)
      | (with_reducible exact formularylaw07_awake.mono _)
      | (with_reducible exact integers_Apply.mono _ _ _ _)
      | (with_reducible exact integers_Divided.mono _ _ _)
      | (with_reducible exact integers_Wrapped.mono _ _ _ _)
      | (with_reducible exact LeO.refl _)
      | (with_reducible exact LeO.none _)
      | (with_reducible refine LeO.ite ?_ ?_)
      | (with_reducible refine LeO.bind ?_ (fun _ => ?_))
      | exact ih0 _ _ _
      | exact ih1 _ _
      | exact ih2 _ _ _
      | exact ih3 _ _ _
      | exact formularylaw07_awake.mono _
      | exact integers_Apply.mono _ _ _ _
      | exact integers_Divided.mono _ _ _
      | exact integers_Wrapped.mono _ _ _ _
      | exact LeO.none _
      | refine LeO.ite ?_ ?_
      | refine LeO.bind ?_ (fun _ => ?_)
    · intro y0 y1
      unfold formularylaw07_IntegersExact.j1
      repeat' first
      | (with_reducible exact ih0 _ _ _)
      | (with_reducible exact ih1 _ _)
      | (with_reducible exact ih2 _ _ _)
      | (with_reducible exact ih3 _ _ _)
      | (with_reducible exact formularylaw07_awake.mono _)
      | (with_reducible exact integers_Apply.mono _ _ _ _)
      | (with_reducible exact integers_Divided.mono _ _ _)
      | (with_reducible exact integers_Wrapped.mono _ _ _ _)
      | (with_reducible exact LeO.refl _)
      | (with_reducible exact LeO.none _)
      | (with_reducible refine LeO.ite ?_ ?_)
      | (with_reducible refine LeO.bind ?_ (fun _ => ?_))
      | exact ih0 _ _ _
      | exact ih1 _ _
      | exact ih2 _ _ _
      | exact ih3 _ _ _
      | exact formularylaw07_awake.mono _
      | exact integers_Apply.mono _ _ _ _
      | exact integers_Divided.mono _ _ _
      | exact integers_Wrapped.mono _ _ _ _
      | exact LeO.none _
      | refine LeO.ite ?_ ?_
      | refine LeO.bind ?_ (fun _ => ?_)
    · intro y0 y1 y2
      unfold formularylaw07_IntegersExact.j2
      repeat' first
      | (with_reducible exact ih0 _ _ _)
      | (with_reducible exact ih1 _ _)
      | (with_reducible exact ih2 _ _ _)
      | (with_reducible exact ih3 _ _ _)
      | (with_reducible exact formularylaw07_awake.mono _)
      | (with_reducible exact integers_Apply.mono _ _ _ _)
      | (with_reducible exact integers_Divided.mono _ _ _)
      | (with_reducible exact integers_Wrapped.mono _ _ _ _)
      | (with_reducible exact LeO.refl _)
      | (with_reducible exact LeO.none _)
      | (with_reducible refine LeO.ite ?_ ?_)
      | (with_reducible refine LeO.bind ?_ (fun _ => ?_))
      | exact ih0 _ _ _
      | exact ih1 _ _
      | exact ih2 _ _ _
      | exact ih3 _ _ _
      | exact formularylaw07_awake.mono _
      | exact integers_Apply.mono _ _ _ _
      | exact integers_Divided.mono _ _ _
      | exact integers_Wrapped.mono _ _ _ _
      | exact LeO.none _
      | refine LeO.ite ?_ ?_
      | refine LeO.bind ?_ (fun _ => ?_)
    · intro y0 y1 y2
      unfold formularylaw07_IntegersExact.j3
      repeat' first
      | (with_reducible exact ih0 _ _ _)
      | (with_reducible exact ih1 _ _)
      | (with_reducible exact ih2 _ _ _)
      | (with_reducible exact ih3 _ _ _)
      | (with_reducible exact formularylaw07_awake.mono _)
      | (with_reducible exact integers_Apply.mono _ _ _ _)
      | (with_reducible exact integers_Divided.mono _ _ _)
      | (with_reducible exact integers_Wrapped.mono _ _ _ _)
      | (with_reducible exact LeO.refl _)
      | (with_reducible exact LeO.none _)
      | (with_reducible refine LeO.ite ?_ ?_)
      | (with_reducible refine LeO.bind ?_ (fun _ => ?_))
      | exact ih0 _ _ _
      | exact ih1 _ _
      | exact ih2 _ _ _
      | exact ih3 _ _ _
      | exact formularylaw07_awake.mono _
      | exact integers_Apply.mono _ _ _ _
      | exact integers_Divided.mono _ _ _
      | exact integers_Wrapped.mono _ _ _ _
      | exact LeO.none _
      | refine LeO.ite ?_ ?_
      | refine LeO.bind ?_ (fun _ => ?_)
theorem formularylaw07_IntegersExact.mono : ∀ a0 a1 k, LeO (formularylaw07_IntegersExact.f k a0 a1) (formularylaw07_IntegersExact.f (k + 1) a0 a1) := by
  intro a0 a1 k
  obtain ⟨ih0, ih1, ih2, ih3⟩ := formularylaw07_IntegersExact.mono_l k
  unfold formularylaw07_IntegersExact.f
  repeat' first
      | (with_reducible exact ih0 _ _ _)
      | (with_reducible exact ih1 _ _)
      | (with_reducible exact ih2 _ _ _)
      | (with_reducible exact ih3 _ _ _)
      | (with_reducible exact formularylaw07_awake.mono _)
      | (with_reducible exact integers_Apply.mono _ _ _ _)
      | (with_reducible exact integers_Divided.mono _ _ _)
      | (with_reducible exact integers_Wrapped.mono _ _ _ _)
      | (with_reducible exact LeO.refl _)
      | (with_reducible exact LeO.none _)
      | (with_reducible refine LeO.ite ?_ ?_)
      | (with_reducible refine LeO.bind ?_ (fun _ => ?_))
      | exact ih0 _ _ _
      | exact ih1 _ _
      | exact ih2 _ _ _
      | exact ih3 _ _ _
      | exact formularylaw07_awake.mono _
      | exact integers_Apply.mono _ _ _ _
      | exact integers_Divided.mono _ _ _
      | exact integers_Wrapped.mono _ _ _ _
      | exact LeO.none _
      | refine LeO.ite ?_ ?_
      | refine LeO.bind ?_ (fun _ => ?_)
set_option maxHeartbeats 8000000 in
set_option maxRecDepth 100000 in
theorem formularylaw07_IntegersExact.calls (k : Nat) (a0 : Int) (a1 : Int) (r : Bool) (w : World) (h : formularylaw07_IntegersExact.f k a0 a1 = some r) :
    Calls Try.prog 7 #[.int .i64 a0, .int .i64 a1] w fun e w' => e = .returned (.bool r) ∧ Below w.heap.size w w' := by
  have hu43 := Try.underlying43
  have HB := Aside0.mk (Below.refl w.heap.size w)
  have H : ((formularylaw07_awake.f k).bind fun t228 => (if t228 = true then ((formularyref07_TwoErr.f a0 a1).bind fun t229 => (if t229 = 0 then ((integers_Apply.f k 0 a0 a1).bind fun bt230 => ((integers_Wrapped.f k 0 a0 a1).bind fun bt232 => (if bt232.2 = 0 then (if a1 ≥ 0 then (if bt232.1 ≥ a0 then (if bt230.2 = 0 then (if bt230.1 = bt232.1 then (formularylaw07_IntegersExact.j0 k a0 a1 false) else (none)) else (none)) else (if bt230.2 = 0 then (none) else (formularylaw07_IntegersExact.j0 k a0 a1 (bt230.2 != 28)))) else (if bt232.1 ≥ a0 then (if bt230.2 = 0 then (none) else (formularylaw07_IntegersExact.j0 k a0 a1 (bt230.2 != 28))) else (if bt230.2 = 0 then (if bt230.1 = bt232.1 then (formularylaw07_IntegersExact.j0 k a0 a1 false) else (none)) else (none)))) else (none)))) else (some true))) else (none))) = some r := h
  clear h
  replace H := Option.bind_eq_some_iff.mp H
  obtain ⟨t228, A30, H⟩ := H
  replace H : (if t228 = true then ((formularyref07_TwoErr.f a0 a1).bind fun t229 => (if t229 = 0 then ((integers_Apply.f k 0 a0 a1).bind fun bt230 => ((integers_Wrapped.f k 0 a0 a1).bind fun bt232 => (if bt232.2 = 0 then (if a1 ≥ 0 then (if bt232.1 ≥ a0 then (if bt230.2 = 0 then (if bt230.1 = bt232.1 then (formularylaw07_IntegersExact.j0 k a0 a1 false) else (none)) else (none)) else (if bt230.2 = 0 then (none) else (formularylaw07_IntegersExact.j0 k a0 a1 (bt230.2 != 28)))) else (if bt232.1 ≥ a0 then (if bt230.2 = 0 then (none) else (formularylaw07_IntegersExact.j0 k a0 a1 (bt230.2 != 28))) else (if bt230.2 = 0 then (if bt230.1 = bt232.1 then (formularylaw07_IntegersExact.j0 k a0 a1 false) else (none)) else (none)))) else (none)))) else (some true))) else (none)) = some r := H
  have A3 := Aside0.mk A30
  clear A30
  by_cases c4 : t228 = true
  · subst c4
    have H1 : ((formularyref07_TwoErr.f a0 a1).bind fun t229 => (if t229 = 0 then ((integers_Apply.f k 0 a0 a1).bind fun bt230 => ((integers_Wrapped.f k 0 a0 a1).bind fun bt232 => (if bt232.2 = 0 then (if a1 ≥ 0 then (if bt232.1 ≥ a0 then (if bt230.2 = 0 then (if bt230.1 = bt232.1 then (formularylaw07_IntegersExact.j0 k a0 a1 false) else (none)) else (none)) else (if bt230.2 = 0 then (none) else (formularylaw07_IntegersExact.j0 k a0 a1 (bt230.2 != 28)))) else (if bt232.1 ≥ a0 then (if bt230.2 = 0 then (none) else (formularylaw07_IntegersExact.j0 k a0 a1 (bt230.2 != 28))) else (if bt230.2 = 0 then (if bt230.1 = bt232.1 then (formularylaw07_IntegersExact.j0 k a0 a1 false) else (none)) else (none)))) else (none)))) else (some true))) = some r := by rw [if_pos rfl] at H; exact H
    clear H
    have H := H1
    clear H1
    replace H := Option.bind_eq_some_iff.mp H
    obtain ⟨t229, A50, H⟩ := H
    replace H : (if t229 = 0 then ((integers_Apply.f k 0 a0 a1).bind fun bt230 => ((integers_Wrapped.f k 0 a0 a1).bind fun bt232 => (if bt232.2 = 0 then (if a1 ≥ 0 then (if bt232.1 ≥ a0 then (if bt230.2 = 0 then (if bt230.1 = bt232.1 then (formularylaw07_IntegersExact.j0 k a0 a1 false) else (none)) else (none)) else (if bt230.2 = 0 then (none) else (formularylaw07_IntegersExact.j0 k a0 a1 (bt230.2 != 28)))) else (if bt232.1 ≥ a0 then (if bt230.2 = 0 then (none) else (formularylaw07_IntegersExact.j0 k a0 a1 (bt230.2 != 28))) else (if bt230.2 = 0 then (if bt230.1 = bt232.1 then (formularylaw07_IntegersExact.j0 k a0 a1 false) else (none)) else (none)))) else (none)))) else (some true)) = some r := H
    have A5 := Aside0.mk A50
    clear A50
    by_cases c6 : t229 = 0
    · rw [if_pos c6] at H
      have c6b0 : (t229 == 0) = true := beq_iff_eq.mpr c6
      have c6b1 : (t229 != 0) = false := bne_eq_false_iff_eq.mpr c6
      clear c6
      replace H := Option.bind_eq_some_iff.mp H
      obtain ⟨⟨t230, t231⟩, A70, H⟩ := H
      replace H : ((integers_Wrapped.f k 0 a0 a1).bind fun bt232 => (if bt232.2 = 0 then (if a1 ≥ 0 then (if bt232.1 ≥ a0 then (if t231 = 0 then (if t230 = bt232.1 then (formularylaw07_IntegersExact.j0 k a0 a1 false) else (none)) else (none)) else (if t231 = 0 then (none) else (formularylaw07_IntegersExact.j0 k a0 a1 (t231 != 28)))) else (if bt232.1 ≥ a0 then (if t231 = 0 then (none) else (formularylaw07_IntegersExact.j0 k a0 a1 (t231 != 28))) else (if t231 = 0 then (if t230 = bt232.1 then (formularylaw07_IntegersExact.j0 k a0 a1 false) else (none)) else (none)))) else (none))) = some r := H
      have A7 := Aside0.mk A70
      clear A70
      replace H := Option.bind_eq_some_iff.mp H
      obtain ⟨⟨t232, t233⟩, A80, H⟩ := H
      replace H : (if t233 = 0 then (if a1 ≥ 0 then (if t232 ≥ a0 then (if t231 = 0 then (if t230 = t232 then (formularylaw07_IntegersExact.j0 k a0 a1 false) else (none)) else (none)) else (if t231 = 0 then (none) else (formularylaw07_IntegersExact.j0 k a0 a1 (t231 != 28)))) else (if t232 ≥ a0 then (if t231 = 0 then (none) else (formularylaw07_IntegersExact.j0 k a0 a1 (t231 != 28))) else (if t231 = 0 then (if t230 = t232 then (formularylaw07_IntegersExact.j0 k a0 a1 false) else (none)) else (none)))) else (none)) = some r := H
      have A8 := Aside0.mk A80
      clear A80
      have HC9 := Aside0.mk H
      clear H
      go_enter Try.func7, Try.ntmps7
      go_upto_region 7 with (first | ((with_reducible refine gate_callee (f := 12) rfl ?_); refine goesL_ (some 27) rfl rfl Try.func12 (by kernel_rfl) rfl #[] rfl (by (try simp only [List.map_toArray, List.map_cons, List.map_nil]); first | done | rfl | (simp only [List.length_drop, List.length_take]; rfl)) ?_; (with_reducible refine (formularylaw07_awake.calls k  true _ A3.out).mono ?_); rintro e w10 ⟨rfl, hb⟩; refine ⟨_, rfl, ?_⟩; have n0_ := Aside0.mk (below_step (by repeat (first | (with_reducible first | exact HB.out | apply below_alloc | apply pw_below_drewN | apply below_drew1) | exact HB.out)) hb); clear HB; have HB := n0_; clear n0_; (try clear hb); (try clear hb2); (try clear hk); (try clear hi)) | ((with_reducible refine gate_callee (f := 25) rfl ?_); refine goesL_ (some 31) rfl rfl Try.func25 (by kernel_rfl) rfl #[.int .i64 a0, .int .i64 a1] rfl (by (try simp only [List.map_toArray, List.map_cons, List.map_nil]); first | done | rfl | (simp only [List.length_drop, List.length_take]; rfl)) ?_; (with_reducible refine (formularyref07_TwoErr.calls a0 a1 t229 _ A5.out).mono ?_); rintro e w' ⟨rfl, ⟨nd, rfl⟩⟩; refine ⟨_, rfl, ?_⟩) | ((with_reducible refine gate_callee (f := 13) rfl ?_); refine goesL_ (some 36) rfl rfl Try.func13 (by kernel_rfl) rfl #[.int .i64 0, .int .i64 a0, .int .i64 a1] rfl (by (try simp only [List.map_toArray, List.map_cons, List.map_nil]); first | done | rfl | (simp only [List.length_drop, List.length_take]; rfl)) ?_; (with_reducible refine (integers_Apply.calls k 0 a0 a1 t230 t231 _ A7.out).mono ?_); rintro e w11 ⟨rfl, hb⟩; refine ⟨_, rfl, ?_⟩; have n0_ := Aside0.mk (below_step (by repeat (first | (with_reducible first | exact HB.out | apply below_alloc | apply pw_below_drewN | apply below_drew1) | exact HB.out)) hb); clear HB; have HB := n0_; clear n0_; (try clear hb); (try clear hb2); (try clear hk); (try clear hi)) | ((with_reducible refine gate_callee (f := 14) rfl ?_); refine goesL_ (some 42) rfl rfl Try.func14 (by kernel_rfl) rfl #[.int .i64 0, .int .i64 a0, .int .i64 a1] rfl (by (try simp only [List.map_toArray, List.map_cons, List.map_nil]); first | done | rfl | (simp only [List.length_drop, List.length_take]; rfl)) ?_; (with_reducible refine (integers_Wrapped.calls k 0 a0 a1 t232 t233 _ A8.out).mono ?_); rintro e w12 ⟨rfl, hb⟩; refine ⟨_, rfl, ?_⟩; have n0_ := Aside0.mk (below_step (by repeat (first | (with_reducible first | exact HB.out | apply below_alloc | apply pw_below_drewN | apply below_drew1) | exact HB.out)) hb); clear HB; have HB := n0_; clear n0_; (try clear hb); (try clear hb2); (try clear hk); (try clear hi)))
      (try simp only [Act.put, List.setIfInBounds_toArray, List.set_cons_zero, List.set_cons_succ])
      go_cut [74] (fun v74 wc => ∃ (kq : Nat) (x74_8 : Bool), v74 = .bool x74_8 ∧ Aside0 (formularylaw07_IntegersExact.j0 kq a0 a1 x74_8 = some r) ∧ Aside0 (kq ≤ k) ∧ Aside0 (Below w.heap.size w wc))
      case first =>
        have H := HC9.out
        clear HC9
        by_cases c13 : t233 = 0
        · rw [if_pos c13] at H
          have c13b0 : (t233 == 0) = true := beq_iff_eq.mpr c13
          have c13b1 : (t233 != 0) = false := bne_eq_false_iff_eq.mpr c13
          clear c13
          (first | rw [c13b0] | (simp only [i64_w, i32_w]; rw [c13b0]) | skip)
          by_cases c14 : a1 ≥ 0
          · rw [if_pos c14] at H
            have c14b0 : decide (0 ≤ a1) = true := decide_eq_true c14
            clear c14
            by_cases c15 : t232 ≥ a0
            · rw [if_pos c15] at H
              have c15b0 : decide (a0 ≤ t232) = true := decide_eq_true c15
              clear c15
              by_cases c16 : t231 = 0
              · rw [if_pos c16] at H
                have c16b0 : (t231 == 0) = true := beq_iff_eq.mpr c16
                have c16b1 : (t231 != 0) = false := bne_eq_false_iff_eq.mpr c16
                clear c16
                by_cases c17 : t230 = t232
                · rw [if_pos c17] at H
                  have c17b0 : (t230 == t232) = true := beq_iff_eq.mpr c17
                  have c17b1 : (t230 != t232) = false := bne_eq_false_iff_eq.mpr c17
                  clear c17
                  as_aux_lemma =>
                    have H' := Aside0.mk H
                    clear H
                    go_wp2
                    go_meet
                    case rel => exact ⟨_, (false), (by first | rfl | (simp; done) | (simp [*]; done)), H', ⟨by first | omega | exact Nat.le_refl _⟩, ⟨by repeat (first | (with_reducible first | exact HB.out | apply below_alloc | apply pw_below_drewN | apply below_drew1) | exact HB.out)⟩⟩
                · rw [if_neg c17] at H
                  exact absurd H (by simp)
              · rw [if_neg c16] at H
                exact absurd H (by simp)
            · rw [if_neg c15] at H
              have c15b0 : decide (a0 ≤ t232) = false := decide_eq_false c15
              clear c15
              by_cases c18 : t231 = 0
              · rw [if_pos c18] at H
                exact absurd H (by simp)
              · rw [if_neg c18] at H
                have c18b0 : (t231 == 0) = false := beq_eq_false_iff_ne.mpr c18
                have c18b1 : (t231 != 0) = true := bne_iff_ne.mpr c18
                as_aux_lemma =>
                  have H' := Aside0.mk H
                  clear H
                  go_wp2
                  go_meet
                  case rel => exact ⟨_, ((t231 != 28)), (by first | rfl | (simp; done) | (simp [*]; done)), H', ⟨by first | omega | exact Nat.le_refl _⟩, ⟨by repeat (first | (with_reducible first | exact HB.out | apply below_alloc | apply pw_below_drewN | apply below_drew1) | exact HB.out)⟩⟩
          · rw [if_neg c14] at H
            have c14b0 : decide (0 ≤ a1) = false := decide_eq_false c14
            clear c14
            by_cases c19 : t232 ≥ a0
            · rw [if_pos c19] at H
              have c19b0 : decide (a0 ≤ t232) = true := decide_eq_true c19
              clear c19
              by_cases c20 : t231 = 0
              · rw [if_pos c20] at H
                exact absurd H (by simp)
              · rw [if_neg c20] at H
                have c20b0 : (t231 == 0) = false := beq_eq_false_iff_ne.mpr c20
                have c20b1 : (t231 != 0) = true := bne_iff_ne.mpr c20
                as_aux_lemma =>
                  have H' := Aside0.mk H
                  clear H
                  go_wp2
                  go_meet
                  case rel => exact ⟨_, ((t231 != 28)), (by first | rfl | (simp; done) | (simp [*]; done)), H', ⟨by first | omega | exact Nat.le_refl _⟩, ⟨by repeat (first | (with_reducible first | exact HB.out | apply below_alloc | apply pw_below_drewN | apply below_drew1) | exact HB.out)⟩⟩
            · rw [if_neg c19] at H
              have c19b0 : decide (a0 ≤ t232) = false := decide_eq_false c19
              clear c19
              by_cases c21 : t231 = 0
              · rw [if_pos c21] at H
                have c21b0 : (t231 == 0) = true := beq_iff_eq.mpr c21
                have c21b1 : (t231 != 0) = false := bne_eq_false_iff_eq.mpr c21
                clear c21
                by_cases c22 : t230 = t232
                · rw [if_pos c22] at H
                  have c22b0 : (t230 == t232) = true := beq_iff_eq.mpr c22
                  have c22b1 : (t230 != t232) = false := bne_eq_false_iff_eq.mpr c22
                  clear c22
                  as_aux_lemma =>
                    have H' := Aside0.mk H
                    clear H
                    go_wp2
                    go_meet
                    case rel => exact ⟨_, (false), (by first | rfl | (simp; done) | (simp [*]; done)), H', ⟨by first | omega | exact Nat.le_refl _⟩, ⟨by repeat (first | (with_reducible first | exact HB.out | apply below_alloc | apply pw_below_drewN | apply below_drew1) | exact HB.out)⟩⟩
                · rw [if_neg c22] at H
                  exact absurd H (by simp)
              · rw [if_neg c21] at H
                exact absurd H (by simp)
        · rw [if_neg c13] at H
          exact absurd H (by simp)
      case rest =>
        clear HC9
        try clear c1
        try clear c2
        try clear p2
        try clear c4
        try clear c6
        try clear c6b0
        try clear c6b1
        try clear c7
        try clear c12
        try clear c13
        try clear c13b0
        try clear c13b1
        try clear c14
        try clear c14b0
        try clear c15
        try clear c15b0
        try clear c16
        try clear c16b0
        try clear c16b1
        try clear c17
        try clear c17b0
        try clear c17b1
        try clear c18
        try clear c18b0
        try clear c18b1
        try clear c19
        try clear c19b0
        try clear c20
        try clear c20b0
        try clear c20b1
        try clear c21
        try clear c21b0
        try clear c21b1
        try clear c22
        try clear c22b0
        try clear c22b1
        obtain ⟨kq, x74_8, rfl, HA, HJ8, HB⟩ := hcut
        cases kq with
        | zero => exact absurd HA.out (by simp [formularylaw07_IntegersExact.j0])
        | succ kj8 =>
          have H := HA.out
          clear HA
          simp only [formularylaw07_IntegersExact.j0] at H
          by_cases c23 : x74_8 = true
          · subst c23
            have H1 : (none) = some r := by rw [if_pos rfl] at H; exact H
            clear H
            have H := H1
            clear H1
            exact absurd H (by simp)
          · replace c23 := Bool.eq_false_iff.mpr c23
            subst c23
            have H1 : ((integers_Divided.f kj8 a0 a1).bind fun bt234 => (if bt234.2.2 = 0 then ((integers_Apply.f kj8 2 bt234.1 a1).bind fun bt238 => ((integers_Apply.f kj8 0 bt238.1 bt234.2.1).bind fun bt240 => (if bt238.2 = 0 then (if bt240.2 = 0 then (if bt240.1 = a0 then ((formularybase_Size.f bt234.2.1).bind fun t242 => ((formularybase_Size.f a1).bind fun t243 => (if t242 ≥ t243 then (none) else (if bt234.2.1 = 0 then (formularylaw07_IntegersExact.j1 kj8 a0 a1) else (if bt234.2.1 < 0 then (if a0 < 0 then (formularylaw07_IntegersExact.j1 kj8 a0 a1) else (none)) else (if a0 < 0 then (none) else (formularylaw07_IntegersExact.j1 kj8 a0 a1))))))) else (none)) else (none)) else (none)))) else (if a1 = 0 then (formularylaw07_IntegersExact.j1 kj8 a0 a1) else (if a0 = (-2147483648) then (if a1 = (-1) then (formularylaw07_IntegersExact.j1 kj8 a0 a1) else (none)) else (none))))) = some r := by rw [if_neg (show ¬ (false = true) by decide)] at H; exact H
            clear H
            have H := H1
            clear H1
            replace H := Option.bind_eq_some_iff.mp H
            obtain ⟨⟨t234, t235, t236⟩, A240, H⟩ := H
            replace H : (if t236 = 0 then ((integers_Apply.f kj8 2 t234 a1).bind fun bt238 => ((integers_Apply.f kj8 0 bt238.1 t235).bind fun bt240 => (if bt238.2 = 0 then (if bt240.2 = 0 then (if bt240.1 = a0 then ((formularybase_Size.f t235).bind fun t242 => ((formularybase_Size.f a1).bind fun t243 => (if t242 ≥ t243 then (none) else (if t235 = 0 then (formularylaw07_IntegersExact.j1 kj8 a0 a1) else (if t235 < 0 then (if a0 < 0 then (formularylaw07_IntegersExact.j1 kj8 a0 a1) else (none)) else (if a0 < 0 then (none) else (formularylaw07_IntegersExact.j1 kj8 a0 a1))))))) else (none)) else (none)) else (none)))) else (if a1 = 0 then (formularylaw07_IntegersExact.j1 kj8 a0 a1) else (if a0 = (-2147483648) then (if a1 = (-1) then (formularylaw07_IntegersExact.j1 kj8 a0 a1) else (none)) else (none)))) = some r := H
            have A24 := Aside0.mk A240
            clear A240
            have HC25 := Aside0.mk H
            clear H
            go_upto_if 82 with (first | ((with_reducible refine gate_callee (f := 26) rfl ?_); refine goesL_ (some 78) rfl rfl Try.func26 (by kernel_rfl) rfl #[.int .i64 a0, .int .i64 a1] rfl (by (try simp only [List.map_toArray, List.map_cons, List.map_nil]); first | done | rfl | (simp only [List.length_drop, List.length_take]; rfl)) ?_; (with_reducible refine (integers_Divided.calls kj8 a0 a1 t234 t235 t236 _ A24.out).mono ?_); rintro e w26 ⟨rfl, hb⟩; refine ⟨_, rfl, ?_⟩; have n0_ := Aside0.mk (below_step (by repeat (first | (with_reducible first | exact HB.out | apply below_alloc | apply pw_below_drewN | apply below_drew1) | exact HB.out)) hb); clear HB; have HB := n0_; clear n0_; (try clear hb); (try clear hb2); (try clear hk); (try clear hi)) | ((with_reducible refine gate_dst (N := 9) rfl ?_); refine box_event ?hg (N := 9) ?hd (cs := #[.int .i64 0, .int .i64 0]) (t := 43) ?hr ?_; (case hd => rfl); (case hg => rfl); (case hr => first | (go_simp; done) | (go_simp; rfl)); intro gb237 hg w27 hbox hb; have n0_ := Aside0.mk (below_step (by repeat (first | (with_reducible first | exact HB.out | apply below_alloc | apply pw_below_drewN | apply below_drew1) | exact HB.out)) hb); have n1_ := Aside0.mk (hbox); have n2_ := Aside0.mk ((by rw [hg]; exact (below_size (by repeat (first | (with_reducible first | exact HB.out | apply below_alloc | apply pw_below_drewN | apply below_drew1) | exact HB.out))) : w.heap.size ≤ gb237)); have n3_ := Aside0.mk ((by rw [hg]; exact (below_size (by repeat (first | (with_reducible first | exact HB.out | apply below_alloc | apply pw_below_drewN | apply below_drew1) | exact HB.out))) : w.heap.size ≤ gb237)); clear HB; have HB := n0_; have BK237 := n1_; have GW237 := n2_; have GE237 := n3_; clear n0_ n1_ n2_ n3_; clear hb hbox hg; have hcz28_0 : w27.cell? ⟨gb237, 0, none⟩ = some (.int .i64 0) := (blk_cell BK237.out 0).trans rfl; have hcz28_1 : w27.cell? ⟨gb237, 1, none⟩ = some (.int .i64 0) := (blk_cell BK237.out 1).trans rfl; have hfz28_0 := blk_frozen BK237.out 0; have hfz28_1 := blk_frozen BK237.out 1))
            (try simp only [Act.put, List.setIfInBounds_toArray, List.set_cons_zero, List.set_cons_succ])
            go_cut [] (fun wc => ∃ (kq : Nat), Aside0 (formularylaw07_IntegersExact.j1 kq a0 a1 = some r) ∧ Aside0 (kq ≤ kj8) ∧ Aside0 (wc.heap[gb237]? = some (.cells #[.int .i64 t234, .int .i64 t235] 43 (0, 0))) ∧ Aside0 (Below w.heap.size w wc))
            case first =>
              have H := HC25.out
              clear HC25
              by_cases c29 : t236 = 0
              · rw [if_pos c29] at H
                have c29b0 : (t236 == 0) = true := beq_iff_eq.mpr c29
                have c29b1 : (t236 != 0) = false := bne_eq_false_iff_eq.mpr c29
                clear c29
                (first | rw [c29b0] | (simp only [i64_w, i32_w]; rw [c29b0]) | skip)
                replace H := Option.bind_eq_some_iff.mp H
                obtain ⟨⟨t238, t239⟩, A300, H⟩ := H
                replace H : ((integers_Apply.f kj8 0 t238 t235).bind fun bt240 => (if t239 = 0 then (if bt240.2 = 0 then (if bt240.1 = a0 then ((formularybase_Size.f t235).bind fun t242 => ((formularybase_Size.f a1).bind fun t243 => (if t242 ≥ t243 then (none) else (if t235 = 0 then (formularylaw07_IntegersExact.j1 kj8 a0 a1) else (if t235 < 0 then (if a0 < 0 then (formularylaw07_IntegersExact.j1 kj8 a0 a1) else (none)) else (if a0 < 0 then (none) else (formularylaw07_IntegersExact.j1 kj8 a0 a1))))))) else (none)) else (none)) else (none))) = some r := H
                have A30 := Aside0.mk A300
                clear A300
                replace H := Option.bind_eq_some_iff.mp H
                obtain ⟨⟨t240, t241⟩, A310, H⟩ := H
                replace H : (if t239 = 0 then (if t241 = 0 then (if t240 = a0 then ((formularybase_Size.f t235).bind fun t242 => ((formularybase_Size.f a1).bind fun t243 => (if t242 ≥ t243 then (none) else (if t235 = 0 then (formularylaw07_IntegersExact.j1 kj8 a0 a1) else (if t235 < 0 then (if a0 < 0 then (formularylaw07_IntegersExact.j1 kj8 a0 a1) else (none)) else (if a0 < 0 then (none) else (formularylaw07_IntegersExact.j1 kj8 a0 a1))))))) else (none)) else (none)) else (none)) = some r := H
                have A31 := Aside0.mk A310
                clear A310
                by_cases c32 : t239 = 0
                · rw [if_pos c32] at H
                  have c32b0 : (t239 == 0) = true := beq_iff_eq.mpr c32
                  have c32b1 : (t239 != 0) = false := bne_eq_false_iff_eq.mpr c32
                  clear c32
                  by_cases c33 : t241 = 0
                  · rw [if_pos c33] at H
                    have c33b0 : (t241 == 0) = true := beq_iff_eq.mpr c33
                    have c33b1 : (t241 != 0) = false := bne_eq_false_iff_eq.mpr c33
                    clear c33
                    by_cases c34 : t240 = a0
                    · rw [if_pos c34] at H
                      have c34b0 : (t240 == a0) = true := beq_iff_eq.mpr c34
                      have c34b1 : (t240 != a0) = false := bne_eq_false_iff_eq.mpr c34
                      clear c34
                      replace H := Option.bind_eq_some_iff.mp H
                      obtain ⟨t242, A350, H⟩ := H
                      replace H : ((formularybase_Size.f a1).bind fun t243 => (if t242 ≥ t243 then (none) else (if t235 = 0 then (formularylaw07_IntegersExact.j1 kj8 a0 a1) else (if t235 < 0 then (if a0 < 0 then (formularylaw07_IntegersExact.j1 kj8 a0 a1) else (none)) else (if a0 < 0 then (none) else (formularylaw07_IntegersExact.j1 kj8 a0 a1)))))) = some r := H
                      have A35 := Aside0.mk A350
                      clear A350
                      replace H := Option.bind_eq_some_iff.mp H
                      obtain ⟨t243, A360, H⟩ := H
                      replace H : (if t242 ≥ t243 then (none) else (if t235 = 0 then (formularylaw07_IntegersExact.j1 kj8 a0 a1) else (if t235 < 0 then (if a0 < 0 then (formularylaw07_IntegersExact.j1 kj8 a0 a1) else (none)) else (if a0 < 0 then (none) else (formularylaw07_IntegersExact.j1 kj8 a0 a1))))) = some r := H
                      have A36 := Aside0.mk A360
                      clear A360
                      by_cases c37 : t242 ≥ t243
                      · rw [if_pos c37] at H
                        exact absurd H (by simp)
                      · rw [if_neg c37] at H
                        have c37b0 : decide (t243 ≤ t242) = false := decide_eq_false c37
                        clear c37
                        by_cases c38 : t235 = 0
                        · rw [if_pos c38] at H
                          have c38b0 : (t235 == 0) = true := beq_iff_eq.mpr c38
                          have c38b1 : (t235 != 0) = false := bne_eq_false_iff_eq.mpr c38
                          clear c38
                          as_aux_lemma =>
                            have H' := Aside0.mk H
                            clear H
                            have hcz39_0 : w27.cell? ⟨gb237, 0, none⟩ = some (.int .i64 0) := (blk_cell BK237.out 0).trans rfl
                            have hcz39_1 : w27.cell? ⟨gb237, 1, none⟩ = some (.int .i64 0) := (blk_cell BK237.out 1).trans rfl
                            have hfz39_0 := blk_frozen BK237.out 0
                            have hfz39_1 := blk_frozen BK237.out 1
                            go_wp2_with (first | ((with_reducible refine gate_callee (f := 13) rfl ?_); refine goesL_ (some 87) rfl rfl Try.func13 (by kernel_rfl) rfl #[.int .i64 2, .int .i64 t234, .int .i64 a1] rfl (by (try simp only [List.map_toArray, List.map_cons, List.map_nil]); first | done | rfl | (simp only [List.length_drop, List.length_take]; rfl)) ?_; (with_reducible refine (integers_Apply.calls kj8 2 t234 a1 t238 t239 _ A30.out).mono ?_); rintro e w40 ⟨rfl, hb⟩; refine ⟨_, rfl, ?_⟩; have n0_ := Aside0.mk (blk_below (g := gb237) (o := .cells #[.int .i64 t234, .int .i64 t235] 43 (0, 0)) (by (with_reducible repeat (first | refine blk_drewN ?_ _ | refine blk_drew ?_ | refine blk_alloc ?_ _)); refine blk_put (cs := #[.int .i64 t234, .int .i64 0]) ?_ 1 _ rfl; (with_reducible repeat (first | refine blk_drewN ?_ _ | refine blk_drew ?_ | refine blk_alloc ?_ _)); refine blk_put (cs := #[.int .i64 0, .int .i64 0]) ?_ 0 _ rfl; (with_reducible repeat (first | refine blk_drewN ?_ _ | refine blk_drew ?_ | refine blk_alloc ?_ _)); exact BK237.out) hb); have n1_ := Aside0.mk (below_step (by repeat (first | (with_reducible first | exact HB.out | apply below_alloc | apply pw_below_drewN | apply below_drew1 | refine below_set ?_ GE237.out) | exact HB.out)) hb); clear BK237; clear HB; have BK237 := n0_; have HB := n1_; clear n0_ n1_; (try clear hb); (try clear hb2); (try clear hk); (try clear hi); have hcz41_0 : w40.cell? ⟨gb237, 0, none⟩ = some (.int .i64 t234) := (blk_cell BK237.out 0).trans rfl; have hcz41_1 : w40.cell? ⟨gb237, 1, none⟩ = some (.int .i64 t235) := (blk_cell BK237.out 1).trans rfl; have hfz41_0 := blk_frozen BK237.out 0; have hfz41_1 := blk_frozen BK237.out 1) | ((with_reducible refine gate_callee (f := 13) rfl ?_); refine goesL_ (some 94) rfl rfl Try.func13 (by kernel_rfl) rfl #[.int .i64 0, .int .i64 t238, .int .i64 t235] rfl (by (try simp only [List.map_toArray, List.map_cons, List.map_nil]); first | done | rfl | (simp only [List.length_drop, List.length_take]; rfl)) ?_; (with_reducible refine (integers_Apply.calls kj8 0 t238 t235 t240 t241 _ A31.out).mono ?_); rintro e w42 ⟨rfl, hb⟩; refine ⟨_, rfl, ?_⟩; have n0_ := Aside0.mk (blk_below (g := gb237) (o := .cells #[.int .i64 t234, .int .i64 t235] 43 (0, 0)) (by (with_reducible repeat (first | refine blk_drewN ?_ _ | refine blk_drew ?_ | refine blk_alloc ?_ _)); exact BK237.out) hb); have n1_ := Aside0.mk (below_step (by repeat (first | (with_reducible first | exact HB.out | apply below_alloc | apply pw_below_drewN | apply below_drew1 | refine below_set ?_ GE237.out) | exact HB.out)) hb); clear BK237; clear HB; have BK237 := n0_; have HB := n1_; clear n0_ n1_; (try clear hb); (try clear hb2); (try clear hk); (try clear hi); have hcz43_0 : w42.cell? ⟨gb237, 0, none⟩ = some (.int .i64 t234) := (blk_cell BK237.out 0).trans rfl; have hcz43_1 : w42.cell? ⟨gb237, 1, none⟩ = some (.int .i64 t235) := (blk_cell BK237.out 1).trans rfl; have hfz43_0 := blk_frozen BK237.out 0; have hfz43_1 := blk_frozen BK237.out 1) | (go_at_call 27; (with_reducible refine (formularybase_Size.calls t235 t242 _ A35.out).mono ?_); rintro e w' ⟨rfl, ⟨nd, rfl⟩⟩) | (go_at_call 27; (with_reducible refine (formularybase_Size.calls a1 t243 _ A36.out).mono ?_); rintro e w' ⟨rfl, ⟨nd, rfl⟩⟩))
                            go_meet
                            case rel => exact ⟨_, H', ⟨by have := HJ8.out; first | omega | exact Nat.le_refl _⟩, ⟨by (with_reducible repeat (first | refine blk_drewN ?_ _ | refine blk_drew ?_ | refine blk_alloc ?_ _)); exact BK237.out⟩, ⟨by repeat (first | (with_reducible first | exact HB.out | apply below_alloc | apply pw_below_drewN | apply below_drew1 | refine below_set ?_ GE237.out) | exact HB.out)⟩⟩
                        · rw [if_neg c38] at H
                          have c38b0 : (t235 == 0) = false := beq_eq_false_iff_ne.mpr c38
                          have c38b1 : (t235 != 0) = true := bne_iff_ne.mpr c38
                          by_cases c44 : t235 < 0
                          · rw [if_pos c44] at H
                            have c44b0 : decide (t235 < 0) = true := decide_eq_true c44
                            clear c44
                            by_cases c45 : a0 < 0
                            · rw [if_pos c45] at H
                              have c45b0 : decide (a0 < 0) = true := decide_eq_true c45
                              clear c45
                              as_aux_lemma =>
                                have H' := Aside0.mk H
                                clear H
                                have hcz46_0 : w27.cell? ⟨gb237, 0, none⟩ = some (.int .i64 0) := (blk_cell BK237.out 0).trans rfl
                                have hcz46_1 : w27.cell? ⟨gb237, 1, none⟩ = some (.int .i64 0) := (blk_cell BK237.out 1).trans rfl
                                have hfz46_0 := blk_frozen BK237.out 0
                                have hfz46_1 := blk_frozen BK237.out 1
                                go_wp2_with (first | ((with_reducible refine gate_callee (f := 13) rfl ?_); refine goesL_ (some 87) rfl rfl Try.func13 (by kernel_rfl) rfl #[.int .i64 2, .int .i64 t234, .int .i64 a1] rfl (by (try simp only [List.map_toArray, List.map_cons, List.map_nil]); first | done | rfl | (simp only [List.length_drop, List.length_take]; rfl)) ?_; (with_reducible refine (integers_Apply.calls kj8 2 t234 a1 t238 t239 _ A30.out).mono ?_); rintro e w47 ⟨rfl, hb⟩; refine ⟨_, rfl, ?_⟩; have n0_ := Aside0.mk (blk_below (g := gb237) (o := .cells #[.int .i64 t234, .int .i64 t235] 43 (0, 0)) (by (with_reducible repeat (first | refine blk_drewN ?_ _ | refine blk_drew ?_ | refine blk_alloc ?_ _)); refine blk_put (cs := #[.int .i64 t234, .int .i64 0]) ?_ 1 _ rfl; (with_reducible repeat (first | refine blk_drewN ?_ _ | refine blk_drew ?_ | refine blk_alloc ?_ _)); refine blk_put (cs := #[.int .i64 0, .int .i64 0]) ?_ 0 _ rfl; (with_reducible repeat (first | refine blk_drewN ?_ _ | refine blk_drew ?_ | refine blk_alloc ?_ _)); exact BK237.out) hb); have n1_ := Aside0.mk (below_step (by repeat (first | (with_reducible first | exact HB.out | apply below_alloc | apply pw_below_drewN | apply below_drew1 | refine below_set ?_ GE237.out) | exact HB.out)) hb); clear BK237; clear HB; have BK237 := n0_; have HB := n1_; clear n0_ n1_; (try clear hb); (try clear hb2); (try clear hk); (try clear hi); have hcz48_0 : w47.cell? ⟨gb237, 0, none⟩ = some (.int .i64 t234) := (blk_cell BK237.out 0).trans rfl; have hcz48_1 : w47.cell? ⟨gb237, 1, none⟩ = some (.int .i64 t235) := (blk_cell BK237.out 1).trans rfl; have hfz48_0 := blk_frozen BK237.out 0; have hfz48_1 := blk_frozen BK237.out 1) | ((with_reducible refine gate_callee (f := 13) rfl ?_); refine goesL_ (some 94) rfl rfl Try.func13 (by kernel_rfl) rfl #[.int .i64 0, .int .i64 t238, .int .i64 t235] rfl (by (try simp only [List.map_toArray, List.map_cons, List.map_nil]); first | done | rfl | (simp only [List.length_drop, List.length_take]; rfl)) ?_; (with_reducible refine (integers_Apply.calls kj8 0 t238 t235 t240 t241 _ A31.out).mono ?_); rintro e w49 ⟨rfl, hb⟩; refine ⟨_, rfl, ?_⟩; have n0_ := Aside0.mk (blk_below (g := gb237) (o := .cells #[.int .i64 t234, .int .i64 t235] 43 (0, 0)) (by (with_reducible repeat (first | refine blk_drewN ?_ _ | refine blk_drew ?_ | refine blk_alloc ?_ _)); exact BK237.out) hb); have n1_ := Aside0.mk (below_step (by repeat (first | (with_reducible first | exact HB.out | apply below_alloc | apply pw_below_drewN | apply below_drew1 | refine below_set ?_ GE237.out) | exact HB.out)) hb); clear BK237; clear HB; have BK237 := n0_; have HB := n1_; clear n0_ n1_; (try clear hb); (try clear hb2); (try clear hk); (try clear hi); have hcz50_0 : w49.cell? ⟨gb237, 0, none⟩ = some (.int .i64 t234) := (blk_cell BK237.out 0).trans rfl; have hcz50_1 : w49.cell? ⟨gb237, 1, none⟩ = some (.int .i64 t235) := (blk_cell BK237.out 1).trans rfl; have hfz50_0 := blk_frozen BK237.out 0; have hfz50_1 := blk_frozen BK237.out 1) | (go_at_call 27; (with_reducible refine (formularybase_Size.calls t235 t242 _ A35.out).mono ?_); rintro e w' ⟨rfl, ⟨nd, rfl⟩⟩) | (go_at_call 27; (with_reducible refine (formularybase_Size.calls a1 t243 _ A36.out).mono ?_); rintro e w' ⟨rfl, ⟨nd, rfl⟩⟩))
                                go_meet
                                case rel => exact ⟨_, H', ⟨by have := HJ8.out; first | omega | exact Nat.le_refl _⟩, ⟨by (with_reducible repeat (first | refine blk_drewN ?_ _ | refine blk_drew ?_ | refine blk_alloc ?_ _)); exact BK237.out⟩, ⟨by repeat (first | (with_reducible first | exact HB.out | apply below_alloc | apply pw_below_drewN | apply below_drew1 | refine below_set ?_ GE237.out) | exact HB.out)⟩⟩
                            · rw [if_neg c45] at H
                              exact absurd H (by simp)
                          · rw [if_neg c44] at H
                            have c44b0 : decide (t235 < 0) = false := decide_eq_false c44
                            clear c44
                            by_cases c51 : a0 < 0
                            · rw [if_pos c51] at H
                              exact absurd H (by simp)
                            · rw [if_neg c51] at H
                              have c51b0 : decide (a0 < 0) = false := decide_eq_false c51
                              clear c51
                              as_aux_lemma =>
                                have H' := Aside0.mk H
                                clear H
                                have hcz52_0 : w27.cell? ⟨gb237, 0, none⟩ = some (.int .i64 0) := (blk_cell BK237.out 0).trans rfl
                                have hcz52_1 : w27.cell? ⟨gb237, 1, none⟩ = some (.int .i64 0) := (blk_cell BK237.out 1).trans rfl
                                have hfz52_0 := blk_frozen BK237.out 0
                                have hfz52_1 := blk_frozen BK237.out 1
                                go_wp2_with (first | ((with_reducible refine gate_callee (f := 13) rfl ?_); refine goesL_ (some 87) rfl rfl Try.func13 (by kernel_rfl) rfl #[.int .i64 2, .int .i64 t234, .int .i64 a1] rfl (by (try simp only [List.map_toArray, List.map_cons, List.map_nil]); first | done | rfl | (simp only [List.length_drop, List.length_take]; rfl)) ?_; (with_reducible refine (integers_Apply.calls kj8 2 t234 a1 t238 t239 _ A30.out).mono ?_); rintro e w53 ⟨rfl, hb⟩; refine ⟨_, rfl, ?_⟩; have n0_ := Aside0.mk (blk_below (g := gb237) (o := .cells #[.int .i64 t234, .int .i64 t235] 43 (0, 0)) (by (with_reducible repeat (first | refine blk_drewN ?_ _ | refine blk_drew ?_ | refine blk_alloc ?_ _)); refine blk_put (cs := #[.int .i64 t234, .int .i64 0]) ?_ 1 _ rfl; (with_reducible repeat (first | refine blk_drewN ?_ _ | refine blk_drew ?_ | refine blk_alloc ?_ _)); refine blk_put (cs := #[.int .i64 0, .int .i64 0]) ?_ 0 _ rfl; (with_reducible repeat (first | refine blk_drewN ?_ _ | refine blk_drew ?_ | refine blk_alloc ?_ _)); exact BK237.out) hb); have n1_ := Aside0.mk (below_step (by repeat (first | (with_reducible first | exact HB.out | apply below_alloc | apply pw_below_drewN | apply below_drew1 | refine below_set ?_ GE237.out) | exact HB.out)) hb); clear BK237; clear HB; have BK237 := n0_; have HB := n1_; clear n0_ n1_; (try clear hb); (try clear hb2); (try clear hk); (try clear hi); have hcz54_0 : w53.cell? ⟨gb237, 0, none⟩ = some (.int .i64 t234) := (blk_cell BK237.out 0).trans rfl; have hcz54_1 : w53.cell? ⟨gb237, 1, none⟩ = some (.int .i64 t235) := (blk_cell BK237.out 1).trans rfl; have hfz54_0 := blk_frozen BK237.out 0; have hfz54_1 := blk_frozen BK237.out 1) | ((with_reducible refine gate_callee (f := 13) rfl ?_); refine goesL_ (some 94) rfl rfl Try.func13 (by kernel_rfl) rfl #[.int .i64 0, .int .i64 t238, .int .i64 t235] rfl (by (try simp only [List.map_toArray, List.map_cons, List.map_nil]); first | done | rfl | (simp only [List.length_drop, List.length_take]; rfl)) ?_; (with_reducible refine (integers_Apply.calls kj8 0 t238 t235 t240 t241 _ A31.out).mono ?_); rintro e w55 ⟨rfl, hb⟩; refine ⟨_, rfl, ?_⟩; have n0_ := Aside0.mk (blk_below (g := gb237) (o := .cells #[.int .i64 t234, .int .i64 t235] 43 (0, 0)) (by (with_reducible repeat (first | refine blk_drewN ?_ _ | refine blk_drew ?_ | refine blk_alloc ?_ _)); exact BK237.out) hb); have n1_ := Aside0.mk (below_step (by repeat (first | (with_reducible first | exact HB.out | apply below_alloc | apply pw_below_drewN | apply below_drew1 | refine below_set ?_ GE237.out) | exact HB.out)) hb); clear BK237; clear HB; have BK237 := n0_; have HB := n1_; clear n0_ n1_; (try clear hb); (try clear hb2); (try clear hk); (try clear hi); have hcz56_0 : w55.cell? ⟨gb237, 0, none⟩ = some (.int .i64 t234) := (blk_cell BK237.out 0).trans rfl; have hcz56_1 : w55.cell? ⟨gb237, 1, none⟩ = some (.int .i64 t235) := (blk_cell BK237.out 1).trans rfl; have hfz56_0 := blk_frozen BK237.out 0; have hfz56_1 := blk_frozen BK237.out 1) | (go_at_call 27; (with_reducible refine (formularybase_Size.calls t235 t242 _ A35.out).mono ?_); rintro e w' ⟨rfl, ⟨nd, rfl⟩⟩) | (go_at_call 27; (with_reducible refine (formularybase_Size.calls a1 t243 _ A36.out).mono ?_); rintro e w' ⟨rfl, ⟨nd, rfl⟩⟩))
                                go_meet
                                case rel => exact ⟨_, H', ⟨by have := HJ8.out; first | omega | exact Nat.le_refl _⟩, ⟨by (with_reducible repeat (first | refine blk_drewN ?_ _ | refine blk_drew ?_ | refine blk_alloc ?_ _)); exact BK237.out⟩, ⟨by repeat (first | (with_reducible first | exact HB.out | apply below_alloc | apply pw_below_drewN | apply below_drew1 | refine below_set ?_ GE237.out) | exact HB.out)⟩⟩
                    · rw [if_neg c34] at H
                      exact absurd H (by simp)
                  · rw [if_neg c33] at H
                    exact absurd H (by simp)
                · rw [if_neg c32] at H
                  exact absurd H (by simp)
              · rw [if_neg c29] at H
                have c29b0 : (t236 == 0) = false := beq_eq_false_iff_ne.mpr c29
                have c29b1 : (t236 != 0) = true := bne_iff_ne.mpr c29
                (first | rw [c29b0] | (simp only [i64_w, i32_w]; rw [c29b0]) | skip)
                by_cases c57 : a1 = 0
                · rw [if_pos c57] at H
                  have c57b0 : (a1 == 0) = true := beq_iff_eq.mpr c57
                  have c57b1 : (a1 != 0) = false := bne_eq_false_iff_eq.mpr c57
                  clear c57
                  as_aux_lemma =>
                    have H' := Aside0.mk H
                    clear H
                    go_wp2
                    go_meet
                    case rel => exact ⟨_, H', ⟨by have := HJ8.out; first | omega | exact Nat.le_refl _⟩, ⟨by (with_reducible repeat (first | refine blk_drewN ?_ _ | refine blk_drew ?_ | refine blk_alloc ?_ _)); refine blk_put (cs := #[.int .i64 t234, .int .i64 0]) ?_ 1 _ rfl; (with_reducible repeat (first | refine blk_drewN ?_ _ | refine blk_drew ?_ | refine blk_alloc ?_ _)); refine blk_put (cs := #[.int .i64 0, .int .i64 0]) ?_ 0 _ rfl; (with_reducible repeat (first | refine blk_drewN ?_ _ | refine blk_drew ?_ | refine blk_alloc ?_ _)); exact BK237.out⟩, ⟨by repeat (first | (with_reducible first | exact HB.out | apply below_alloc | apply pw_below_drewN | apply below_drew1 | refine below_set ?_ GE237.out) | exact HB.out)⟩⟩
                · rw [if_neg c57] at H
                  have c57b0 : (a1 == 0) = false := beq_eq_false_iff_ne.mpr c57
                  have c57b1 : (a1 != 0) = true := bne_iff_ne.mpr c57
                  by_cases c58 : a0 = (-2147483648)
                  · rw [if_pos c58] at H
                    have c58b0 : (a0 == (-2147483648)) = true := beq_iff_eq.mpr c58
                    have c58b1 : (a0 != (-2147483648)) = false := bne_eq_false_iff_eq.mpr c58
                    clear c58
                    by_cases c59 : a1 = (-1)
                    · rw [if_pos c59] at H
                      have c59b0 : (a1 == (-1)) = true := beq_iff_eq.mpr c59
                      have c59b1 : (a1 != (-1)) = false := bne_eq_false_iff_eq.mpr c59
                      clear c59
                      as_aux_lemma =>
                        have H' := Aside0.mk H
                        clear H
                        go_wp2
                        go_meet
                        case rel => exact ⟨_, H', ⟨by have := HJ8.out; first | omega | exact Nat.le_refl _⟩, ⟨by (with_reducible repeat (first | refine blk_drewN ?_ _ | refine blk_drew ?_ | refine blk_alloc ?_ _)); refine blk_put (cs := #[.int .i64 t234, .int .i64 0]) ?_ 1 _ rfl; (with_reducible repeat (first | refine blk_drewN ?_ _ | refine blk_drew ?_ | refine blk_alloc ?_ _)); refine blk_put (cs := #[.int .i64 0, .int .i64 0]) ?_ 0 _ rfl; (with_reducible repeat (first | refine blk_drewN ?_ _ | refine blk_drew ?_ | refine blk_alloc ?_ _)); exact BK237.out⟩, ⟨by repeat (first | (with_reducible first | exact HB.out | apply below_alloc | apply pw_below_drewN | apply below_drew1 | refine below_set ?_ GE237.out) | exact HB.out)⟩⟩
                    · rw [if_neg c59] at H
                      exact absurd H (by simp)
                  · rw [if_neg c58] at H
                    exact absurd H (by simp)
            case rest =>
              clear HC25
              try clear c1
              try clear c2
              try clear p2
              try clear c3
              try clear c4
              try clear c5
              try clear c6
              try clear c6b0
              try clear c6b1
              try clear c7
              try clear c12
              try clear c13
              try clear c13b0
              try clear c13b1
              try clear c14
              try clear c14b0
              try clear c15
              try clear c15b0
              try clear c16
              try clear c16b0
              try clear c16b1
              try clear c17
              try clear c17b0
              try clear c17b1
              try clear c18
              try clear c18b0
              try clear c18b1
              try clear c19
              try clear c19b0
              try clear c20
              try clear c20b0
              try clear c20b1
              try clear c21
              try clear c21b0
              try clear c21b1
              try clear c22
              try clear c22b0
              try clear c22b1
              try clear c23
              try clear c25
              try clear c26
              try clear c29
              try clear c29b0
              try clear c29b1
              try clear c32
              try clear c32b0
              try clear c32b1
              try clear c33
              try clear c33b0
              try clear c33b1
              try clear c34
              try clear c34b0
              try clear c34b1
              try clear c37
              try clear c37b0
              try clear c38
              try clear c38b0
              try clear c38b1
              try clear c44
              try clear c44b0
              try clear c45
              try clear c45b0
              try clear c51
              try clear c51b0
              try clear c57
              try clear c57b0
              try clear c57b1
              try clear c58
              try clear c58b0
              try clear c58b1
              try clear c59
              try clear c59b0
              try clear c59b1
              try clear hcz28_0
              try clear hcz28_1
              try clear hcz39_0
              try clear hcz39_1
              try clear hcz41_0
              try clear hcz41_1
              try clear hcz43_0
              try clear hcz43_1
              try clear hcz46_0
              try clear hcz46_1
              try clear hcz48_0
              try clear hcz48_1
              try clear hcz50_0
              try clear hcz50_1
              try clear hcz52_0
              try clear hcz52_1
              try clear hcz54_0
              try clear hcz54_1
              try clear hcz56_0
              try clear hcz56_1
              try clear hfz28_0
              try clear hfz28_1
              try clear hfz39_0
              try clear hfz39_1
              try clear hfz41_0
              try clear hfz41_1
              try clear hfz43_0
              try clear hfz43_1
              try clear hfz46_0
              try clear hfz46_1
              try clear hfz48_0
              try clear hfz48_1
              try clear hfz50_0
              try clear hfz50_1
              try clear hfz52_0
              try clear hfz52_1
              try clear hfz54_0
              try clear hfz54_1
              try clear hfz56_0
              try clear hfz56_1
              try clear p2
              obtain ⟨kq, HA, HJ24, BK237, HB⟩ := hcut
              cases kq with
              | zero => exact absurd HA.out (by simp [formularylaw07_IntegersExact.j1])
              | succ kj24 =>
                have H := HA.out
                clear HA
                simp only [formularylaw07_IntegersExact.j1] at H
                replace H := Option.bind_eq_some_iff.mp H
                obtain ⟨⟨t244, t245⟩, A600, H⟩ := H
                replace H : (if t245 = 0 then (formularylaw07_IntegersExact.j2 kj24 a0 a1 (t244 != a0)) else (none)) = some r := H
                have A60 := Aside0.mk A600
                clear A600
                have HC61 := Aside0.mk H
                clear H
                go_upto_region 18 with (first | ((with_reducible refine gate_callee (f := 13) rfl ?_); refine goesL_ (some 142) rfl rfl Try.func13 (by kernel_rfl) rfl #[.int .i64 5, .int .i64 a0, .int .i64 a0] rfl (by (try simp only [List.map_toArray, List.map_cons, List.map_nil]); first | done | rfl | (simp only [List.length_drop, List.length_take]; rfl)) ?_; (with_reducible refine (integers_Apply.calls kj24 5 a0 a0 t244 t245 _ A60.out).mono ?_); rintro e w62 ⟨rfl, hb⟩; refine ⟨_, rfl, ?_⟩; have n0_ := Aside0.mk (blk_below (g := gb237) (o := .cells #[.int .i64 t234, .int .i64 t235] 43 (0, 0)) (by (with_reducible repeat (first | refine blk_drewN ?_ _ | refine blk_drew ?_ | refine blk_alloc ?_ _)); exact BK237.out) hb); have n1_ := Aside0.mk (below_step (by repeat (first | (with_reducible first | exact HB.out | apply below_alloc | apply pw_below_drewN | apply below_drew1 | refine below_set ?_ GE237.out) | exact HB.out)) hb); clear BK237; clear HB; have BK237 := n0_; have HB := n1_; clear n0_ n1_; (try clear hb); (try clear hb2); (try clear hk); (try clear hi)))
                (try simp only [Act.put, List.setIfInBounds_toArray, List.set_cons_zero, List.set_cons_succ])
                go_cut [151] (fun v151 wc => ∃ (kq : Nat) (x151_60 : Bool), v151 = .bool x151_60 ∧ Aside0 (formularylaw07_IntegersExact.j2 kq a0 a1 x151_60 = some r) ∧ Aside0 (kq ≤ kj24) ∧ Aside0 (wc.heap[gb237]? = some (.cells #[.int .i64 t234, .int .i64 t235] 43 (0, 0))) ∧ Aside0 (Below w.heap.size w wc))
                case first =>
                  have H := HC61.out
                  clear HC61
                  by_cases c63 : t245 = 0
                  · rw [if_pos c63] at H
                    have c63b0 : (t245 == 0) = true := beq_iff_eq.mpr c63
                    have c63b1 : (t245 != 0) = false := bne_eq_false_iff_eq.mpr c63
                    clear c63
                    (first | rw [c63b0] | (simp only [i64_w, i32_w]; rw [c63b0]) | skip)
                    as_aux_lemma =>
                      have H' := Aside0.mk H
                      clear H
                      go_wp2
                      go_meet
                      case rel => exact ⟨_, ((t244 != a0)), (by first | rfl | (simp; done) | (simp [*]; done)), H', ⟨by have := HJ8.out; have := HJ24.out; first | omega | exact Nat.le_refl _⟩, ⟨by (with_reducible repeat (first | refine blk_drewN ?_ _ | refine blk_drew ?_ | refine blk_alloc ?_ _)); exact BK237.out⟩, ⟨by repeat (first | (with_reducible first | exact HB.out | apply below_alloc | apply pw_below_drewN | apply below_drew1 | refine below_set ?_ GE237.out) | exact HB.out)⟩⟩
                  · rw [if_neg c63] at H
                    exact absurd H (by simp)
                case rest =>
                  clear HC61
                  try clear c1
                  try clear c2
                  try clear p2
                  try clear c3
                  try clear c4
                  try clear c5
                  try clear c6
                  try clear c6b0
                  try clear c6b1
                  try clear c7
                  try clear c12
                  try clear c13
                  try clear c13b0
                  try clear c13b1
                  try clear c14
                  try clear c14b0
                  try clear c15
                  try clear c15b0
                  try clear c16
                  try clear c16b0
                  try clear c16b1
                  try clear c17
                  try clear c17b0
                  try clear c17b1
                  try clear c18
                  try clear c18b0
                  try clear c18b1
                  try clear c19
                  try clear c19b0
                  try clear c20
                  try clear c20b0
                  try clear c20b1
                  try clear c21
                  try clear c21b0
                  try clear c21b1
                  try clear c22
                  try clear c22b0
                  try clear c22b1
                  try clear c23
                  try clear c25
                  try clear c26
                  try clear c29
                  try clear c29b0
                  try clear c29b1
                  try clear c32
                  try clear c32b0
                  try clear c32b1
                  try clear c33
                  try clear c33b0
                  try clear c33b1
                  try clear c34
                  try clear c34b0
                  try clear c34b1
                  try clear c37
                  try clear c37b0
                  try clear c38
                  try clear c38b0
                  try clear c38b1
                  try clear c44
                  try clear c44b0
                  try clear c45
                  try clear c45b0
                  try clear c51
                  try clear c51b0
                  try clear c57
                  try clear c57b0
                  try clear c57b1
                  try clear c58
                  try clear c58b0
                  try clear c58b1
                  try clear c59
                  try clear c59b0
                  try clear c59b1
                  try clear c63
                  try clear c63b0
                  try clear c63b1
                  try clear hcz28_0
                  try clear hcz28_1
                  try clear hcz39_0
                  try clear hcz39_1
                  try clear hcz41_0
                  try clear hcz41_1
                  try clear hcz43_0
                  try clear hcz43_1
                  try clear hcz46_0
                  try clear hcz46_1
                  try clear hcz48_0
                  try clear hcz48_1
                  try clear hcz50_0
                  try clear hcz50_1
                  try clear hcz52_0
                  try clear hcz52_1
                  try clear hcz54_0
                  try clear hcz54_1
                  try clear hcz56_0
                  try clear hcz56_1
                  try clear hfz28_0
                  try clear hfz28_1
                  try clear hfz39_0
                  try clear hfz39_1
                  try clear hfz41_0
                  try clear hfz41_1
                  try clear hfz43_0
                  try clear hfz43_1
                  try clear hfz46_0
                  try clear hfz46_1
                  try clear hfz48_0
                  try clear hfz48_1
                  try clear hfz50_0
                  try clear hfz50_1
                  try clear hfz52_0
                  try clear hfz52_1
                  try clear hfz54_0
                  try clear hfz54_1
                  try clear hfz56_0
                  try clear hfz56_1
                  try clear p2
                  obtain ⟨kq, x151_60, rfl, HA, HJ60, BK237, HB⟩ := hcut
                  cases kq with
                  | zero => exact absurd HA.out (by simp [formularylaw07_IntegersExact.j2])
                  | succ kj60 =>
                    have H := HA.out
                    clear HA
                    simp only [formularylaw07_IntegersExact.j2] at H
                    by_cases c64 : x151_60 = true
                    · subst c64
                      have H1 : (none) = some r := by rw [if_pos rfl] at H; exact H
                      clear H
                      have H := H1
                      clear H1
                      exact absurd H (by simp)
                    · replace c64 := Bool.eq_false_iff.mpr c64
                      subst c64
                      have H1 : ((integers_Apply.f kj60 6 a0 a1).bind fun bt246 => ((integers_Apply.f kj60 6 a1 a0).bind fun bt248 => ((integers_Apply.f kj60 1 a0 a1).bind fun bt250 => (if bt246.2 = 0 then (if bt248.2 = 0 then (if bt250.2 = 0 then (formularylaw07_IntegersExact.j3 kj60 a0 a1 ((wrap64 (bt246.1 - bt248.1)) != bt250.1)) else (formularylaw07_IntegersExact.j3 kj60 a0 a1 false)) else (formularylaw07_IntegersExact.j3 kj60 a0 a1 false)) else (formularylaw07_IntegersExact.j3 kj60 a0 a1 false))))) = some r := by rw [if_neg (show ¬ (false = true) by decide)] at H; exact H
                      clear H
                      have H := H1
                      clear H1
                      replace H := Option.bind_eq_some_iff.mp H
                      obtain ⟨⟨t246, t247⟩, A650, H⟩ := H
                      replace H : ((integers_Apply.f kj60 6 a1 a0).bind fun bt248 => ((integers_Apply.f kj60 1 a0 a1).bind fun bt250 => (if t247 = 0 then (if bt248.2 = 0 then (if bt250.2 = 0 then (formularylaw07_IntegersExact.j3 kj60 a0 a1 ((wrap64 (t246 - bt248.1)) != bt250.1)) else (formularylaw07_IntegersExact.j3 kj60 a0 a1 false)) else (formularylaw07_IntegersExact.j3 kj60 a0 a1 false)) else (formularylaw07_IntegersExact.j3 kj60 a0 a1 false)))) = some r := H
                      have A65 := Aside0.mk A650
                      clear A650
                      replace H := Option.bind_eq_some_iff.mp H
                      obtain ⟨⟨t248, t249⟩, A660, H⟩ := H
                      replace H : ((integers_Apply.f kj60 1 a0 a1).bind fun bt250 => (if t247 = 0 then (if t249 = 0 then (if bt250.2 = 0 then (formularylaw07_IntegersExact.j3 kj60 a0 a1 ((wrap64 (t246 - t248)) != bt250.1)) else (formularylaw07_IntegersExact.j3 kj60 a0 a1 false)) else (formularylaw07_IntegersExact.j3 kj60 a0 a1 false)) else (formularylaw07_IntegersExact.j3 kj60 a0 a1 false))) = some r := H
                      have A66 := Aside0.mk A660
                      clear A660
                      replace H := Option.bind_eq_some_iff.mp H
                      obtain ⟨⟨t250, t251⟩, A670, H⟩ := H
                      replace H : (if t247 = 0 then (if t249 = 0 then (if t251 = 0 then (formularylaw07_IntegersExact.j3 kj60 a0 a1 ((wrap64 (t246 - t248)) != t250)) else (formularylaw07_IntegersExact.j3 kj60 a0 a1 false)) else (formularylaw07_IntegersExact.j3 kj60 a0 a1 false)) else (formularylaw07_IntegersExact.j3 kj60 a0 a1 false)) = some r := H
                      have A67 := Aside0.mk A670
                      clear A670
                      have HC68 := Aside0.mk H
                      clear H
                      go_upto_region 23 with (first | ((with_reducible refine gate_callee (f := 13) rfl ?_); refine goesL_ (some 155) rfl rfl Try.func13 (by kernel_rfl) rfl #[.int .i64 6, .int .i64 a0, .int .i64 a1] rfl (by (try simp only [List.map_toArray, List.map_cons, List.map_nil]); first | done | rfl | (simp only [List.length_drop, List.length_take]; rfl)) ?_; (with_reducible refine (integers_Apply.calls kj60 6 a0 a1 t246 t247 _ A65.out).mono ?_); rintro e w69 ⟨rfl, hb⟩; refine ⟨_, rfl, ?_⟩; have n0_ := Aside0.mk (blk_below (g := gb237) (o := .cells #[.int .i64 t234, .int .i64 t235] 43 (0, 0)) (by (with_reducible repeat (first | refine blk_drewN ?_ _ | refine blk_drew ?_ | refine blk_alloc ?_ _)); exact BK237.out) hb); have n1_ := Aside0.mk (below_step (by repeat (first | (with_reducible first | exact HB.out | apply below_alloc | apply pw_below_drewN | apply below_drew1 | refine below_set ?_ GE237.out) | exact HB.out)) hb); clear BK237; clear HB; have BK237 := n0_; have HB := n1_; clear n0_ n1_; (try clear hb); (try clear hb2); (try clear hk); (try clear hi)) | ((with_reducible refine gate_callee (f := 13) rfl ?_); refine goesL_ (some 161) rfl rfl Try.func13 (by kernel_rfl) rfl #[.int .i64 6, .int .i64 a1, .int .i64 a0] rfl (by (try simp only [List.map_toArray, List.map_cons, List.map_nil]); first | done | rfl | (simp only [List.length_drop, List.length_take]; rfl)) ?_; (with_reducible refine (integers_Apply.calls kj60 6 a1 a0 t248 t249 _ A66.out).mono ?_); rintro e w70 ⟨rfl, hb⟩; refine ⟨_, rfl, ?_⟩; have n0_ := Aside0.mk (blk_below (g := gb237) (o := .cells #[.int .i64 t234, .int .i64 t235] 43 (0, 0)) (by (with_reducible repeat (first | refine blk_drewN ?_ _ | refine blk_drew ?_ | refine blk_alloc ?_ _)); exact BK237.out) hb); have n1_ := Aside0.mk (below_step (by repeat (first | (with_reducible first | exact HB.out | apply below_alloc | apply pw_below_drewN | apply below_drew1 | refine below_set ?_ GE237.out) | exact HB.out)) hb); clear BK237; clear HB; have BK237 := n0_; have HB := n1_; clear n0_ n1_; (try clear hb); (try clear hb2); (try clear hk); (try clear hi)) | ((with_reducible refine gate_callee (f := 13) rfl ?_); refine goesL_ (some 167) rfl rfl Try.func13 (by kernel_rfl) rfl #[.int .i64 1, .int .i64 a0, .int .i64 a1] rfl (by (try simp only [List.map_toArray, List.map_cons, List.map_nil]); first | done | rfl | (simp only [List.length_drop, List.length_take]; rfl)) ?_; (with_reducible refine (integers_Apply.calls kj60 1 a0 a1 t250 t251 _ A67.out).mono ?_); rintro e w71 ⟨rfl, hb⟩; refine ⟨_, rfl, ?_⟩; have n0_ := Aside0.mk (blk_below (g := gb237) (o := .cells #[.int .i64 t234, .int .i64 t235] 43 (0, 0)) (by (with_reducible repeat (first | refine blk_drewN ?_ _ | refine blk_drew ?_ | refine blk_alloc ?_ _)); exact BK237.out) hb); have n1_ := Aside0.mk (below_step (by repeat (first | (with_reducible first | exact HB.out | apply below_alloc | apply pw_below_drewN | apply below_drew1 | refine below_set ?_ GE237.out) | exact HB.out)) hb); clear BK237; clear HB; have BK237 := n0_; have HB := n1_; clear n0_ n1_; (try clear hb); (try clear hb2); (try clear hk); (try clear hi)))
                      (try simp only [Act.put, List.setIfInBounds_toArray, List.set_cons_zero, List.set_cons_succ])
                      go_cut [186] (fun v186 wc => ∃ (kq : Nat) (x186_67 : Bool), v186 = .bool x186_67 ∧ Aside0 (formularylaw07_IntegersExact.j3 kq a0 a1 x186_67 = some r) ∧ Aside0 (kq ≤ kj60) ∧ Aside0 (wc.heap[gb237]? = some (.cells #[.int .i64 t234, .int .i64 t235] 43 (0, 0))) ∧ Aside0 (Below w.heap.size w wc))
                      case first =>
                        have H := HC68.out
                        clear HC68
                        by_cases c72 : t247 = 0
                        · rw [if_pos c72] at H
                          have c72b0 : (t247 == 0) = true := beq_iff_eq.mpr c72
                          have c72b1 : (t247 != 0) = false := bne_eq_false_iff_eq.mpr c72
                          clear c72
                          (first | rw [c72b0] | (simp only [i64_w, i32_w]; rw [c72b0]) | skip)
                          by_cases c73 : t249 = 0
                          · rw [if_pos c73] at H
                            have c73b0 : (t249 == 0) = true := beq_iff_eq.mpr c73
                            have c73b1 : (t249 != 0) = false := bne_eq_false_iff_eq.mpr c73
                            clear c73
                            by_cases c74 : t251 = 0
                            · rw [if_pos c74] at H
                              have c74b0 : (t251 == 0) = true := beq_iff_eq.mpr c74
                              have c74b1 : (t251 != 0) = false := bne_eq_false_iff_eq.mpr c74
                              clear c74
                              as_aux_lemma =>
                                have H' := Aside0.mk H
                                clear H
                                go_wp2
                                go_meet
                                case rel => exact ⟨_, (((wrap64 (t246 - t248)) != t250)), (by first | rfl | (simp; done) | (simp [*]; done)), H', ⟨by have := HJ8.out; have := HJ24.out; have := HJ60.out; first | omega | exact Nat.le_refl _⟩, ⟨by (with_reducible repeat (first | refine blk_drewN ?_ _ | refine blk_drew ?_ | refine blk_alloc ?_ _)); exact BK237.out⟩, ⟨by repeat (first | (with_reducible first | exact HB.out | apply below_alloc | apply pw_below_drewN | apply below_drew1 | refine below_set ?_ GE237.out) | exact HB.out)⟩⟩
                            · rw [if_neg c74] at H
                              have c74b0 : (t251 == 0) = false := beq_eq_false_iff_ne.mpr c74
                              have c74b1 : (t251 != 0) = true := bne_iff_ne.mpr c74
                              as_aux_lemma =>
                                have H' := Aside0.mk H
                                clear H
                                go_wp2
                                go_meet
                                case rel => exact ⟨_, (false), (by first | rfl | (simp; done) | (simp [*]; done)), H', ⟨by have := HJ8.out; have := HJ24.out; have := HJ60.out; first | omega | exact Nat.le_refl _⟩, ⟨by (with_reducible repeat (first | refine blk_drewN ?_ _ | refine blk_drew ?_ | refine blk_alloc ?_ _)); exact BK237.out⟩, ⟨by repeat (first | (with_reducible first | exact HB.out | apply below_alloc | apply pw_below_drewN | apply below_drew1 | refine below_set ?_ GE237.out) | exact HB.out)⟩⟩
                          · rw [if_neg c73] at H
                            have c73b0 : (t249 == 0) = false := beq_eq_false_iff_ne.mpr c73
                            have c73b1 : (t249 != 0) = true := bne_iff_ne.mpr c73
                            as_aux_lemma =>
                              have H' := Aside0.mk H
                              clear H
                              go_wp2
                              go_meet
                              case rel => exact ⟨_, (false), (by first | rfl | (simp; done) | (simp [*]; done)), H', ⟨by have := HJ8.out; have := HJ24.out; have := HJ60.out; first | omega | exact Nat.le_refl _⟩, ⟨by (with_reducible repeat (first | refine blk_drewN ?_ _ | refine blk_drew ?_ | refine blk_alloc ?_ _)); exact BK237.out⟩, ⟨by repeat (first | (with_reducible first | exact HB.out | apply below_alloc | apply pw_below_drewN | apply below_drew1 | refine below_set ?_ GE237.out) | exact HB.out)⟩⟩
                        · rw [if_neg c72] at H
                          have c72b0 : (t247 == 0) = false := beq_eq_false_iff_ne.mpr c72
                          have c72b1 : (t247 != 0) = true := bne_iff_ne.mpr c72
                          (first | rw [c72b0] | (simp only [i64_w, i32_w]; rw [c72b0]) | skip)
                          as_aux_lemma =>
                            have H' := Aside0.mk H
                            clear H
                            go_wp2
                            go_meet
                            case rel => exact ⟨_, (false), (by first | rfl | (simp; done) | (simp [*]; done)), H', ⟨by have := HJ8.out; have := HJ24.out; have := HJ60.out; first | omega | exact Nat.le_refl _⟩, ⟨by (with_reducible repeat (first | refine blk_drewN ?_ _ | refine blk_drew ?_ | refine blk_alloc ?_ _)); exact BK237.out⟩, ⟨by repeat (first | (with_reducible first | exact HB.out | apply below_alloc | apply pw_below_drewN | apply below_drew1 | refine below_set ?_ GE237.out) | exact HB.out)⟩⟩
                      case rest =>
                        clear HC68
                        try clear c1
                        try clear c2
                        try clear p2
                        try clear c3
                        try clear c4
                        try clear c5
                        try clear c6
                        try clear c6b0
                        try clear c6b1
                        try clear p6
                        try clear c7
                        try clear c12
                        try clear c13
                        try clear c13b0
                        try clear c13b1
                        try clear c14
                        try clear c14b0
                        try clear c15
                        try clear c15b0
                        try clear c16
                        try clear c16b0
                        try clear c16b1
                        try clear c17
                        try clear c17b0
                        try clear c17b1
                        try clear c18
                        try clear c18b0
                        try clear c18b1
                        try clear c19
                        try clear c19b0
                        try clear c20
                        try clear c20b0
                        try clear c20b1
                        try clear c21
                        try clear c21b0
                        try clear c21b1
                        try clear c22
                        try clear c22b0
                        try clear c22b1
                        try clear c23
                        try clear c25
                        try clear c26
                        try clear c29
                        try clear c29b0
                        try clear c29b1
                        try clear c32
                        try clear c32b0
                        try clear c32b1
                        try clear c33
                        try clear c33b0
                        try clear c33b1
                        try clear c34
                        try clear c34b0
                        try clear c34b1
                        try clear c37
                        try clear c37b0
                        try clear c38
                        try clear c38b0
                        try clear c38b1
                        try clear c44
                        try clear c44b0
                        try clear c45
                        try clear c45b0
                        try clear c51
                        try clear c51b0
                        try clear c57
                        try clear c57b0
                        try clear c57b1
                        try clear c58
                        try clear c58b0
                        try clear c58b1
                        try clear c59
                        try clear c59b0
                        try clear c59b1
                        try clear c63
                        try clear c63b0
                        try clear c63b1
                        try clear c64
                        try clear p64
                        try clear c72
                        try clear c72b0
                        try clear c72b1
                        try clear c73
                        try clear c73b0
                        try clear c73b1
                        try clear c74
                        try clear c74b0
                        try clear c74b1
                        try clear hcz28_0
                        try clear hcz28_1
                        try clear hcz39_0
                        try clear hcz39_1
                        try clear hcz41_0
                        try clear hcz41_1
                        try clear hcz43_0
                        try clear hcz43_1
                        try clear hcz46_0
                        try clear hcz46_1
                        try clear hcz48_0
                        try clear hcz48_1
                        try clear hcz50_0
                        try clear hcz50_1
                        try clear hcz52_0
                        try clear hcz52_1
                        try clear hcz54_0
                        try clear hcz54_1
                        try clear hcz56_0
                        try clear hcz56_1
                        try clear hfz28_0
                        try clear hfz28_1
                        try clear hfz39_0
                        try clear hfz39_1
                        try clear hfz41_0
                        try clear hfz41_1
                        try clear hfz43_0
                        try clear hfz43_1
                        try clear hfz46_0
                        try clear hfz46_1
                        try clear hfz48_0
                        try clear hfz48_1
                        try clear hfz50_0
                        try clear hfz50_1
                        try clear hfz52_0
                        try clear hfz52_1
                        try clear hfz54_0
                        try clear hfz54_1
                        try clear hfz56_0
                        try clear hfz56_1
                        try clear p2
                        obtain ⟨kq, x186_67, rfl, HA, HJ67, BK237, HB⟩ := hcut
                        cases kq with
                        | zero => exact absurd HA.out (by simp [formularylaw07_IntegersExact.j3])
                        | succ kj67 =>
                          have H := HA.out
                          clear HA
                          simp only [formularylaw07_IntegersExact.j3] at H
                          by_cases c75 : x186_67 = true
                          · subst c75
                            have H1 : (none) = some r := by rw [if_pos rfl] at H; exact H
                            clear H
                            have H := H1
                            clear H1
                            exact absurd H (by simp)
                          · replace c75 := Bool.eq_false_iff.mpr c75
                            subst c75
                            have H1 : ((integers_Apply.f kj67 7 a0 a1).bind fun bt252 => ((integers_Apply.f kj67 8 a0 a1).bind fun bt254 => (if bt252.2 = 0 then (if bt254.2 = 0 then (if bt252.1 ≤ bt254.1 then (if bt252.1 = a0 then (if bt254.1 = a1 then (some true) else (if bt252.1 = a1 then (some (bt254.1 == a0)) else (none))) else (if bt252.1 = a1 then (some (bt254.1 == a0)) else (none))) else (none)) else (none)) else (none)))) = some r := by rw [if_neg (show ¬ (false = true) by decide)] at H; exact H
                            clear H
                            have H := H1
                            clear H1
                            replace H := Option.bind_eq_some_iff.mp H
                            obtain ⟨⟨t252, t253⟩, A760, H⟩ := H
                            replace H : ((integers_Apply.f kj67 8 a0 a1).bind fun bt254 => (if t253 = 0 then (if bt254.2 = 0 then (if t252 ≤ bt254.1 then (if t252 = a0 then (if bt254.1 = a1 then (some true) else (if t252 = a1 then (some (bt254.1 == a0)) else (none))) else (if t252 = a1 then (some (bt254.1 == a0)) else (none))) else (none)) else (none)) else (none))) = some r := H
                            have A76 := Aside0.mk A760
                            clear A760
                            replace H := Option.bind_eq_some_iff.mp H
                            obtain ⟨⟨t254, t255⟩, A770, H⟩ := H
                            replace H : (if t253 = 0 then (if t255 = 0 then (if t252 ≤ t254 then (if t252 = a0 then (if t254 = a1 then (some true) else (if t252 = a1 then (some (t254 == a0)) else (none))) else (if t252 = a1 then (some (t254 == a0)) else (none))) else (none)) else (none)) else (none)) = some r := H
                            have A77 := Aside0.mk A770
                            clear A770
                            by_cases c78 : t253 = 0
                            · rw [if_pos c78] at H
                              have c78b0 : (t253 == 0) = true := beq_iff_eq.mpr c78
                              have c78b1 : (t253 != 0) = false := bne_eq_false_iff_eq.mpr c78
                              clear c78
                              by_cases c79 : t255 = 0
                              · rw [if_pos c79] at H
                                have c79b0 : (t255 == 0) = true := beq_iff_eq.mpr c79
                                have c79b1 : (t255 != 0) = false := bne_eq_false_iff_eq.mpr c79
                                clear c79
                                by_cases c80 : t252 ≤ t254
                                · rw [if_pos c80] at H
                                  have c80b0 : decide (t252 ≤ t254) = true := decide_eq_true c80
                                  clear c80
                                  by_cases c81 : t252 = a0
                                  · rw [if_pos c81] at H
                                    have c81b0 : (t252 == a0) = true := beq_iff_eq.mpr c81
                                    have c81b1 : (t252 != a0) = false := bne_eq_false_iff_eq.mpr c81
                                    clear c81
                                    by_cases c82 : t254 = a1
                                    · rw [if_pos c82] at H
                                      have c82b0 : (t254 == a1) = true := beq_iff_eq.mpr c82
                                      have c82b1 : (t254 != a1) = false := bne_eq_false_iff_eq.mpr c82
                                      clear c82
                                      as_aux_lemma =>
                                        obtain rfl := Option.some.inj H
                                        go_wp2_with (first | ((with_reducible refine gate_callee (f := 13) rfl ?_); refine goesL_ (some 190) rfl rfl Try.func13 (by kernel_rfl) rfl #[.int .i64 7, .int .i64 a0, .int .i64 a1] rfl (by (try simp only [List.map_toArray, List.map_cons, List.map_nil]); first | done | rfl | (simp only [List.length_drop, List.length_take]; rfl)) ?_; (with_reducible refine (integers_Apply.calls kj67 7 a0 a1 t252 t253 _ A76.out).mono ?_); rintro e w83 ⟨rfl, hb⟩; refine ⟨_, rfl, ?_⟩; have n0_ := Aside0.mk (blk_below (g := gb237) (o := .cells #[.int .i64 t234, .int .i64 t235] 43 (0, 0)) (by (with_reducible repeat (first | refine blk_drewN ?_ _ | refine blk_drew ?_ | refine blk_alloc ?_ _)); exact BK237.out) hb); have n1_ := Aside0.mk (below_step (by repeat (first | (with_reducible first | exact HB.out | apply below_alloc | apply pw_below_drewN | apply below_drew1 | refine below_set ?_ GE237.out) | exact HB.out)) hb); clear BK237; clear HB; have BK237 := n0_; have HB := n1_; clear n0_ n1_; (try clear hb); (try clear hb2); (try clear hk); (try clear hi)) | ((with_reducible refine gate_callee (f := 13) rfl ?_); refine goesL_ (some 196) rfl rfl Try.func13 (by kernel_rfl) rfl #[.int .i64 8, .int .i64 a0, .int .i64 a1] rfl (by (try simp only [List.map_toArray, List.map_cons, List.map_nil]); first | done | rfl | (simp only [List.length_drop, List.length_take]; rfl)) ?_; (with_reducible refine (integers_Apply.calls kj67 8 a0 a1 t254 t255 _ A77.out).mono ?_); rintro e w84 ⟨rfl, hb⟩; refine ⟨_, rfl, ?_⟩; have n0_ := Aside0.mk (blk_below (g := gb237) (o := .cells #[.int .i64 t234, .int .i64 t235] 43 (0, 0)) (by (with_reducible repeat (first | refine blk_drewN ?_ _ | refine blk_drew ?_ | refine blk_alloc ?_ _)); exact BK237.out) hb); have n1_ := Aside0.mk (below_step (by repeat (first | (with_reducible first | exact HB.out | apply below_alloc | apply pw_below_drewN | apply below_drew1 | refine below_set ?_ GE237.out) | exact HB.out)) hb); clear BK237; clear HB; have BK237 := n0_; have HB := n1_; clear n0_ n1_; (try clear hb); (try clear hb2); (try clear hk); (try clear hi)))
                                        go_ret
                                        exact ⟨by first | rfl | (simp [errW_none, errW_some] <;> rfl) | (simp [*, errW_none, errW_some] <;> rfl), by repeat (first | (with_reducible first | exact HB.out | apply below_alloc | apply pw_below_drewN | apply below_drew1 | refine below_set ?_ GE237.out) | exact HB.out)⟩
                                    · rw [if_neg c82] at H
                                      have c82b0 : (t254 == a1) = false := beq_eq_false_iff_ne.mpr c82
                                      have c82b1 : (t254 != a1) = true := bne_iff_ne.mpr c82
                                      by_cases c85 : t252 = a1
                                      · rw [if_pos c85] at H
                                        have c85b0 : (t252 == a1) = true := beq_iff_eq.mpr c85
                                        have c85b1 : (t252 != a1) = false := bne_eq_false_iff_eq.mpr c85
                                        clear c85
                                        as_aux_lemma =>
                                          obtain rfl := Option.some.inj H
                                          go_wp2_with (first | ((with_reducible refine gate_callee (f := 13) rfl ?_); refine goesL_ (some 190) rfl rfl Try.func13 (by kernel_rfl) rfl #[.int .i64 7, .int .i64 a0, .int .i64 a1] rfl (by (try simp only [List.map_toArray, List.map_cons, List.map_nil]); first | done | rfl | (simp only [List.length_drop, List.length_take]; rfl)) ?_; (with_reducible refine (integers_Apply.calls kj67 7 a0 a1 t252 t253 _ A76.out).mono ?_); rintro e w86 ⟨rfl, hb⟩; refine ⟨_, rfl, ?_⟩; have n0_ := Aside0.mk (blk_below (g := gb237) (o := .cells #[.int .i64 t234, .int .i64 t235] 43 (0, 0)) (by (with_reducible repeat (first | refine blk_drewN ?_ _ | refine blk_drew ?_ | refine blk_alloc ?_ _)); exact BK237.out) hb); have n1_ := Aside0.mk (below_step (by repeat (first | (with_reducible first | exact HB.out | apply below_alloc | apply pw_below_drewN | apply below_drew1 | refine below_set ?_ GE237.out) | exact HB.out)) hb); clear BK237; clear HB; have BK237 := n0_; have HB := n1_; clear n0_ n1_; (try clear hb); (try clear hb2); (try clear hk); (try clear hi)) | ((with_reducible refine gate_callee (f := 13) rfl ?_); refine goesL_ (some 196) rfl rfl Try.func13 (by kernel_rfl) rfl #[.int .i64 8, .int .i64 a0, .int .i64 a1] rfl (by (try simp only [List.map_toArray, List.map_cons, List.map_nil]); first | done | rfl | (simp only [List.length_drop, List.length_take]; rfl)) ?_; (with_reducible refine (integers_Apply.calls kj67 8 a0 a1 t254 t255 _ A77.out).mono ?_); rintro e w87 ⟨rfl, hb⟩; refine ⟨_, rfl, ?_⟩; have n0_ := Aside0.mk (blk_below (g := gb237) (o := .cells #[.int .i64 t234, .int .i64 t235] 43 (0, 0)) (by (with_reducible repeat (first | refine blk_drewN ?_ _ | refine blk_drew ?_ | refine blk_alloc ?_ _)); exact BK237.out) hb); have n1_ := Aside0.mk (below_step (by repeat (first | (with_reducible first | exact HB.out | apply below_alloc | apply pw_below_drewN | apply below_drew1 | refine below_set ?_ GE237.out) | exact HB.out)) hb); clear BK237; clear HB; have BK237 := n0_; have HB := n1_; clear n0_ n1_; (try clear hb); (try clear hb2); (try clear hk); (try clear hi)))
                                          go_ret
                                          exact ⟨by first | rfl | (simp [errW_none, errW_some] <;> rfl) | (simp [*, errW_none, errW_some] <;> rfl), by repeat (first | (with_reducible first | exact HB.out | apply below_alloc | apply pw_below_drewN | apply below_drew1 | refine below_set ?_ GE237.out) | exact HB.out)⟩
                                      · rw [if_neg c85] at H
                                        exact absurd H (by simp)
                                  · rw [if_neg c81] at H
                                    have c81b0 : (t252 == a0) = false := beq_eq_false_iff_ne.mpr c81
                                    have c81b1 : (t252 != a0) = true := bne_iff_ne.mpr c81
                                    by_cases c88 : t252 = a1
                                    · rw [if_pos c88] at H
                                      have c88b0 : (t252 == a1) = true := beq_iff_eq.mpr c88
                                      have c88b1 : (t252 != a1) = false := bne_eq_false_iff_eq.mpr c88
                                      clear c88
                                      as_aux_lemma =>
                                        obtain rfl := Option.some.inj H
                                        go_wp2_with (first | ((with_reducible refine gate_callee (f := 13) rfl ?_); refine goesL_ (some 190) rfl rfl Try.func13 (by kernel_rfl) rfl #[.int .i64 7, .int .i64 a0, .int .i64 a1] rfl (by (try simp only [List.map_toArray, List.map_cons, List.map_nil]); first | done | rfl | (simp only [List.length_drop, List.length_take]; rfl)) ?_; (with_reducible refine (integers_Apply.calls kj67 7 a0 a1 t252 t253 _ A76.out).mono ?_); rintro e w89 ⟨rfl, hb⟩; refine ⟨_, rfl, ?_⟩; have n0_ := Aside0.mk (blk_below (g := gb237) (o := .cells #[.int .i64 t234, .int .i64 t235] 43 (0, 0)) (by (with_reducible repeat (first | refine blk_drewN ?_ _ | refine blk_drew ?_ | refine blk_alloc ?_ _)); exact BK237.out) hb); have n1_ := Aside0.mk (below_step (by repeat (first | (with_reducible first | exact HB.out | apply below_alloc | apply pw_below_drewN | apply below_drew1 | refine below_set ?_ GE237.out) | exact HB.out)) hb); clear BK237; clear HB; have BK237 := n0_; have HB := n1_; clear n0_ n1_; (try clear hb); (try clear hb2); (try clear hk); (try clear hi)) | ((with_reducible refine gate_callee (f := 13) rfl ?_); refine goesL_ (some 196) rfl rfl Try.func13 (by kernel_rfl) rfl #[.int .i64 8, .int .i64 a0, .int .i64 a1] rfl (by (try simp only [List.map_toArray, List.map_cons, List.map_nil]); first | done | rfl | (simp only [List.length_drop, List.length_take]; rfl)) ?_; (with_reducible refine (integers_Apply.calls kj67 8 a0 a1 t254 t255 _ A77.out).mono ?_); rintro e w90 ⟨rfl, hb⟩; refine ⟨_, rfl, ?_⟩; have n0_ := Aside0.mk (blk_below (g := gb237) (o := .cells #[.int .i64 t234, .int .i64 t235] 43 (0, 0)) (by (with_reducible repeat (first | refine blk_drewN ?_ _ | refine blk_drew ?_ | refine blk_alloc ?_ _)); exact BK237.out) hb); have n1_ := Aside0.mk (below_step (by repeat (first | (with_reducible first | exact HB.out | apply below_alloc | apply pw_below_drewN | apply below_drew1 | refine below_set ?_ GE237.out) | exact HB.out)) hb); clear BK237; clear HB; have BK237 := n0_; have HB := n1_; clear n0_ n1_; (try clear hb); (try clear hb2); (try clear hk); (try clear hi)))
                                        go_ret
                                        exact ⟨by first | rfl | (simp [errW_none, errW_some] <;> rfl) | (simp [*, errW_none, errW_some] <;> rfl), by repeat (first | (with_reducible first | exact HB.out | apply below_alloc | apply pw_below_drewN | apply below_drew1 | refine below_set ?_ GE237.out) | exact HB.out)⟩
                                    · rw [if_neg c88] at H
                                      exact absurd H (by simp)
                                · rw [if_neg c80] at H
                                  exact absurd H (by simp)
                              · rw [if_neg c79] at H
                                exact absurd H (by simp)
                            · rw [if_neg c78] at H
                              exact absurd H (by simp)
    · rw [if_neg c6] at H
      have c6b0 : (t229 == 0) = false := beq_eq_false_iff_ne.mpr c6
      have c6b1 : (t229 != 0) = true := bne_iff_ne.mpr c6
      as_aux_lemma =>
        obtain rfl := Option.some.inj H
        go_enter Try.func7, Try.ntmps7
        go_wp2_with (first | ((with_reducible refine gate_callee (f := 12) rfl ?_); refine goesL_ (some 27) rfl rfl Try.func12 (by kernel_rfl) rfl #[] rfl (by (try simp only [List.map_toArray, List.map_cons, List.map_nil]); first | done | rfl | (simp only [List.length_drop, List.length_take]; rfl)) ?_; (with_reducible refine (formularylaw07_awake.calls k  true _ A3.out).mono ?_); rintro e w91 ⟨rfl, hb⟩; refine ⟨_, rfl, ?_⟩; have n0_ := Aside0.mk (below_step (by repeat (first | (with_reducible first | exact HB.out | apply below_alloc | apply pw_below_drewN | apply below_drew1) | exact HB.out)) hb); clear HB; have HB := n0_; clear n0_; (try clear hb); (try clear hb2); (try clear hk); (try clear hi)) | ((with_reducible refine gate_callee (f := 25) rfl ?_); refine goesL_ (some 31) rfl rfl Try.func25 (by kernel_rfl) rfl #[.int .i64 a0, .int .i64 a1] rfl (by (try simp only [List.map_toArray, List.map_cons, List.map_nil]); first | done | rfl | (simp only [List.length_drop, List.length_take]; rfl)) ?_; (with_reducible refine (formularyref07_TwoErr.calls a0 a1 t229 _ A5.out).mono ?_); rintro e w' ⟨rfl, ⟨nd, rfl⟩⟩; refine ⟨_, rfl, ?_⟩))
        go_ret
        exact ⟨by first | rfl | (simp [errW_none, errW_some] <;> rfl) | (simp [*, errW_none, errW_some] <;> rfl), by repeat (first | (with_reducible first | exact HB.out | apply below_alloc | apply pw_below_drewN | apply below_drew1) | exact HB.out)⟩
  · replace c4 := Bool.eq_false_iff.mpr c4
    subst c4
    have H1 : (none) = some r := by rw [if_neg (show ¬ (false = true) by decide)] at H; exact H
    clear H
    have H := H1
    clear H1
    exact absurd H (by simp)

/-- THE ONE PURE STATEMENT of formularylaw07_IntegersExact: yours. -/
def formularylaw07_IntegersExact.Pure : Prop := ∀ (a0 : Int) (a1 : Int), (Lit.int .i64 a0).wf = true → (Lit.int .i64 a1).wf = true → ∃ k, formularylaw07_IntegersExact.f k a0 a1 = some true
theorem formularylaw07_IntegersExact.walk (P : formularylaw07_IntegersExact.Pure) (a0 : Int) (a1 : Int) (w : World) (w0 : (Lit.int .i64 a0).wf = true) (w1 : (Lit.int .i64 a1).wf = true) :
    Calls Try.prog 7 #[.int .i64 a0, .int .i64 a1] w fun e w' => e = .returned (.bool true) ∧ Below w.heap.size w w' := by
  obtain ⟨k, h⟩ := P a0 a1 w0 w1
  refine (formularylaw07_IntegersExact.calls k a0 a1 true w h).mono ?_
  rintro e w' ⟨rfl, hd⟩
  exact ⟨rfl, hd⟩

end Go.Proofs.Ytgmlihjopinagaa.PIntegersExact
