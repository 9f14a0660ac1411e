-- Written by myprint.py of this session over the kit's print program; contracts by hand where it does not serve.
import Derived.Test.YtgmlihjopinagaaPIntegersRingx0
import Derived.Test.YtgmlihjopinagaaPIntegersRingx3
import Derived.Test.YtgmlihjopinagaaPIntegersRingx5
import Derived.Test.YtgmlihjopinagaaPIntegersRingx8
namespace Go.Proofs.Ytgmlihjopinagaa.PIntegersRing
open Go.RowKit Go.Proofs.YtgmlihjopinagaaW.PrintWords Go.Proofs.YtgmlihjopinagaaW.PrintLast Go.Proofs.YtgmlihjopinagaaW.PrintMore
attribute [local go_sem] max2_int min2_int max_two min_two max_three min_three max_four min_four   -- for this text's walks alone
set_option linter.unusedVariables false
set_option linter.unusedSimpArgs false

/-! ### formularylaw07_IntegersRing: function 8 -/
mutual
def formularylaw07_IntegersRing.j0 : Nat → Int → Int → Int → Bool → Option (Bool)
  | 0, _, _, _, _ => none
  | k + 1, x0, x1, x2, x56 => if x56 = true then (some true) else (formularylaw07_IntegersRing.l0 k x0 x1 x2 true (([0, 2] : List Int)) 0)
def formularylaw07_IntegersRing.l0 : Nat → Int → Int → Int → Bool → List Int → Int → Option (Bool)
  | 0, _, _, _, _, _, _ => none
  | k + 1, x0, x1, x2, x7, x8, x9 => if x9 < (x8.length : Int) then (if 0 ≤ x9 then ((integers_Wrapped.f k (rd x8 x9) x0 x1).bind fun bt236 => ((integers_Wrapped.f k (rd x8 x9) x1 x0).bind fun bt239 => ((integers_Wrapped.f k (rd x8 x9) bt236.1 x2).bind fun bt242 => ((integers_Wrapped.f k (rd x8 x9) x1 x2).bind fun bt245 => ((integers_Wrapped.f k (rd x8 x9) x0 bt245.1).bind fun bt248 => (if x7 = true then (if bt236.2 = 0 then (if bt239.2 = 0 then (if bt242.2 = 0 then (if bt245.2 = 0 then (if bt248.2 = 0 then (if bt236.1 = bt239.1 then (formularylaw07_IntegersRing.l0 k x0 x1 x2 (bt242.1 == bt248.1) x8 (wrap64 (x9 + 1))) else (formularylaw07_IntegersRing.l0 k x0 x1 x2 false x8 (wrap64 (x9 + 1)))) else (formularylaw07_IntegersRing.l0 k x0 x1 x2 false x8 (wrap64 (x9 + 1)))) else (formularylaw07_IntegersRing.l0 k x0 x1 x2 false x8 (wrap64 (x9 + 1)))) else (formularylaw07_IntegersRing.l0 k x0 x1 x2 false x8 (wrap64 (x9 + 1)))) else (formularylaw07_IntegersRing.l0 k x0 x1 x2 false x8 (wrap64 (x9 + 1)))) else (formularylaw07_IntegersRing.l0 k x0 x1 x2 false x8 (wrap64 (x9 + 1)))) else (formularylaw07_IntegersRing.l0 k x0 x1 x2 false x8 (wrap64 (x9 + 1))))))))) else (none)) else ((integers_Wrapped.f k 0 x1 x2).bind fun bt250 => ((integers_Wrapped.f k 2 x0 bt250.1).bind fun bt252 => ((integers_Wrapped.f k 2 x0 x1).bind fun bt254 => ((integers_Wrapped.f k 2 x0 x2).bind fun bt256 => ((integers_Wrapped.f k 0 bt254.1 bt256.1).bind fun bt258 => (if x7 = true then (if bt250.2 = 0 then (if bt252.2 = 0 then (if bt254.2 = 0 then (if bt256.2 = 0 then (if bt258.2 = 0 then (formularylaw07_IntegersRing.j2 k x0 x1 x2 (bt252.1 != bt258.1)) else (none)) else (none)) else (none)) else (none)) else (none)) else (none)))))))
def formularylaw07_IntegersRing.j2 : Nat → Int → Int → Int → Bool → Option (Bool)
  | 0, _, _, _, _ => none
  | k + 1, x0, x1, x2, x201 => if x201 = true then (none) else ((integers_BitOp.f k 3 x0 1).bind fun bt260 => ((integers_Wrapped.f k 0 x0 x0).bind fun bt262 => ((formularybase_Mod.f x2 33).bind fun t264 => ((integers_BitOp.f k 4 x0 t264).bind fun bt265 => ((integers_BitOp.f k 4 bt265.1 (wrap64 (-t264))).bind fun bt267 => ((integers_BitOp.f k 2 x0 x1).bind fun bt269 => ((integers_BitOp.f k 2 bt269.1 x1).bind fun bt271 => ((integers_BitOp.f k 0 x0 x1).bind fun bt273 => ((integers_BitOp.f k 1 x0 x1).bind fun bt275 => ((integers_Wrapped.f k 0 bt273.1 bt275.1).bind fun bt277 => ((integers_Wrapped.f k 0 x0 x1).bind fun bt279 => (if bt260.2 = 0 then (if bt262.2 = 0 then (if bt260.1 = bt262.1 then (if bt265.2 = 0 then (if bt267.2 = 0 then (if bt267.1 = x0 then (if bt269.2 = 0 then (if bt271.2 = 0 then (if bt271.1 = x0 then (if bt273.2 = 0 then (if bt275.2 = 0 then (if bt277.2 = 0 then (if bt279.2 = 0 then (some (bt277.1 == bt279.1)) else (none)) else (none)) else (none)) else (none)) else (none)) else (none)) else (none)) else (none)) else (none)) else (none)) else (none)) else (none)) else (none)))))))))))))
end
def formularylaw07_IntegersRing.f (k : Nat) (a0 : Int) (a1 : Int) (a2 : Int) : Option (Bool) := (formularylaw07_awake.f k).bind fun t229 => (if t229 = true then ((formularyref07_TwoErr.f a0 a1).bind fun t230 => (if t230 = 0 then ((formularyref07_NumberErr.f a2).bind fun t231 => (formularylaw07_IntegersRing.j0 k a0 a1 a2 (t231 != 0))) else (formularylaw07_IntegersRing.j0 k a0 a1 a2 true))) else (none))
theorem formularylaw07_IntegersRing.mono_l : ∀ k, (∀ y0 y1 y2 y3, LeO (formularylaw07_IntegersRing.j0 k y0 y1 y2 y3) (formularylaw07_IntegersRing.j0 (k + 1) y0 y1 y2 y3)) ∧ (∀ y0 y1 y2 y3 y4 y5, LeO (formularylaw07_IntegersRing.l0 k y0 y1 y2 y3 y4 y5) (formularylaw07_IntegersRing.l0 (k + 1) y0 y1 y2 y3 y4 y5)) ∧ (∀ y0 y1 y2 y3, LeO (formularylaw07_IntegersRing.j2 k y0 y1 y2 y3) (formularylaw07_IntegersRing.j2 (k + 1) y0 y1 y2 y3))
  | 0 => ⟨fun _ _ _ _ r h => by simp [formularylaw07_IntegersRing.j0] at h, fun _ _ _ _ _ _ r h => by simp [formularylaw07_IntegersRing.l0] at h, fun _ _ _ _ r h => by simp [formularylaw07_IntegersRing.j2] at h⟩
  | k + 1 => by
    obtain ⟨ih0, ih1, ih2⟩ := formularylaw07_IntegersRing.mono_l k
    refine ⟨?_, ?_, ?_⟩
    · intro y0 y1 y2 y3
      unfold formularylaw07_IntegersRing.j0
      repeat' first
      | (with_reducible exact ih0 _ _ _ _)
      | (with_reducible exact ih1 _ _ _ _ _ _)
      | (with_reducible exact ih2 _ _ _ _)
      | (with_reducible exact formularylaw07_awake.mono _)
      | (with_reducible exact integers_BitOp.mono _ _ _ _)
      | (with_reducible exact integers_Wrapped.mono _ _ _ _)
      | (with_reducible exact LeO.refl _)
      | (with_reducible exact LeO.none _)
      | (with_reducible refine LeO.ite ?_ ?_)
      | (with_reducible refine LeO.bind ?_ (fun _ => ?_))
      | exact ih0 _ _ _ _
      | exact ih1 _ _ _ _ _ _
      | exact ih2 _ _ _ _
      | exact formularylaw07_awake.mono _
      | exact integers_BitOp.mono _ _ _ _
      | exact integers_Wrapped.mono _ _ _ _
      | exact LeO.none _
      | refine LeO.ite ?_ ?_
      | refine LeO.bind ?_ (fun _ => ?_)
    · intro y0 y1 y2 y3 y4 y5
      unfold formularylaw07_IntegersRing.l0
      repeat' first
      | (with_reducible exact ih0 _ _ _ _)
      | (with_reducible exact ih1 _ _ _ _ _ _)
      | (with_reducible exact ih2 _ _ _ _)
      | (with_reducible exact formularylaw07_awake.mono _)
      | (with_reducible exact integers_BitOp.mono _ _ _ _)
      | (with_reducible exact integers_Wrapped.mono _ _ _ _)
      | (with_reducible exact LeO.refl _)
      | (with_reducible exact LeO.none _)
      | (with_reducible refine LeO.ite ?_ ?_)
      | (with_reducible refine LeO.bind ?_ (fun _ => ?_))
      | exact ih0 _ _ _ _
      | exact ih1 _ _ _ _ _ _
      | exact ih2 _ _ _ _
      | exact formularylaw07_awake.mono _
      | exact integers_BitOp.mono _ _ _ _
      | exact integers_Wrapped.mono _ _ _ _
      | exact LeO.none _
      | refine LeO.ite ?_ ?_
      | refine LeO.bind ?_ (fun _ => ?_)
    · intro y0 y1 y2 y3
      unfold formularylaw07_IntegersRing.j2
      repeat' first
      | (with_reducible exact ih0 _ _ _ _)
      | (with_reducible exact ih1 _ _ _ _ _ _)
      | (with_reducible exact ih2 _ _ _ _)
      | (with_reducible exact formularylaw07_awake.mono _)
      | (with_reducible exact integers_BitOp.mono _ _ _ _)
      | (with_reducible exact integers_Wrapped.mono _ _ _ _)
      | (with_reducible exact LeO.refl _)
      | (with_reducible exact LeO.none _)
      | (with_reducible refine LeO.ite ?_ ?_)
      | (with_reducible refine LeO.bind ?_ (fun _ => ?_))
      | exact ih0 _ _ _ _
      | exact ih1 _ _ _ _ _ _
      | exact ih2 _ _ _ _
      | exact formularylaw07_awake.mono _
      | exact integers_BitOp.mono _ _ _ _
      | exact integers_Wrapped.mono _ _ _ _
      | exact LeO.none _
      | refine LeO.ite ?_ ?_
      | refine LeO.bind ?_ (fun _ => ?_)
theorem formularylaw07_IntegersRing.mono : ∀ a0 a1 a2 k, LeO (formularylaw07_IntegersRing.f k a0 a1 a2) (formularylaw07_IntegersRing.f (k + 1) a0 a1 a2) := by
  intro a0 a1 a2 k
  obtain ⟨ih0, ih1, ih2⟩ := formularylaw07_IntegersRing.mono_l k
  unfold formularylaw07_IntegersRing.f
  repeat' first
      | (with_reducible exact ih0 _ _ _ _)
      | (with_reducible exact ih1 _ _ _ _ _ _)
      | (with_reducible exact ih2 _ _ _ _)
      | (with_reducible exact formularylaw07_awake.mono _)
      | (with_reducible exact integers_BitOp.mono _ _ _ _)
      | (with_reducible exact integers_Wrapped.mono _ _ _ _)
      | (with_reducible exact LeO.refl _)
      | (with_reducible exact LeO.none _)
      | (with_reducible refine LeO.ite ?_ ?_)
      | (with_reducible refine LeO.bind ?_ (fun _ => ?_))
      | exact ih0 _ _ _ _
      | exact ih1 _ _ _ _ _ _
      | exact ih2 _ _ _ _
      | exact formularylaw07_awake.mono _
      | exact integers_BitOp.mono _ _ _ _
      | exact integers_Wrapped.mono _ _ _ _
      | exact LeO.none _
      | refine LeO.ite ?_ ?_
      | refine LeO.bind ?_ (fun _ => ?_)
set_option maxHeartbeats 8000000 in
set_option maxRecDepth 100000 in
theorem formularylaw07_IntegersRing.calls (k : Nat) (a0 : Int) (a1 : Int) (a2 : Int) (r : Bool) (w : World) (h : formularylaw07_IntegersRing.f k a0 a1 a2 = some r) :
    Calls Try.prog 8 #[.int .i64 a0, .int .i64 a1, .int .i64 a2] w fun e w' => e = .returned (.bool r) ∧ Below w.heap.size w w' := by
  have HB := Aside0.mk (Below.refl w.heap.size w)
  have H : ((formularylaw07_awake.f k).bind fun t229 => (if t229 = true then ((formularyref07_TwoErr.f a0 a1).bind fun t230 => (if t230 = 0 then ((formularyref07_NumberErr.f a2).bind fun t231 => (formularylaw07_IntegersRing.j0 k a0 a1 a2 (t231 != 0))) else (formularylaw07_IntegersRing.j0 k a0 a1 a2 true))) else (none))) = some r := h
  clear h
  replace H := Option.bind_eq_some_iff.mp H
  obtain ⟨t229, A40, H⟩ := H
  replace H : (if t229 = true then ((formularyref07_TwoErr.f a0 a1).bind fun t230 => (if t230 = 0 then ((formularyref07_NumberErr.f a2).bind fun t231 => (formularylaw07_IntegersRing.j0 k a0 a1 a2 (t231 != 0))) else (formularylaw07_IntegersRing.j0 k a0 a1 a2 true))) else (none)) = some r := H
  have A4 := Aside0.mk A40
  clear A40
  by_cases c5 : t229 = true
  · subst c5
    have H1 : ((formularyref07_TwoErr.f a0 a1).bind fun t230 => (if t230 = 0 then ((formularyref07_NumberErr.f a2).bind fun t231 => (formularylaw07_IntegersRing.j0 k a0 a1 a2 (t231 != 0))) else (formularylaw07_IntegersRing.j0 k a0 a1 a2 true))) = some r := by rw [if_pos rfl] at H; exact H
    clear H
    have H := H1
    clear H1
    have HC6 := Aside0.mk H
    clear H
    go_enter Try.func8, Try.ntmps8
    go_upto_region 3 with (first | ((with_reducible refine gate_callee (f := 12) rfl ?_); refine goesL_ (some 46) rfl rfl Try.func12 (by kernel_rfl) rfl #[] rfl (by (try simp only [List.map_toArray, List.map_cons, List.map_nil]); first | done | rfl | (simp only [List.length_drop, List.length_take]; rfl)) ?_; (with_reducible refine (formularylaw07_awake.calls k  true _ A4.out).mono ?_); rintro e w7 ⟨rfl, hb⟩; refine ⟨_, rfl, ?_⟩; have n0_ := Aside0.mk (below_step (by repeat (first | (with_reducible first | exact HB.out | apply below_alloc | apply pw_below_drewN | apply below_drew1) | exact HB.out)) hb); clear HB; have HB := n0_; clear n0_; (try clear hb); (try clear hb2); (try clear hk); (try clear hi)))
    (try simp only [Act.put, List.setIfInBounds_toArray, List.set_cons_zero, List.set_cons_succ])
    go_cut [56] (fun v56 wc => ∃ (kq : Nat) (x56_5 : Bool), v56 = .bool x56_5 ∧ Aside0 (formularylaw07_IntegersRing.j0 kq a0 a1 a2 x56_5 = some r) ∧ Aside0 (kq ≤ k) ∧ Aside0 (Below w.heap.size w wc))
    case first =>
      have H := HC6.out
      clear HC6
      replace H := Option.bind_eq_some_iff.mp H
      obtain ⟨t230, A80, H⟩ := H
      replace H : (if t230 = 0 then ((formularyref07_NumberErr.f a2).bind fun t231 => (formularylaw07_IntegersRing.j0 k a0 a1 a2 (t231 != 0))) else (formularylaw07_IntegersRing.j0 k a0 a1 a2 true)) = some r := H
      have A8 := Aside0.mk A80
      clear A80
      by_cases c9 : t230 = 0
      · rw [if_pos c9] at H
        have c9b0 : (t230 == 0) = true := beq_iff_eq.mpr c9
        have c9b1 : (t230 != 0) = false := bne_eq_false_iff_eq.mpr c9
        clear c9
        (first | rw [c9b0] | (simp only [i64_w, i32_w]; rw [c9b0]) | skip)
        replace H := Option.bind_eq_some_iff.mp H
        obtain ⟨t231, A100, H⟩ := H
        replace H : (formularylaw07_IntegersRing.j0 k a0 a1 a2 (t231 != 0)) = some r := H
        have A10 := Aside0.mk A100
        clear A100
        as_aux_lemma =>
          have H' := Aside0.mk H
          clear H
          go_wp2_with (first | ((with_reducible refine gate_callee (f := 25) rfl ?_); refine goesL_ (some 50) rfl rfl Try.func25 (by kernel_rfl) rfl #[.int .i64 a0, .int .i64 a1] rfl (by (try simp only [List.map_toArray, List.map_cons, List.map_nil]); first | done | rfl | (simp only [List.length_drop, List.length_take]; rfl)) ?_; (with_reducible refine (formularyref07_TwoErr.calls a0 a1 t230 _ A8.out).mono ?_); rintro e w' ⟨rfl, ⟨nd, rfl⟩⟩; refine ⟨_, rfl, ?_⟩) | (go_at_call 28; (with_reducible refine (formularyref07_NumberErr.calls a2 t231 _ A10.out).mono ?_); rintro e w' ⟨rfl, ⟨nd, rfl⟩⟩))
          go_meet
          case rel => exact ⟨_, ((t231 != 0)), (by first | rfl | (simp; done) | (simp [*]; done)), H', ⟨by first | omega | exact Nat.le_refl _⟩, ⟨by repeat (first | (with_reducible first | exact HB.out | apply below_alloc | apply pw_below_drewN | apply below_drew1) | exact HB.out)⟩⟩
      · rw [if_neg c9] at H
        have c9b0 : (t230 == 0) = false := beq_eq_false_iff_ne.mpr c9
        have c9b1 : (t230 != 0) = true := bne_iff_ne.mpr c9
        (first | rw [c9b0] | (simp only [i64_w, i32_w]; rw [c9b0]) | skip)
        as_aux_lemma =>
          have H' := Aside0.mk H
          clear H
          go_wp2_with (first | ((with_reducible refine gate_callee (f := 25) rfl ?_); refine goesL_ (some 50) rfl rfl Try.func25 (by kernel_rfl) rfl #[.int .i64 a0, .int .i64 a1] rfl (by (try simp only [List.map_toArray, List.map_cons, List.map_nil]); first | done | rfl | (simp only [List.length_drop, List.length_take]; rfl)) ?_; (with_reducible refine (formularyref07_TwoErr.calls a0 a1 t230 _ A8.out).mono ?_); rintro e w' ⟨rfl, ⟨nd, rfl⟩⟩; refine ⟨_, rfl, ?_⟩))
          go_meet
          case rel => exact ⟨_, (true), (by first | rfl | (simp; done) | (simp [*]; done)), H', ⟨by first | omega | exact Nat.le_refl _⟩, ⟨by repeat (first | (with_reducible first | exact HB.out | apply below_alloc | apply pw_below_drewN | apply below_drew1) | exact HB.out)⟩⟩
    case rest =>
      clear HC6
      try clear c1
      try clear c2
      try clear p2
      try clear c5
      try clear c8
      try clear c9
      try clear c9b0
      try clear c9b1
      obtain ⟨kq, x56_5, rfl, HA, HJ5, HB⟩ := hcut
      cases kq with
      | zero => exact absurd HA.out (by simp [formularylaw07_IntegersRing.j0])
      | succ kj5 =>
        have H := HA.out
        clear HA
        simp only [formularylaw07_IntegersRing.j0] at H
        by_cases c11 : x56_5 = true
        · subst c11
          have H1 : (some true) = some r := by rw [if_pos rfl] at H; exact H
          clear H
          have H := H1
          clear H1
          as_aux_lemma =>
            obtain rfl := Option.some.inj H
            go_wp2
            go_ret
            exact ⟨by first | rfl | (simp [errW_none, errW_some] <;> rfl) | (simp [*, errW_none, errW_some] <;> rfl), by repeat (first | (with_reducible first | exact HB.out | apply below_alloc | apply pw_below_drewN | apply below_drew1) | exact HB.out)⟩
        · replace c11 := Bool.eq_false_iff.mpr c11
          subst c11
          have H1 : (formularylaw07_IntegersRing.l0 kj5 a0 a1 a2 true (([0, 2] : List Int)) 0) = some r := by rw [if_neg (show ¬ (false = true) by decide)] at H; exact H
          clear H
          have H := H1
          clear H1
          obtain ⟨y232, hy232⟩ : ∃ y_ : List Int, y_ = (([0, 2] : List Int)) := ⟨_, rfl⟩
          replace H : (formularylaw07_IntegersRing.l0 kj5 a0 a1 a2 true y232 0) = some r := by first | (rw [hy232]; with_reducible exact H) | (have H2_ := (Option.bind_some _ _).symm.trans H; rw [hy232]; with_reducible exact H2_) | (have H2_ := (Option.bind_some _ _).symm.trans H; with_reducible exact H2_) | with_reducible exact H | (rw [hy232]; exact H) | exact H
          have Ny232 := Aside0.mk hy232
          clear hy232
          have H' := Aside0.mk H
          clear H
          go_wp2_with (first | ((with_reducible refine gate_dst (N := 57) rfl ?_); refine Kd.R_lit (Kd.int .i64) _ 3 ?hg (N := 57) ?hd (xs := ([0, 2] : List Int)) (inner := [.int .i64 0, .int .i64 2]) (ok := fun _ => True) (okp := fun _ => True) ?hr ?hp (fun _ hk => hk) trivial (Below.refl _ _) (Nat.le_refl _) (by simp) ?_; (case hd => rfl); (case hg => rfl); (case hr => first | (go_simp; done) | (go_simp; rfl)); (case hp => exact (Reps.one (show Kd.M (Kd.int .i64) _ _ _ 0 [.int .i64 0] from rfl) (Reps.one (show Kd.M (Kd.int .i64) _ _ _ 2 [.int .i64 2] from rfl) (Reps.none _ _)))); intro v233 w12 ho13 hb hg_ hnew_; clear hg_ hnew_; (first | rw [← Ny232.out] at ho13 | (simp only [Int.reduceToNat] at ho13; rw [← Ny232.out] at ho13)); have n0_ := Aside0.mk (Kd.R_lower ho13 (below_size (by repeat (first | (with_reducible first | exact HB.out | apply below_alloc | apply pw_below_drewN | apply below_drew1) | exact HB.out)))); have n1_ := Aside0.mk (below_step (by repeat (first | (with_reducible first | exact HB.out | apply below_alloc | apply pw_below_drewN | apply below_drew1) | exact HB.out)) hb); clear HB; have HO234 := n0_; have HB := n1_; clear n0_ n1_; clear hb ho13))
          go_loopg [7, 9] kj5 (fun kq v7 v9 w' => ∃ (x7_2 : Bool) (x9_2 : Int), v7 = .bool x7_2 ∧ v9 = .int .i64 x9_2 ∧ Aside0 (formularylaw07_IntegersRing.l0 kq a0 a1 a2 x7_2 y232 x9_2 = some r) ∧ Aside0 (kq ≤ kj5) ∧ Aside0 (Kd.R (Kd.int .i64) 3 w' w.heap.size (fun _ => True) v233 y232) ∧ Aside0 (Below w.heap.size w w'))
          case atStart => exact ⟨(true), (0), (by first | rfl | (simp; done) | (simp [*]; done)), (by first | rfl | (simp; done) | (simp [*]; done)), H', ⟨Nat.le_refl _⟩, ⟨by (with_reducible repeat (first | apply Kd.R_alloc | apply Kd.R_drewN | apply Kd.R_drew)); exact HO234.out⟩, ⟨by repeat (first | (with_reducible first | exact HB.out | apply below_alloc | apply pw_below_drewN | apply below_drew1) | exact HB.out)⟩⟩
          case round =>
            clear H'
            try clear c1
            try clear c2
            try clear p2
            try clear c5
            try clear c8
            try clear c9
            try clear c9b0
            try clear c9b1
            try clear c11
            try clear c12
            try clear p2
            obtain ⟨x7_2, x9_2, rfl, rfl, HA, HK2, HO_8, HB⟩ := hrel
            cases gk with
            | zero => exact absurd HA.out (by simp [formularylaw07_IntegersRing.l0])
            | succ k2 =>
              have H := HA.out
              clear HA
              simp only [formularylaw07_IntegersRing.l0] at H
              by_cases c14 : x9_2 < (y232.length : Int)
              · rw [if_pos c14] at H
                have c14b0 : decide (x9_2 < (y232.length : Int)) = true := decide_eq_true c14
                clear c14
                by_cases c15 : 0 ≤ x9_2
                · rw [if_pos c15] at H
                  have c15b0 : decide (0 ≤ x9_2) = true := decide_eq_true c15
                  clear c15
                  replace H := Option.bind_eq_some_iff.mp H
                  obtain ⟨⟨t236, t237⟩, A160, H⟩ := H
                  replace H : ((integers_Wrapped.f k2 (rd y232 x9_2) a1 a0).bind fun bt239 => ((integers_Wrapped.f k2 (rd y232 x9_2) t236 a2).bind fun bt242 => ((integers_Wrapped.f k2 (rd y232 x9_2) a1 a2).bind fun bt245 => ((integers_Wrapped.f k2 (rd y232 x9_2) a0 bt245.1).bind fun bt248 => (if x7_2 = true then (if t237 = 0 then (if bt239.2 = 0 then (if bt242.2 = 0 then (if bt245.2 = 0 then (if bt248.2 = 0 then (if t236 = bt239.1 then (formularylaw07_IntegersRing.l0 k2 a0 a1 a2 (bt242.1 == bt248.1) y232 (wrap64 (x9_2 + 1))) else (formularylaw07_IntegersRing.l0 k2 a0 a1 a2 false y232 (wrap64 (x9_2 + 1)))) else (formularylaw07_IntegersRing.l0 k2 a0 a1 a2 false y232 (wrap64 (x9_2 + 1)))) else (formularylaw07_IntegersRing.l0 k2 a0 a1 a2 false y232 (wrap64 (x9_2 + 1)))) else (formularylaw07_IntegersRing.l0 k2 a0 a1 a2 false y232 (wrap64 (x9_2 + 1)))) else (formularylaw07_IntegersRing.l0 k2 a0 a1 a2 false y232 (wrap64 (x9_2 + 1)))) else (formularylaw07_IntegersRing.l0 k2 a0 a1 a2 false y232 (wrap64 (x9_2 + 1)))) else (formularylaw07_IntegersRing.l0 k2 a0 a1 a2 false y232 (wrap64 (x9_2 + 1)))))))) = some r := H
                  have A16 := Aside0.mk A160
                  clear A160
                  replace H := Option.bind_eq_some_iff.mp H
                  obtain ⟨⟨t239, t240⟩, A170, H⟩ := H
                  replace H : ((integers_Wrapped.f k2 (rd y232 x9_2) t236 a2).bind fun bt242 => ((integers_Wrapped.f k2 (rd y232 x9_2) a1 a2).bind fun bt245 => ((integers_Wrapped.f k2 (rd y232 x9_2) a0 bt245.1).bind fun bt248 => (if x7_2 = true then (if t237 = 0 then (if t240 = 0 then (if bt242.2 = 0 then (if bt245.2 = 0 then (if bt248.2 = 0 then (if t236 = t239 then (formularylaw07_IntegersRing.l0 k2 a0 a1 a2 (bt242.1 == bt248.1) y232 (wrap64 (x9_2 + 1))) else (formularylaw07_IntegersRing.l0 k2 a0 a1 a2 false y232 (wrap64 (x9_2 + 1)))) else (formularylaw07_IntegersRing.l0 k2 a0 a1 a2 false y232 (wrap64 (x9_2 + 1)))) else (formularylaw07_IntegersRing.l0 k2 a0 a1 a2 false y232 (wrap64 (x9_2 + 1)))) else (formularylaw07_IntegersRing.l0 k2 a0 a1 a2 false y232 (wrap64 (x9_2 + 1)))) else (formularylaw07_IntegersRing.l0 k2 a0 a1 a2 false y232 (wrap64 (x9_2 + 1)))) else (formularylaw07_IntegersRing.l0 k2 a0 a1 a2 false y232 (wrap64 (x9_2 + 1)))) else (formularylaw07_IntegersRing.l0 k2 a0 a1 a2 false y232 (wrap64 (x9_2 + 1))))))) = some r := H
                  have A17 := Aside0.mk A170
                  clear A170
                  replace H := Option.bind_eq_some_iff.mp H
                  obtain ⟨⟨t242, t243⟩, A180, H⟩ := H
                  replace H : ((integers_Wrapped.f k2 (rd y232 x9_2) a1 a2).bind fun bt245 => ((integers_Wrapped.f k2 (rd y232 x9_2) a0 bt245.1).bind fun bt248 => (if x7_2 = true then (if t237 = 0 then (if t240 = 0 then (if t243 = 0 then (if bt245.2 = 0 then (if bt248.2 = 0 then (if t236 = t239 then (formularylaw07_IntegersRing.l0 k2 a0 a1 a2 (t242 == bt248.1) y232 (wrap64 (x9_2 + 1))) else (formularylaw07_IntegersRing.l0 k2 a0 a1 a2 false y232 (wrap64 (x9_2 + 1)))) else (formularylaw07_IntegersRing.l0 k2 a0 a1 a2 false y232 (wrap64 (x9_2 + 1)))) else (formularylaw07_IntegersRing.l0 k2 a0 a1 a2 false y232 (wrap64 (x9_2 + 1)))) else (formularylaw07_IntegersRing.l0 k2 a0 a1 a2 false y232 (wrap64 (x9_2 + 1)))) else (formularylaw07_IntegersRing.l0 k2 a0 a1 a2 false y232 (wrap64 (x9_2 + 1)))) else (formularylaw07_IntegersRing.l0 k2 a0 a1 a2 false y232 (wrap64 (x9_2 + 1)))) else (formularylaw07_IntegersRing.l0 k2 a0 a1 a2 false y232 (wrap64 (x9_2 + 1)))))) = some r := H
                  have A18 := Aside0.mk A180
                  clear A180
                  replace H := Option.bind_eq_some_iff.mp H
                  obtain ⟨⟨t245, t246⟩, A190, H⟩ := H
                  replace H : ((integers_Wrapped.f k2 (rd y232 x9_2) a0 t245).bind fun bt248 => (if x7_2 = true then (if t237 = 0 then (if t240 = 0 then (if t243 = 0 then (if t246 = 0 then (if bt248.2 = 0 then (if t236 = t239 then (formularylaw07_IntegersRing.l0 k2 a0 a1 a2 (t242 == bt248.1) y232 (wrap64 (x9_2 + 1))) else (formularylaw07_IntegersRing.l0 k2 a0 a1 a2 false y232 (wrap64 (x9_2 + 1)))) else (formularylaw07_IntegersRing.l0 k2 a0 a1 a2 false y232 (wrap64 (x9_2 + 1)))) else (formularylaw07_IntegersRing.l0 k2 a0 a1 a2 false y232 (wrap64 (x9_2 + 1)))) else (formularylaw07_IntegersRing.l0 k2 a0 a1 a2 false y232 (wrap64 (x9_2 + 1)))) else (formularylaw07_IntegersRing.l0 k2 a0 a1 a2 false y232 (wrap64 (x9_2 + 1)))) else (formularylaw07_IntegersRing.l0 k2 a0 a1 a2 false y232 (wrap64 (x9_2 + 1)))) else (formularylaw07_IntegersRing.l0 k2 a0 a1 a2 false y232 (wrap64 (x9_2 + 1))))) = some r := H
                  have A19 := Aside0.mk A190
                  clear A190
                  replace H := Option.bind_eq_some_iff.mp H
                  obtain ⟨⟨t248, t249⟩, A200, H⟩ := H
                  replace H : (if x7_2 = true then (if t237 = 0 then (if t240 = 0 then (if t243 = 0 then (if t246 = 0 then (if t249 = 0 then (if t236 = t239 then (formularylaw07_IntegersRing.l0 k2 a0 a1 a2 (t242 == t248) y232 (wrap64 (x9_2 + 1))) else (formularylaw07_IntegersRing.l0 k2 a0 a1 a2 false y232 (wrap64 (x9_2 + 1)))) else (formularylaw07_IntegersRing.l0 k2 a0 a1 a2 false y232 (wrap64 (x9_2 + 1)))) else (formularylaw07_IntegersRing.l0 k2 a0 a1 a2 false y232 (wrap64 (x9_2 + 1)))) else (formularylaw07_IntegersRing.l0 k2 a0 a1 a2 false y232 (wrap64 (x9_2 + 1)))) else (formularylaw07_IntegersRing.l0 k2 a0 a1 a2 false y232 (wrap64 (x9_2 + 1)))) else (formularylaw07_IntegersRing.l0 k2 a0 a1 a2 false y232 (wrap64 (x9_2 + 1)))) else (formularylaw07_IntegersRing.l0 k2 a0 a1 a2 false y232 (wrap64 (x9_2 + 1)))) = some r := H
                  have A20 := Aside0.mk A200
                  clear A200
                  by_cases c21 : x7_2 = true
                  · subst c21
                    have H1 : (if t237 = 0 then (if t240 = 0 then (if t243 = 0 then (if t246 = 0 then (if t249 = 0 then (if t236 = t239 then (formularylaw07_IntegersRing.l0 k2 a0 a1 a2 (t242 == t248) y232 (wrap64 (x9_2 + 1))) else (formularylaw07_IntegersRing.l0 k2 a0 a1 a2 false y232 (wrap64 (x9_2 + 1)))) else (formularylaw07_IntegersRing.l0 k2 a0 a1 a2 false y232 (wrap64 (x9_2 + 1)))) else (formularylaw07_IntegersRing.l0 k2 a0 a1 a2 false y232 (wrap64 (x9_2 + 1)))) else (formularylaw07_IntegersRing.l0 k2 a0 a1 a2 false y232 (wrap64 (x9_2 + 1)))) else (formularylaw07_IntegersRing.l0 k2 a0 a1 a2 false y232 (wrap64 (x9_2 + 1)))) else (formularylaw07_IntegersRing.l0 k2 a0 a1 a2 false y232 (wrap64 (x9_2 + 1)))) = some r := by rw [if_pos rfl] at H; exact H
                    clear H
                    have H := H1
                    clear H1
                    by_cases c22 : t237 = 0
                    · rw [if_pos c22] at H
                      have c22b0 : (t237 == 0) = true := beq_iff_eq.mpr c22
                      have c22b1 : (t237 != 0) = false := bne_eq_false_iff_eq.mpr c22
                      clear c22
                      by_cases c23 : t240 = 0
                      · rw [if_pos c23] at H
                        have c23b0 : (t240 == 0) = true := beq_iff_eq.mpr c23
                        have c23b1 : (t240 != 0) = false := bne_eq_false_iff_eq.mpr c23
                        clear c23
                        by_cases c24 : t243 = 0
                        · rw [if_pos c24] at H
                          have c24b0 : (t243 == 0) = true := beq_iff_eq.mpr c24
                          have c24b1 : (t243 != 0) = false := bne_eq_false_iff_eq.mpr c24
                          clear c24
                          by_cases c25 : t246 = 0
                          · rw [if_pos c25] at H
                            have c25b0 : (t246 == 0) = true := beq_iff_eq.mpr c25
                            have c25b1 : (t246 != 0) = false := bne_eq_false_iff_eq.mpr c25
                            clear c25
                            by_cases c26 : t249 = 0
                            · rw [if_pos c26] at H
                              have c26b0 : (t249 == 0) = true := beq_iff_eq.mpr c26
                              have c26b1 : (t249 != 0) = false := bne_eq_false_iff_eq.mpr c26
                              clear c26
                              by_cases c27 : t236 = t239
                              · rw [if_pos c27] at H
                                have c27b0 : (t236 == t239) = true := beq_iff_eq.mpr c27
                                have c27b1 : (t236 != t239) = false := bne_eq_false_iff_eq.mpr c27
                                clear c27
                                as_aux_lemma =>
                                  have H' := Aside0.mk H
                                  clear H
                                  obtain ⟨Ao28, co28, eo28⟩ := Kd.R_slice HO_8.out
                                  subst eo28
                                  have p235 : 0 ≤ (x9_2 : Int) := of_decide_eq_true (by first | (with_reducible assumption) | assumption)
                                  have q235 : x9_2 < (y232.length : Int) := of_decide_eq_true (by first | (with_reducible assumption) | assumption)
                                  obtain ⟨ad235, e235, hx235_0⟩ := Kd.at_int (Kd.R_reads' HO_8.out).2.2 x9_2 p235 q235
                                  cases e235
                                  replace p235 := eq_true p235
                                  replace q235 := eq_true q235
                                  go_wp2_with (first | ((with_reducible refine gate_callee (f := 14) rfl ?_); refine goesL_ (some 71) rfl rfl Try.func14 (by kernel_rfl) rfl #[.int .i64 (rd y232 x9_2), .int .i64 a0, .int .i64 a1] rfl (by (try simp only [List.map_toArray, List.map_cons, List.map_nil]); first | done | rfl | (simp only [List.length_drop, List.length_take]; rfl)) ?_; (with_reducible refine (integers_Wrapped.calls k2 (rd y232 x9_2) a0 a1 t236 t237 _ A16.out).mono ?_); rintro e w29 ⟨rfl, hb⟩; refine ⟨_, rfl, ?_⟩; have n0_ := Aside0.mk (Kd.R_below (by (with_reducible repeat (first | apply Kd.R_alloc | apply Kd.R_drewN | apply Kd.R_drew)); exact HO_8.out) hb); have n1_ := Aside0.mk (below_step (by repeat (first | (with_reducible first | exact HB.out | apply below_alloc | apply pw_below_drewN | apply below_drew1) | exact HB.out)) hb); clear HO_8; clear HB; have HO_8 := n0_; have HB := n1_; clear n0_ n1_; (try clear hb); (try clear hb2); (try clear hk); (try clear hi); have p238 : 0 ≤ (x9_2 : Int) := of_decide_eq_true (by first | (with_reducible assumption) | assumption); have q238 : x9_2 < (y232.length : Int) := of_decide_eq_true (by first | (with_reducible assumption) | assumption); obtain ⟨ad238, e238, hx238_0⟩ := Kd.at_int (Kd.R_reads' HO_8.out).2.2 x9_2 p238 q238; obtain rfl : ad235 = ad238 := (by injection e238); replace p238 := eq_true p238; replace q238 := eq_true q238) | ((with_reducible refine gate_callee (f := 14) rfl ?_); refine goesL_ (some 81) rfl rfl Try.func14 (by kernel_rfl) rfl #[.int .i64 (rd y232 x9_2), .int .i64 a1, .int .i64 a0] rfl (by (try simp only [List.map_toArray, List.map_cons, List.map_nil]); first | done | rfl | (simp only [List.length_drop, List.length_take]; rfl)) ?_; (with_reducible refine (integers_Wrapped.calls k2 (rd y232 x9_2) a1 a0 t239 t240 _ A17.out).mono ?_); rintro e w30 ⟨rfl, hb⟩; refine ⟨_, rfl, ?_⟩; have n0_ := Aside0.mk (Kd.R_below (by (with_reducible repeat (first | apply Kd.R_alloc | apply Kd.R_drewN | apply Kd.R_drew)); exact HO_8.out) hb); have n1_ := Aside0.mk (below_step (by repeat (first | (with_reducible first | exact HB.out | apply below_alloc | apply pw_below_drewN | apply below_drew1) | exact HB.out)) hb); clear HO_8; clear HB; have HO_8 := n0_; have HB := n1_; clear n0_ n1_; (try clear hb); (try clear hb2); (try clear hk); (try clear hi); have p241 : 0 ≤ (x9_2 : Int) := of_decide_eq_true (by first | (with_reducible assumption) | assumption); have q241 : x9_2 < (y232.length : Int) := of_decide_eq_true (by first | (with_reducible assumption) | assumption); obtain ⟨ad241, e241, hx241_0⟩ := Kd.at_int (Kd.R_reads' HO_8.out).2.2 x9_2 p241 q241; obtain rfl : ad235 = ad241 := (by injection e241); replace p241 := eq_true p241; replace q241 := eq_true q241) | ((with_reducible refine gate_callee (f := 14) rfl ?_); refine goesL_ (some 91) rfl rfl Try.func14 (by kernel_rfl) rfl #[.int .i64 (rd y232 x9_2), .int .i64 t236, .int .i64 a2] rfl (by (try simp only [List.map_toArray, List.map_cons, List.map_nil]); first | done | rfl | (simp only [List.length_drop, List.length_take]; rfl)) ?_; (with_reducible refine (integers_Wrapped.calls k2 (rd y232 x9_2) t236 a2 t242 t243 _ A18.out).mono ?_); rintro e w31 ⟨rfl, hb⟩; refine ⟨_, rfl, ?_⟩; have n0_ := Aside0.mk (Kd.R_below (by (with_reducible repeat (first | apply Kd.R_alloc | apply Kd.R_drewN | apply Kd.R_drew)); exact HO_8.out) hb); have n1_ := Aside0.mk (below_step (by repeat (first | (with_reducible first | exact HB.out | apply below_alloc | apply pw_below_drewN | apply below_drew1) | exact HB.out)) hb); clear HO_8; clear HB; have HO_8 := n0_; have HB := n1_; clear n0_ n1_; (try clear hb); (try clear hb2); (try clear hk); (try clear hi); have p244 : 0 ≤ (x9_2 : Int) := of_decide_eq_true (by first | (with_reducible assumption) | assumption); have q244 : x9_2 < (y232.length : Int) := of_decide_eq_true (by first | (with_reducible assumption) | assumption); obtain ⟨ad244, e244, hx244_0⟩ := Kd.at_int (Kd.R_reads' HO_8.out).2.2 x9_2 p244 q244; obtain rfl : ad235 = ad244 := (by injection e244); replace p244 := eq_true p244; replace q244 := eq_true q244) | ((with_reducible refine gate_callee (f := 14) rfl ?_); refine goesL_ (some 101) rfl rfl Try.func14 (by kernel_rfl) rfl #[.int .i64 (rd y232 x9_2), .int .i64 a1, .int .i64 a2] rfl (by (try simp only [List.map_toArray, List.map_cons, List.map_nil]); first | done | rfl | (simp only [List.length_drop, List.length_take]; rfl)) ?_; (with_reducible refine (integers_Wrapped.calls k2 (rd y232 x9_2) a1 a2 t245 t246 _ A19.out).mono ?_); rintro e w32 ⟨rfl, hb⟩; refine ⟨_, rfl, ?_⟩; have n0_ := Aside0.mk (Kd.R_below (by (with_reducible repeat (first | apply Kd.R_alloc | apply Kd.R_drewN | apply Kd.R_drew)); exact HO_8.out) hb); have n1_ := Aside0.mk (below_step (by repeat (first | (with_reducible first | exact HB.out | apply below_alloc | apply pw_below_drewN | apply below_drew1) | exact HB.out)) hb); clear HO_8; clear HB; have HO_8 := n0_; have HB := n1_; clear n0_ n1_; (try clear hb); (try clear hb2); (try clear hk); (try clear hi); have p247 : 0 ≤ (x9_2 : Int) := of_decide_eq_true (by first | (with_reducible assumption) | assumption); have q247 : x9_2 < (y232.length : Int) := of_decide_eq_true (by first | (with_reducible assumption) | assumption); obtain ⟨ad247, e247, hx247_0⟩ := Kd.at_int (Kd.R_reads' HO_8.out).2.2 x9_2 p247 q247; obtain rfl : ad235 = ad247 := (by injection e247); replace p247 := eq_true p247; replace q247 := eq_true q247) | ((with_reducible refine gate_callee (f := 14) rfl ?_); refine goesL_ (some 111) rfl rfl Try.func14 (by kernel_rfl) rfl #[.int .i64 (rd y232 x9_2), .int .i64 a0, .int .i64 t245] rfl (by (try simp only [List.map_toArray, List.map_cons, List.map_nil]); first | done | rfl | (simp only [List.length_drop, List.length_take]; rfl)) ?_; (with_reducible refine (integers_Wrapped.calls k2 (rd y232 x9_2) a0 t245 t248 t249 _ A20.out).mono ?_); rintro e w33 ⟨rfl, hb⟩; refine ⟨_, rfl, ?_⟩; have n0_ := Aside0.mk (Kd.R_below (by (with_reducible repeat (first | apply Kd.R_alloc | apply Kd.R_drewN | apply Kd.R_drew)); exact HO_8.out) hb); have n1_ := Aside0.mk (below_step (by repeat (first | (with_reducible first | exact HB.out | apply below_alloc | apply pw_below_drewN | apply below_drew1) | exact HB.out)) hb); clear HO_8; clear HB; have HO_8 := n0_; have HB := n1_; clear n0_ n1_; (try clear hb); (try clear hb2); (try clear hk); (try clear hi)))
                                  go_roundg k2
                                  case measure => have := HJ5.out; have := HK2.out; omega
                                  case rel => exact ⟨((t242 == t248)), (wrap64 (x9_2 + 1)), (by first | rfl | (simp; done) | (simp [*]; done)), (by first | rfl | (simp; done) | (simp [*]; done)), H', ⟨by have := HJ5.out; have := HK2.out; omega⟩, ⟨by (with_reducible repeat (first | apply Kd.R_alloc | apply Kd.R_drewN | apply Kd.R_drew)); exact HO_8.out⟩, ⟨by repeat (first | (with_reducible first | exact HB.out | apply below_alloc | apply pw_below_drewN | apply below_drew1) | exact HB.out)⟩⟩
                              · rw [if_neg c27] at H
                                have c27b0 : (t236 == t239) = false := beq_eq_false_iff_ne.mpr c27
                                have c27b1 : (t236 != t239) = true := bne_iff_ne.mpr c27
                                as_aux_lemma =>
                                  have H' := Aside0.mk H
                                  clear H
                                  obtain ⟨Ao34, co34, eo34⟩ := Kd.R_slice HO_8.out
                                  subst eo34
                                  have p235 : 0 ≤ (x9_2 : Int) := of_decide_eq_true (by first | (with_reducible assumption) | assumption)
                                  have q235 : x9_2 < (y232.length : Int) := of_decide_eq_true (by first | (with_reducible assumption) | assumption)
                                  obtain ⟨ad235, e235, hx235_0⟩ := Kd.at_int (Kd.R_reads' HO_8.out).2.2 x9_2 p235 q235
                                  cases e235
                                  replace p235 := eq_true p235
                                  replace q235 := eq_true q235
                                  go_wp2_with (first | ((with_reducible refine gate_callee (f := 14) rfl ?_); refine goesL_ (some 71) rfl rfl Try.func14 (by kernel_rfl) rfl #[.int .i64 (rd y232 x9_2), .int .i64 a0, .int .i64 a1] rfl (by (try simp only [List.map_toArray, List.map_cons, List.map_nil]); first | done | rfl | (simp only [List.length_drop, List.length_take]; rfl)) ?_; (with_reducible refine (integers_Wrapped.calls k2 (rd y232 x9_2) a0 a1 t236 t237 _ A16.out).mono ?_); rintro e w35 ⟨rfl, hb⟩; refine ⟨_, rfl, ?_⟩; have n0_ := Aside0.mk (Kd.R_below (by (with_reducible repeat (first | apply Kd.R_alloc | apply Kd.R_drewN | apply Kd.R_drew)); exact HO_8.out) hb); have n1_ := Aside0.mk (below_step (by repeat (first | (with_reducible first | exact HB.out | apply below_alloc | apply pw_below_drewN | apply below_drew1) | exact HB.out)) hb); clear HO_8; clear HB; have HO_8 := n0_; have HB := n1_; clear n0_ n1_; (try clear hb); (try clear hb2); (try clear hk); (try clear hi); have p238 : 0 ≤ (x9_2 : Int) := of_decide_eq_true (by first | (with_reducible assumption) | assumption); have q238 : x9_2 < (y232.length : Int) := of_decide_eq_true (by first | (with_reducible assumption) | assumption); obtain ⟨ad238, e238, hx238_0⟩ := Kd.at_int (Kd.R_reads' HO_8.out).2.2 x9_2 p238 q238; obtain rfl : ad235 = ad238 := (by injection e238); replace p238 := eq_true p238; replace q238 := eq_true q238) | ((with_reducible refine gate_callee (f := 14) rfl ?_); refine goesL_ (some 81) rfl rfl Try.func14 (by kernel_rfl) rfl #[.int .i64 (rd y232 x9_2), .int .i64 a1, .int .i64 a0] rfl (by (try simp only [List.map_toArray, List.map_cons, List.map_nil]); first | done | rfl | (simp only [List.length_drop, List.length_take]; rfl)) ?_; (with_reducible refine (integers_Wrapped.calls k2 (rd y232 x9_2) a1 a0 t239 t240 _ A17.out).mono ?_); rintro e w36 ⟨rfl, hb⟩; refine ⟨_, rfl, ?_⟩; have n0_ := Aside0.mk (Kd.R_below (by (with_reducible repeat (first | apply Kd.R_alloc | apply Kd.R_drewN | apply Kd.R_drew)); exact HO_8.out) hb); have n1_ := Aside0.mk (below_step (by repeat (first | (with_reducible first | exact HB.out | apply below_alloc | apply pw_below_drewN | apply below_drew1) | exact HB.out)) hb); clear HO_8; clear HB; have HO_8 := n0_; have HB := n1_; clear n0_ n1_; (try clear hb); (try clear hb2); (try clear hk); (try clear hi); have p241 : 0 ≤ (x9_2 : Int) := of_decide_eq_true (by first | (with_reducible assumption) | assumption); have q241 : x9_2 < (y232.length : Int) := of_decide_eq_true (by first | (with_reducible assumption) | assumption); obtain ⟨ad241, e241, hx241_0⟩ := Kd.at_int (Kd.R_reads' HO_8.out).2.2 x9_2 p241 q241; obtain rfl : ad235 = ad241 := (by injection e241); replace p241 := eq_true p241; replace q241 := eq_true q241) | ((with_reducible refine gate_callee (f := 14) rfl ?_); refine goesL_ (some 91) rfl rfl Try.func14 (by kernel_rfl) rfl #[.int .i64 (rd y232 x9_2), .int .i64 t236, .int .i64 a2] rfl (by (try simp only [List.map_toArray, List.map_cons, List.map_nil]); first | done | rfl | (simp only [List.length_drop, List.length_take]; rfl)) ?_; (with_reducible refine (integers_Wrapped.calls k2 (rd y232 x9_2) t236 a2 t242 t243 _ A18.out).mono ?_); rintro e w37 ⟨rfl, hb⟩; refine ⟨_, rfl, ?_⟩; have n0_ := Aside0.mk (Kd.R_below (by (with_reducible repeat (first | apply Kd.R_alloc | apply Kd.R_drewN | apply Kd.R_drew)); exact HO_8.out) hb); have n1_ := Aside0.mk (below_step (by repeat (first | (with_reducible first | exact HB.out | apply below_alloc | apply pw_below_drewN | apply below_drew1) | exact HB.out)) hb); clear HO_8; clear HB; have HO_8 := n0_; have HB := n1_; clear n0_ n1_; (try clear hb); (try clear hb2); (try clear hk); (try clear hi); have p244 : 0 ≤ (x9_2 : Int) := of_decide_eq_true (by first | (with_reducible assumption) | assumption); have q244 : x9_2 < (y232.length : Int) := of_decide_eq_true (by first | (with_reducible assumption) | assumption); obtain ⟨ad244, e244, hx244_0⟩ := Kd.at_int (Kd.R_reads' HO_8.out).2.2 x9_2 p244 q244; obtain rfl : ad235 = ad244 := (by injection e244); replace p244 := eq_true p244; replace q244 := eq_true q244) | ((with_reducible refine gate_callee (f := 14) rfl ?_); refine goesL_ (some 101) rfl rfl Try.func14 (by kernel_rfl) rfl #[.int .i64 (rd y232 x9_2), .int .i64 a1, .int .i64 a2] rfl (by (try simp only [List.map_toArray, List.map_cons, List.map_nil]); first | done | rfl | (simp only [List.length_drop, List.length_take]; rfl)) ?_; (with_reducible refine (integers_Wrapped.calls k2 (rd y232 x9_2) a1 a2 t245 t246 _ A19.out).mono ?_); rintro e w38 ⟨rfl, hb⟩; refine ⟨_, rfl, ?_⟩; have n0_ := Aside0.mk (Kd.R_below (by (with_reducible repeat (first | apply Kd.R_alloc | apply Kd.R_drewN | apply Kd.R_drew)); exact HO_8.out) hb); have n1_ := Aside0.mk (below_step (by repeat (first | (with_reducible first | exact HB.out | apply below_alloc | apply pw_below_drewN | apply below_drew1) | exact HB.out)) hb); clear HO_8; clear HB; have HO_8 := n0_; have HB := n1_; clear n0_ n1_; (try clear hb); (try clear hb2); (try clear hk); (try clear hi); have p247 : 0 ≤ (x9_2 : Int) := of_decide_eq_true (by first | (with_reducible assumption) | assumption); have q247 : x9_2 < (y232.length : Int) := of_decide_eq_true (by first | (with_reducible assumption) | assumption); obtain ⟨ad247, e247, hx247_0⟩ := Kd.at_int (Kd.R_reads' HO_8.out).2.2 x9_2 p247 q247; obtain rfl : ad235 = ad247 := (by injection e247); replace p247 := eq_true p247; replace q247 := eq_true q247) | ((with_reducible refine gate_callee (f := 14) rfl ?_); refine goesL_ (some 111) rfl rfl Try.func14 (by kernel_rfl) rfl #[.int .i64 (rd y232 x9_2), .int .i64 a0, .int .i64 t245] rfl (by (try simp only [List.map_toArray, List.map_cons, List.map_nil]); first | done | rfl | (simp only [List.length_drop, List.length_take]; rfl)) ?_; (with_reducible refine (integers_Wrapped.calls k2 (rd y232 x9_2) a0 t245 t248 t249 _ A20.out).mono ?_); rintro e w39 ⟨rfl, hb⟩; refine ⟨_, rfl, ?_⟩; have n0_ := Aside0.mk (Kd.R_below (by (with_reducible repeat (first | apply Kd.R_alloc | apply Kd.R_drewN | apply Kd.R_drew)); exact HO_8.out) hb); have n1_ := Aside0.mk (below_step (by repeat (first | (with_reducible first | exact HB.out | apply below_alloc | apply pw_below_drewN | apply below_drew1) | exact HB.out)) hb); clear HO_8; clear HB; have HO_8 := n0_; have HB := n1_; clear n0_ n1_; (try clear hb); (try clear hb2); (try clear hk); (try clear hi)))
                                  go_roundg k2
                                  case measure => have := HJ5.out; have := HK2.out; omega
                                  case rel => exact ⟨(false), (wrap64 (x9_2 + 1)), (by first | rfl | (simp; done) | (simp [*]; done)), (by first | rfl | (simp; done) | (simp [*]; done)), H', ⟨by have := HJ5.out; have := HK2.out; omega⟩, ⟨by (with_reducible repeat (first | apply Kd.R_alloc | apply Kd.R_drewN | apply Kd.R_drew)); exact HO_8.out⟩, ⟨by repeat (first | (with_reducible first | exact HB.out | apply below_alloc | apply pw_below_drewN | apply below_drew1) | exact HB.out)⟩⟩
                            · rw [if_neg c26] at H
                              have c26b0 : (t249 == 0) = false := beq_eq_false_iff_ne.mpr c26
                              have c26b1 : (t249 != 0) = true := bne_iff_ne.mpr c26
                              as_aux_lemma =>
                                have H' := Aside0.mk H
                                clear H
                                obtain ⟨Ao40, co40, eo40⟩ := Kd.R_slice HO_8.out
                                subst eo40
                                have p235 : 0 ≤ (x9_2 : Int) := of_decide_eq_true (by first | (with_reducible assumption) | assumption)
                                have q235 : x9_2 < (y232.length : Int) := of_decide_eq_true (by first | (with_reducible assumption) | assumption)
                                obtain ⟨ad235, e235, hx235_0⟩ := Kd.at_int (Kd.R_reads' HO_8.out).2.2 x9_2 p235 q235
                                cases e235
                                replace p235 := eq_true p235
                                replace q235 := eq_true q235
                                go_wp2_with (first | ((with_reducible refine gate_callee (f := 14) rfl ?_); refine goesL_ (some 71) rfl rfl Try.func14 (by kernel_rfl) rfl #[.int .i64 (rd y232 x9_2), .int .i64 a0, .int .i64 a1] rfl (by (try simp only [List.map_toArray, List.map_cons, List.map_nil]); first | done | rfl | (simp only [List.length_drop, List.length_take]; rfl)) ?_; (with_reducible refine (integers_Wrapped.calls k2 (rd y232 x9_2) a0 a1 t236 t237 _ A16.out).mono ?_); rintro e w41 ⟨rfl, hb⟩; refine ⟨_, rfl, ?_⟩; have n0_ := Aside0.mk (Kd.R_below (by (with_reducible repeat (first | apply Kd.R_alloc | apply Kd.R_drewN | apply Kd.R_drew)); exact HO_8.out) hb); have n1_ := Aside0.mk (below_step (by repeat (first | (with_reducible first | exact HB.out | apply below_alloc | apply pw_below_drewN | apply below_drew1) | exact HB.out)) hb); clear HO_8; clear HB; have HO_8 := n0_; have HB := n1_; clear n0_ n1_; (try clear hb); (try clear hb2); (try clear hk); (try clear hi); have p238 : 0 ≤ (x9_2 : Int) := of_decide_eq_true (by first | (with_reducible assumption) | assumption); have q238 : x9_2 < (y232.length : Int) := of_decide_eq_true (by first | (with_reducible assumption) | assumption); obtain ⟨ad238, e238, hx238_0⟩ := Kd.at_int (Kd.R_reads' HO_8.out).2.2 x9_2 p238 q238; obtain rfl : ad235 = ad238 := (by injection e238); replace p238 := eq_true p238; replace q238 := eq_true q238) | ((with_reducible refine gate_callee (f := 14) rfl ?_); refine goesL_ (some 81) rfl rfl Try.func14 (by kernel_rfl) rfl #[.int .i64 (rd y232 x9_2), .int .i64 a1, .int .i64 a0] rfl (by (try simp only [List.map_toArray, List.map_cons, List.map_nil]); first | done | rfl | (simp only [List.length_drop, List.length_take]; rfl)) ?_; (with_reducible refine (integers_Wrapped.calls k2 (rd y232 x9_2) a1 a0 t239 t240 _ A17.out).mono ?_); rintro e w42 ⟨rfl, hb⟩; refine ⟨_, rfl, ?_⟩; have n0_ := Aside0.mk (Kd.R_below (by (with_reducible repeat (first | apply Kd.R_alloc | apply Kd.R_drewN | apply Kd.R_drew)); exact HO_8.out) hb); have n1_ := Aside0.mk (below_step (by repeat (first | (with_reducible first | exact HB.out | apply below_alloc | apply pw_below_drewN | apply below_drew1) | exact HB.out)) hb); clear HO_8; clear HB; have HO_8 := n0_; have HB := n1_; clear n0_ n1_; (try clear hb); (try clear hb2); (try clear hk); (try clear hi); have p241 : 0 ≤ (x9_2 : Int) := of_decide_eq_true (by first | (with_reducible assumption) | assumption); have q241 : x9_2 < (y232.length : Int) := of_decide_eq_true (by first | (with_reducible assumption) | assumption); obtain ⟨ad241, e241, hx241_0⟩ := Kd.at_int (Kd.R_reads' HO_8.out).2.2 x9_2 p241 q241; obtain rfl : ad235 = ad241 := (by injection e241); replace p241 := eq_true p241; replace q241 := eq_true q241) | ((with_reducible refine gate_callee (f := 14) rfl ?_); refine goesL_ (some 91) rfl rfl Try.func14 (by kernel_rfl) rfl #[.int .i64 (rd y232 x9_2), .int .i64 t236, .int .i64 a2] rfl (by (try simp only [List.map_toArray, List.map_cons, List.map_nil]); first | done | rfl | (simp only [List.length_drop, List.length_take]; rfl)) ?_; (with_reducible refine (integers_Wrapped.calls k2 (rd y232 x9_2) t236 a2 t242 t243 _ A18.out).mono ?_); rintro e w43 ⟨rfl, hb⟩; refine ⟨_, rfl, ?_⟩; have n0_ := Aside0.mk (Kd.R_below (by (with_reducible repeat (first | apply Kd.R_alloc | apply Kd.R_drewN | apply Kd.R_drew)); exact HO_8.out) hb); have n1_ := Aside0.mk (below_step (by repeat (first | (with_reducible first | exact HB.out | apply below_alloc | apply pw_below_drewN | apply below_drew1) | exact HB.out)) hb); clear HO_8; clear HB; have HO_8 := n0_; have HB := n1_; clear n0_ n1_; (try clear hb); (try clear hb2); (try clear hk); (try clear hi); have p244 : 0 ≤ (x9_2 : Int) := of_decide_eq_true (by first | (with_reducible assumption) | assumption); have q244 : x9_2 < (y232.length : Int) := of_decide_eq_true (by first | (with_reducible assumption) | assumption); obtain ⟨ad244, e244, hx244_0⟩ := Kd.at_int (Kd.R_reads' HO_8.out).2.2 x9_2 p244 q244; obtain rfl : ad235 = ad244 := (by injection e244); replace p244 := eq_true p244; replace q244 := eq_true q244) | ((with_reducible refine gate_callee (f := 14) rfl ?_); refine goesL_ (some 101) rfl rfl Try.func14 (by kernel_rfl) rfl #[.int .i64 (rd y232 x9_2), .int .i64 a1, .int .i64 a2] rfl (by (try simp only [List.map_toArray, List.map_cons, List.map_nil]); first | done | rfl | (simp only [List.length_drop, List.length_take]; rfl)) ?_; (with_reducible refine (integers_Wrapped.calls k2 (rd y232 x9_2) a1 a2 t245 t246 _ A19.out).mono ?_); rintro e w44 ⟨rfl, hb⟩; refine ⟨_, rfl, ?_⟩; have n0_ := Aside0.mk (Kd.R_below (by (with_reducible repeat (first | apply Kd.R_alloc | apply Kd.R_drewN | apply Kd.R_drew)); exact HO_8.out) hb); have n1_ := Aside0.mk (below_step (by repeat (first | (with_reducible first | exact HB.out | apply below_alloc | apply pw_below_drewN | apply below_drew1) | exact HB.out)) hb); clear HO_8; clear HB; have HO_8 := n0_; have HB := n1_; clear n0_ n1_; (try clear hb); (try clear hb2); (try clear hk); (try clear hi); have p247 : 0 ≤ (x9_2 : Int) := of_decide_eq_true (by first | (with_reducible assumption) | assumption); have q247 : x9_2 < (y232.length : Int) := of_decide_eq_true (by first | (with_reducible assumption) | assumption); obtain ⟨ad247, e247, hx247_0⟩ := Kd.at_int (Kd.R_reads' HO_8.out).2.2 x9_2 p247 q247; obtain rfl : ad235 = ad247 := (by injection e247); replace p247 := eq_true p247; replace q247 := eq_true q247) | ((with_reducible refine gate_callee (f := 14) rfl ?_); refine goesL_ (some 111) rfl rfl Try.func14 (by kernel_rfl) rfl #[.int .i64 (rd y232 x9_2), .int .i64 a0, .int .i64 t245] rfl (by (try simp only [List.map_toArray, List.map_cons, List.map_nil]); first | done | rfl | (simp only [List.length_drop, List.length_take]; rfl)) ?_; (with_reducible refine (integers_Wrapped.calls k2 (rd y232 x9_2) a0 t245 t248 t249 _ A20.out).mono ?_); rintro e w45 ⟨rfl, hb⟩; refine ⟨_, rfl, ?_⟩; have n0_ := Aside0.mk (Kd.R_below (by (with_reducible repeat (first | apply Kd.R_alloc | apply Kd.R_drewN | apply Kd.R_drew)); exact HO_8.out) hb); have n1_ := Aside0.mk (below_step (by repeat (first | (with_reducible first | exact HB.out | apply below_alloc | apply pw_below_drewN | apply below_drew1) | exact HB.out)) hb); clear HO_8; clear HB; have HO_8 := n0_; have HB := n1_; clear n0_ n1_; (try clear hb); (try clear hb2); (try clear hk); (try clear hi)))
                                go_roundg k2
                                case measure => have := HJ5.out; have := HK2.out; omega
                                case rel => exact ⟨(false), (wrap64 (x9_2 + 1)), (by first | rfl | (simp; done) | (simp [*]; done)), (by first | rfl | (simp; done) | (simp [*]; done)), H', ⟨by have := HJ5.out; have := HK2.out; omega⟩, ⟨by (with_reducible repeat (first | apply Kd.R_alloc | apply Kd.R_drewN | apply Kd.R_drew)); exact HO_8.out⟩, ⟨by repeat (first | (with_reducible first | exact HB.out | apply below_alloc | apply pw_below_drewN | apply below_drew1) | exact HB.out)⟩⟩
                          · rw [if_neg c25] at H
                            have c25b0 : (t246 == 0) = false := beq_eq_false_iff_ne.mpr c25
                            have c25b1 : (t246 != 0) = true := bne_iff_ne.mpr c25
                            as_aux_lemma =>
                              have H' := Aside0.mk H
                              clear H
                              obtain ⟨Ao46, co46, eo46⟩ := Kd.R_slice HO_8.out
                              subst eo46
                              have p235 : 0 ≤ (x9_2 : Int) := of_decide_eq_true (by first | (with_reducible assumption) | assumption)
                              have q235 : x9_2 < (y232.length : Int) := of_decide_eq_true (by first | (with_reducible assumption) | assumption)
                              obtain ⟨ad235, e235, hx235_0⟩ := Kd.at_int (Kd.R_reads' HO_8.out).2.2 x9_2 p235 q235
                              cases e235
                              replace p235 := eq_true p235
                              replace q235 := eq_true q235
                              go_wp2_with (first | ((with_reducible refine gate_callee (f := 14) rfl ?_); refine goesL_ (some 71) rfl rfl Try.func14 (by kernel_rfl) rfl #[.int .i64 (rd y232 x9_2), .int .i64 a0, .int .i64 a1] rfl (by (try simp only [List.map_toArray, List.map_cons, List.map_nil]); first | done | rfl | (simp only [List.length_drop, List.length_take]; rfl)) ?_; (with_reducible refine (integers_Wrapped.calls k2 (rd y232 x9_2) a0 a1 t236 t237 _ A16.out).mono ?_); rintro e w47 ⟨rfl, hb⟩; refine ⟨_, rfl, ?_⟩; have n0_ := Aside0.mk (Kd.R_below (by (with_reducible repeat (first | apply Kd.R_alloc | apply Kd.R_drewN | apply Kd.R_drew)); exact HO_8.out) hb); have n1_ := Aside0.mk (below_step (by repeat (first | (with_reducible first | exact HB.out | apply below_alloc | apply pw_below_drewN | apply below_drew1) | exact HB.out)) hb); clear HO_8; clear HB; have HO_8 := n0_; have HB := n1_; clear n0_ n1_; (try clear hb); (try clear hb2); (try clear hk); (try clear hi); have p238 : 0 ≤ (x9_2 : Int) := of_decide_eq_true (by first | (with_reducible assumption) | assumption); have q238 : x9_2 < (y232.length : Int) := of_decide_eq_true (by first | (with_reducible assumption) | assumption); obtain ⟨ad238, e238, hx238_0⟩ := Kd.at_int (Kd.R_reads' HO_8.out).2.2 x9_2 p238 q238; obtain rfl : ad235 = ad238 := (by injection e238); replace p238 := eq_true p238; replace q238 := eq_true q238) | ((with_reducible refine gate_callee (f := 14) rfl ?_); refine goesL_ (some 81) rfl rfl Try.func14 (by kernel_rfl) rfl #[.int .i64 (rd y232 x9_2), .int .i64 a1, .int .i64 a0] rfl (by (try simp only [List.map_toArray, List.map_cons, List.map_nil]); first | done | rfl | (simp only [List.length_drop, List.length_take]; rfl)) ?_; (with_reducible refine (integers_Wrapped.calls k2 (rd y232 x9_2) a1 a0 t239 t240 _ A17.out).mono ?_); rintro e w48 ⟨rfl, hb⟩; refine ⟨_, rfl, ?_⟩; have n0_ := Aside0.mk (Kd.R_below (by (with_reducible repeat (first | apply Kd.R_alloc | apply Kd.R_drewN | apply Kd.R_drew)); exact HO_8.out) hb); have n1_ := Aside0.mk (below_step (by repeat (first | (with_reducible first | exact HB.out | apply below_alloc | apply pw_below_drewN | apply below_drew1) | exact HB.out)) hb); clear HO_8; clear HB; have HO_8 := n0_; have HB := n1_; clear n0_ n1_; (try clear hb); (try clear hb2); (try clear hk); (try clear hi); have p241 : 0 ≤ (x9_2 : Int) := of_decide_eq_true (by first | (with_reducible assumption) | assumption); have q241 : x9_2 < (y232.length : Int) := of_decide_eq_true (by first | (with_reducible assumption) | assumption); obtain ⟨ad241, e241, hx241_0⟩ := Kd.at_int (Kd.R_reads' HO_8.out).2.2 x9_2 p241 q241; obtain rfl : ad235 = ad241 := (by injection e241); replace p241 := eq_true p241; replace q241 := eq_true q241) | ((with_reducible refine gate_callee (f := 14) rfl ?_); refine goesL_ (some 91) rfl rfl Try.func14 (by kernel_rfl) rfl #[.int .i64 (rd y232 x9_2), .int .i64 t236, .int .i64 a2] rfl (by (try simp only [List.map_toArray, List.map_cons, List.map_nil]); first | done | rfl | (simp only [List.length_drop, List.length_take]; rfl)) ?_; (with_reducible refine (integers_Wrapped.calls k2 (rd y232 x9_2) t236 a2 t242 t243 _ A18.out).mono ?_); rintro e w49 ⟨rfl, hb⟩; refine ⟨_, rfl, ?_⟩; have n0_ := Aside0.mk (Kd.R_below (by (with_reducible repeat (first | apply Kd.R_alloc | apply Kd.R_drewN | apply Kd.R_drew)); exact HO_8.out) hb); have n1_ := Aside0.mk (below_step (by repeat (first | (with_reducible first | exact HB.out | apply below_alloc | apply pw_below_drewN | apply below_drew1) | exact HB.out)) hb); clear HO_8; clear HB; have HO_8 := n0_; have HB := n1_; clear n0_ n1_; (try clear hb); (try clear hb2); (try clear hk); (try clear hi); have p244 : 0 ≤ (x9_2 : Int) := of_decide_eq_true (by first | (with_reducible assumption) | assumption); have q244 : x9_2 < (y232.length : Int) := of_decide_eq_true (by first | (with_reducible assumption) | assumption); obtain ⟨ad244, e244, hx244_0⟩ := Kd.at_int (Kd.R_reads' HO_8.out).2.2 x9_2 p244 q244; obtain rfl : ad235 = ad244 := (by injection e244); replace p244 := eq_true p244; replace q244 := eq_true q244) | ((with_reducible refine gate_callee (f := 14) rfl ?_); refine goesL_ (some 101) rfl rfl Try.func14 (by kernel_rfl) rfl #[.int .i64 (rd y232 x9_2), .int .i64 a1, .int .i64 a2] rfl (by (try simp only [List.map_toArray, List.map_cons, List.map_nil]); first | done | rfl | (simp only [List.length_drop, List.length_take]; rfl)) ?_; (with_reducible refine (integers_Wrapped.calls k2 (rd y232 x9_2) a1 a2 t245 t246 _ A19.out).mono ?_); rintro e w50 ⟨rfl, hb⟩; refine ⟨_, rfl, ?_⟩; have n0_ := Aside0.mk (Kd.R_below (by (with_reducible repeat (first | apply Kd.R_alloc | apply Kd.R_drewN | apply Kd.R_drew)); exact HO_8.out) hb); have n1_ := Aside0.mk (below_step (by repeat (first | (with_reducible first | exact HB.out | apply below_alloc | apply pw_below_drewN | apply below_drew1) | exact HB.out)) hb); clear HO_8; clear HB; have HO_8 := n0_; have HB := n1_; clear n0_ n1_; (try clear hb); (try clear hb2); (try clear hk); (try clear hi); have p247 : 0 ≤ (x9_2 : Int) := of_decide_eq_true (by first | (with_reducible assumption) | assumption); have q247 : x9_2 < (y232.length : Int) := of_decide_eq_true (by first | (with_reducible assumption) | assumption); obtain ⟨ad247, e247, hx247_0⟩ := Kd.at_int (Kd.R_reads' HO_8.out).2.2 x9_2 p247 q247; obtain rfl : ad235 = ad247 := (by injection e247); replace p247 := eq_true p247; replace q247 := eq_true q247) | ((with_reducible refine gate_callee (f := 14) rfl ?_); refine goesL_ (some 111) rfl rfl Try.func14 (by kernel_rfl) rfl #[.int .i64 (rd y232 x9_2), .int .i64 a0, .int .i64 t245] rfl (by (try simp only [List.map_toArray, List.map_cons, List.map_nil]); first | done | rfl | (simp only [List.length_drop, List.length_take]; rfl)) ?_; (with_reducible refine (integers_Wrapped.calls k2 (rd y232 x9_2) a0 t245 t248 t249 _ A20.out).mono ?_); rintro e w51 ⟨rfl, hb⟩; refine ⟨_, rfl, ?_⟩; have n0_ := Aside0.mk (Kd.R_below (by (with_reducible repeat (first | apply Kd.R_alloc | apply Kd.R_drewN | apply Kd.R_drew)); exact HO_8.out) hb); have n1_ := Aside0.mk (below_step (by repeat (first | (with_reducible first | exact HB.out | apply below_alloc | apply pw_below_drewN | apply below_drew1) | exact HB.out)) hb); clear HO_8; clear HB; have HO_8 := n0_; have HB := n1_; clear n0_ n1_; (try clear hb); (try clear hb2); (try clear hk); (try clear hi)))
                              go_roundg k2
                              case measure => have := HJ5.out; have := HK2.out; omega
                              case rel => exact ⟨(false), (wrap64 (x9_2 + 1)), (by first | rfl | (simp; done) | (simp [*]; done)), (by first | rfl | (simp; done) | (simp [*]; done)), H', ⟨by have := HJ5.out; have := HK2.out; omega⟩, ⟨by (with_reducible repeat (first | apply Kd.R_alloc | apply Kd.R_drewN | apply Kd.R_drew)); exact HO_8.out⟩, ⟨by repeat (first | (with_reducible first | exact HB.out | apply below_alloc | apply pw_below_drewN | apply below_drew1) | exact HB.out)⟩⟩
                        · rw [if_neg c24] at H
                          have c24b0 : (t243 == 0) = false := beq_eq_false_iff_ne.mpr c24
                          have c24b1 : (t243 != 0) = true := bne_iff_ne.mpr c24
                          as_aux_lemma =>
                            have H' := Aside0.mk H
                            clear H
                            obtain ⟨Ao52, co52, eo52⟩ := Kd.R_slice HO_8.out
                            subst eo52
                            have p235 : 0 ≤ (x9_2 : Int) := of_decide_eq_true (by first | (with_reducible assumption) | assumption)
                            have q235 : x9_2 < (y232.length : Int) := of_decide_eq_true (by first | (with_reducible assumption) | assumption)
                            obtain ⟨ad235, e235, hx235_0⟩ := Kd.at_int (Kd.R_reads' HO_8.out).2.2 x9_2 p235 q235
                            cases e235
                            replace p235 := eq_true p235
                            replace q235 := eq_true q235
                            go_wp2_with (first | ((with_reducible refine gate_callee (f := 14) rfl ?_); refine goesL_ (some 71) rfl rfl Try.func14 (by kernel_rfl) rfl #[.int .i64 (rd y232 x9_2), .int .i64 a0, .int .i64 a1] rfl (by (try simp only [List.map_toArray, List.map_cons, List.map_nil]); first | done | rfl | (simp only [List.length_drop, List.length_take]; rfl)) ?_; (with_reducible refine (integers_Wrapped.calls k2 (rd y232 x9_2) a0 a1 t236 t237 _ A16.out).mono ?_); rintro e w53 ⟨rfl, hb⟩; refine ⟨_, rfl, ?_⟩; have n0_ := Aside0.mk (Kd.R_below (by (with_reducible repeat (first | apply Kd.R_alloc | apply Kd.R_drewN | apply Kd.R_drew)); exact HO_8.out) hb); have n1_ := Aside0.mk (below_step (by repeat (first | (with_reducible first | exact HB.out | apply below_alloc | apply pw_below_drewN | apply below_drew1) | exact HB.out)) hb); clear HO_8; clear HB; have HO_8 := n0_; have HB := n1_; clear n0_ n1_; (try clear hb); (try clear hb2); (try clear hk); (try clear hi); have p238 : 0 ≤ (x9_2 : Int) := of_decide_eq_true (by first | (with_reducible assumption) | assumption); have q238 : x9_2 < (y232.length : Int) := of_decide_eq_true (by first | (with_reducible assumption) | assumption); obtain ⟨ad238, e238, hx238_0⟩ := Kd.at_int (Kd.R_reads' HO_8.out).2.2 x9_2 p238 q238; obtain rfl : ad235 = ad238 := (by injection e238); replace p238 := eq_true p238; replace q238 := eq_true q238) | ((with_reducible refine gate_callee (f := 14) rfl ?_); refine goesL_ (some 81) rfl rfl Try.func14 (by kernel_rfl) rfl #[.int .i64 (rd y232 x9_2), .int .i64 a1, .int .i64 a0] rfl (by (try simp only [List.map_toArray, List.map_cons, List.map_nil]); first | done | rfl | (simp only [List.length_drop, List.length_take]; rfl)) ?_; (with_reducible refine (integers_Wrapped.calls k2 (rd y232 x9_2) a1 a0 t239 t240 _ A17.out).mono ?_); rintro e w54 ⟨rfl, hb⟩; refine ⟨_, rfl, ?_⟩; have n0_ := Aside0.mk (Kd.R_below (by (with_reducible repeat (first | apply Kd.R_alloc | apply Kd.R_drewN | apply Kd.R_drew)); exact HO_8.out) hb); have n1_ := Aside0.mk (below_step (by repeat (first | (with_reducible first | exact HB.out | apply below_alloc | apply pw_below_drewN | apply below_drew1) | exact HB.out)) hb); clear HO_8; clear HB; have HO_8 := n0_; have HB := n1_; clear n0_ n1_; (try clear hb); (try clear hb2); (try clear hk); (try clear hi); have p241 : 0 ≤ (x9_2 : Int) := of_decide_eq_true (by first | (with_reducible assumption) | assumption); have q241 : x9_2 < (y232.length : Int) := of_decide_eq_true (by first | (with_reducible assumption) | assumption); obtain ⟨ad241, e241, hx241_0⟩ := Kd.at_int (Kd.R_reads' HO_8.out).2.2 x9_2 p241 q241; obtain rfl : ad235 = ad241 := (by injection e241); replace p241 := eq_true p241; replace q241 := eq_true q241) | ((with_reducible refine gate_callee (f := 14) rfl ?_); refine goesL_ (some 91) rfl rfl Try.func14 (by kernel_rfl) rfl #[.int .i64 (rd y232 x9_2), .int .i64 t236, .int .i64 a2] rfl (by (try simp only [List.map_toArray, List.map_cons, List.map_nil]); first | done | rfl | (simp only [List.length_drop, List.length_take]; rfl)) ?_; (with_reducible refine (integers_Wrapped.calls k2 (rd y232 x9_2) t236 a2 t242 t243 _ A18.out).mono ?_); rintro e w55 ⟨rfl, hb⟩; refine ⟨_, rfl, ?_⟩; have n0_ := Aside0.mk (Kd.R_below (by (with_reducible repeat (first | apply Kd.R_alloc | apply Kd.R_drewN | apply Kd.R_drew)); exact HO_8.out) hb); have n1_ := Aside0.mk (below_step (by repeat (first | (with_reducible first | exact HB.out | apply below_alloc | apply pw_below_drewN | apply below_drew1) | exact HB.out)) hb); clear HO_8; clear HB; have HO_8 := n0_; have HB := n1_; clear n0_ n1_; (try clear hb); (try clear hb2); (try clear hk); (try clear hi); have p244 : 0 ≤ (x9_2 : Int) := of_decide_eq_true (by first | (with_reducible assumption) | assumption); have q244 : x9_2 < (y232.length : Int) := of_decide_eq_true (by first | (with_reducible assumption) | assumption); obtain ⟨ad244, e244, hx244_0⟩ := Kd.at_int (Kd.R_reads' HO_8.out).2.2 x9_2 p244 q244; obtain rfl : ad235 = ad244 := (by injection e244); replace p244 := eq_true p244; replace q244 := eq_true q244) | ((with_reducible refine gate_callee (f := 14) rfl ?_); refine goesL_ (some 101) rfl rfl Try.func14 (by kernel_rfl) rfl #[.int .i64 (rd y232 x9_2), .int .i64 a1, .int .i64 a2] rfl (by (try simp only [List.map_toArray, List.map_cons, List.map_nil]); first | done | rfl | (simp only [List.length_drop, List.length_take]; rfl)) ?_; (with_reducible refine (integers_Wrapped.calls k2 (rd y232 x9_2) a1 a2 t245 t246 _ A19.out).mono ?_); rintro e w56 ⟨rfl, hb⟩; refine ⟨_, rfl, ?_⟩; have n0_ := Aside0.mk (Kd.R_below (by (with_reducible repeat (first | apply Kd.R_alloc | apply Kd.R_drewN | apply Kd.R_drew)); exact HO_8.out) hb); have n1_ := Aside0.mk (below_step (by repeat (first | (with_reducible first | exact HB.out | apply below_alloc | apply pw_below_drewN | apply below_drew1) | exact HB.out)) hb); clear HO_8; clear HB; have HO_8 := n0_; have HB := n1_; clear n0_ n1_; (try clear hb); (try clear hb2); (try clear hk); (try clear hi); have p247 : 0 ≤ (x9_2 : Int) := of_decide_eq_true (by first | (with_reducible assumption) | assumption); have q247 : x9_2 < (y232.length : Int) := of_decide_eq_true (by first | (with_reducible assumption) | assumption); obtain ⟨ad247, e247, hx247_0⟩ := Kd.at_int (Kd.R_reads' HO_8.out).2.2 x9_2 p247 q247; obtain rfl : ad235 = ad247 := (by injection e247); replace p247 := eq_true p247; replace q247 := eq_true q247) | ((with_reducible refine gate_callee (f := 14) rfl ?_); refine goesL_ (some 111) rfl rfl Try.func14 (by kernel_rfl) rfl #[.int .i64 (rd y232 x9_2), .int .i64 a0, .int .i64 t245] rfl (by (try simp only [List.map_toArray, List.map_cons, List.map_nil]); first | done | rfl | (simp only [List.length_drop, List.length_take]; rfl)) ?_; (with_reducible refine (integers_Wrapped.calls k2 (rd y232 x9_2) a0 t245 t248 t249 _ A20.out).mono ?_); rintro e w57 ⟨rfl, hb⟩; refine ⟨_, rfl, ?_⟩; have n0_ := Aside0.mk (Kd.R_below (by (with_reducible repeat (first | apply Kd.R_alloc | apply Kd.R_drewN | apply Kd.R_drew)); exact HO_8.out) hb); have n1_ := Aside0.mk (below_step (by repeat (first | (with_reducible first | exact HB.out | apply below_alloc | apply pw_below_drewN | apply below_drew1) | exact HB.out)) hb); clear HO_8; clear HB; have HO_8 := n0_; have HB := n1_; clear n0_ n1_; (try clear hb); (try clear hb2); (try clear hk); (try clear hi)))
                            go_roundg k2
                            case measure => have := HJ5.out; have := HK2.out; omega
                            case rel => exact ⟨(false), (wrap64 (x9_2 + 1)), (by first | rfl | (simp; done) | (simp [*]; done)), (by first | rfl | (simp; done) | (simp [*]; done)), H', ⟨by have := HJ5.out; have := HK2.out; omega⟩, ⟨by (with_reducible repeat (first | apply Kd.R_alloc | apply Kd.R_drewN | apply Kd.R_drew)); exact HO_8.out⟩, ⟨by repeat (first | (with_reducible first | exact HB.out | apply below_alloc | apply pw_below_drewN | apply below_drew1) | exact HB.out)⟩⟩
                      · rw [if_neg c23] at H
                        have c23b0 : (t240 == 0) = false := beq_eq_false_iff_ne.mpr c23
                        have c23b1 : (t240 != 0) = true := bne_iff_ne.mpr c23
                        as_aux_lemma =>
                          have H' := Aside0.mk H
                          clear H
                          obtain ⟨Ao58, co58, eo58⟩ := Kd.R_slice HO_8.out
                          subst eo58
                          have p235 : 0 ≤ (x9_2 : Int) := of_decide_eq_true (by first | (with_reducible assumption) | assumption)
                          have q235 : x9_2 < (y232.length : Int) := of_decide_eq_true (by first | (with_reducible assumption) | assumption)
                          obtain ⟨ad235, e235, hx235_0⟩ := Kd.at_int (Kd.R_reads' HO_8.out).2.2 x9_2 p235 q235
                          cases e235
                          replace p235 := eq_true p235
                          replace q235 := eq_true q235
                          go_wp2_with (first | ((with_reducible refine gate_callee (f := 14) rfl ?_); refine goesL_ (some 71) rfl rfl Try.func14 (by kernel_rfl) rfl #[.int .i64 (rd y232 x9_2), .int .i64 a0, .int .i64 a1] rfl (by (try simp only [List.map_toArray, List.map_cons, List.map_nil]); first | done | rfl | (simp only [List.length_drop, List.length_take]; rfl)) ?_; (with_reducible refine (integers_Wrapped.calls k2 (rd y232 x9_2) a0 a1 t236 t237 _ A16.out).mono ?_); rintro e w59 ⟨rfl, hb⟩; refine ⟨_, rfl, ?_⟩; have n0_ := Aside0.mk (Kd.R_below (by (with_reducible repeat (first | apply Kd.R_alloc | apply Kd.R_drewN | apply Kd.R_drew)); exact HO_8.out) hb); have n1_ := Aside0.mk (below_step (by repeat (first | (with_reducible first | exact HB.out | apply below_alloc | apply pw_below_drewN | apply below_drew1) | exact HB.out)) hb); clear HO_8; clear HB; have HO_8 := n0_; have HB := n1_; clear n0_ n1_; (try clear hb); (try clear hb2); (try clear hk); (try clear hi); have p238 : 0 ≤ (x9_2 : Int) := of_decide_eq_true (by first | (with_reducible assumption) | assumption); have q238 : x9_2 < (y232.length : Int) := of_decide_eq_true (by first | (with_reducible assumption) | assumption); obtain ⟨ad238, e238, hx238_0⟩ := Kd.at_int (Kd.R_reads' HO_8.out).2.2 x9_2 p238 q238; obtain rfl : ad235 = ad238 := (by injection e238); replace p238 := eq_true p238; replace q238 := eq_true q238) | ((with_reducible refine gate_callee (f := 14) rfl ?_); refine goesL_ (some 81) rfl rfl Try.func14 (by kernel_rfl) rfl #[.int .i64 (rd y232 x9_2), .int .i64 a1, .int .i64 a0] rfl (by (try simp only [List.map_toArray, List.map_cons, List.map_nil]); first | done | rfl | (simp only [List.length_drop, List.length_take]; rfl)) ?_; (with_reducible refine (integers_Wrapped.calls k2 (rd y232 x9_2) a1 a0 t239 t240 _ A17.out).mono ?_); rintro e w60 ⟨rfl, hb⟩; refine ⟨_, rfl, ?_⟩; have n0_ := Aside0.mk (Kd.R_below (by (with_reducible repeat (first | apply Kd.R_alloc | apply Kd.R_drewN | apply Kd.R_drew)); exact HO_8.out) hb); have n1_ := Aside0.mk (below_step (by repeat (first | (with_reducible first | exact HB.out | apply below_alloc | apply pw_below_drewN | apply below_drew1) | exact HB.out)) hb); clear HO_8; clear HB; have HO_8 := n0_; have HB := n1_; clear n0_ n1_; (try clear hb); (try clear hb2); (try clear hk); (try clear hi); have p241 : 0 ≤ (x9_2 : Int) := of_decide_eq_true (by first | (with_reducible assumption) | assumption); have q241 : x9_2 < (y232.length : Int) := of_decide_eq_true (by first | (with_reducible assumption) | assumption); obtain ⟨ad241, e241, hx241_0⟩ := Kd.at_int (Kd.R_reads' HO_8.out).2.2 x9_2 p241 q241; obtain rfl : ad235 = ad241 := (by injection e241); replace p241 := eq_true p241; replace q241 := eq_true q241) | ((with_reducible refine gate_callee (f := 14) rfl ?_); refine goesL_ (some 91) rfl rfl Try.func14 (by kernel_rfl) rfl #[.int .i64 (rd y232 x9_2), .int .i64 t236, .int .i64 a2] rfl (by (try simp only [List.map_toArray, List.map_cons, List.map_nil]); first | done | rfl | (simp only [List.length_drop, List.length_take]; rfl)) ?_; (with_reducible refine (integers_Wrapped.calls k2 (rd y232 x9_2) t236 a2 t242 t243 _ A18.out).mono ?_); rintro e w61 ⟨rfl, hb⟩; refine ⟨_, rfl, ?_⟩; have n0_ := Aside0.mk (Kd.R_below (by (with_reducible repeat (first | apply Kd.R_alloc | apply Kd.R_drewN | apply Kd.R_drew)); exact HO_8.out) hb); have n1_ := Aside0.mk (below_step (by repeat (first | (with_reducible first | exact HB.out | apply below_alloc | apply pw_below_drewN | apply below_drew1) | exact HB.out)) hb); clear HO_8; clear HB; have HO_8 := n0_; have HB := n1_; clear n0_ n1_; (try clear hb); (try clear hb2); (try clear hk); (try clear hi); have p244 : 0 ≤ (x9_2 : Int) := of_decide_eq_true (by first | (with_reducible assumption) | assumption); have q244 : x9_2 < (y232.length : Int) := of_decide_eq_true (by first | (with_reducible assumption) | assumption); obtain ⟨ad244, e244, hx244_0⟩ := Kd.at_int (Kd.R_reads' HO_8.out).2.2 x9_2 p244 q244; obtain rfl : ad235 = ad244 := (by injection e244); replace p244 := eq_true p244; replace q244 := eq_true q244) | ((with_reducible refine gate_callee (f := 14) rfl ?_); refine goesL_ (some 101) rfl rfl Try.func14 (by kernel_rfl) rfl #[.int .i64 (rd y232 x9_2), .int .i64 a1, .int .i64 a2] rfl (by (try simp only [List.map_toArray, List.map_cons, List.map_nil]); first | done | rfl | (simp only [List.length_drop, List.length_take]; rfl)) ?_; (with_reducible refine (integers_Wrapped.calls k2 (rd y232 x9_2) a1 a2 t245 t246 _ A19.out).mono ?_); rintro e w62 ⟨rfl, hb⟩; refine ⟨_, rfl, ?_⟩; have n0_ := Aside0.mk (Kd.R_below (by (with_reducible repeat (first | apply Kd.R_alloc | apply Kd.R_drewN | apply Kd.R_drew)); exact HO_8.out) hb); have n1_ := Aside0.mk (below_step (by repeat (first | (with_reducible first | exact HB.out | apply below_alloc | apply pw_below_drewN | apply below_drew1) | exact HB.out)) hb); clear HO_8; clear HB; have HO_8 := n0_; have HB := n1_; clear n0_ n1_; (try clear hb); (try clear hb2); (try clear hk); (try clear hi); have p247 : 0 ≤ (x9_2 : Int) := of_decide_eq_true (by first | (with_reducible assumption) | assumption); have q247 : x9_2 < (y232.length : Int) := of_decide_eq_true (by first | (with_reducible assumption) | assumption); obtain ⟨ad247, e247, hx247_0⟩ := Kd.at_int (Kd.R_reads' HO_8.out).2.2 x9_2 p247 q247; obtain rfl : ad235 = ad247 := (by injection e247); replace p247 := eq_true p247; replace q247 := eq_true q247) | ((with_reducible refine gate_callee (f := 14) rfl ?_); refine goesL_ (some 111) rfl rfl Try.func14 (by kernel_rfl) rfl #[.int .i64 (rd y232 x9_2), .int .i64 a0, .int .i64 t245] rfl (by (try simp only [List.map_toArray, List.map_cons, List.map_nil]); first | done | rfl | (simp only [List.length_drop, List.length_take]; rfl)) ?_; (with_reducible refine (integers_Wrapped.calls k2 (rd y232 x9_2) a0 t245 t248 t249 _ A20.out).mono ?_); rintro e w63 ⟨rfl, hb⟩; refine ⟨_, rfl, ?_⟩; have n0_ := Aside0.mk (Kd.R_below (by (with_reducible repeat (first | apply Kd.R_alloc | apply Kd.R_drewN | apply Kd.R_drew)); exact HO_8.out) hb); have n1_ := Aside0.mk (below_step (by repeat (first | (with_reducible first | exact HB.out | apply below_alloc | apply pw_below_drewN | apply below_drew1) | exact HB.out)) hb); clear HO_8; clear HB; have HO_8 := n0_; have HB := n1_; clear n0_ n1_; (try clear hb); (try clear hb2); (try clear hk); (try clear hi)))
                          go_roundg k2
                          case measure => have := HJ5.out; have := HK2.out; omega
                          case rel => exact ⟨(false), (wrap64 (x9_2 + 1)), (by first | rfl | (simp; done) | (simp [*]; done)), (by first | rfl | (simp; done) | (simp [*]; done)), H', ⟨by have := HJ5.out; have := HK2.out; omega⟩, ⟨by (with_reducible repeat (first | apply Kd.R_alloc | apply Kd.R_drewN | apply Kd.R_drew)); exact HO_8.out⟩, ⟨by repeat (first | (with_reducible first | exact HB.out | apply below_alloc | apply pw_below_drewN | apply below_drew1) | exact HB.out)⟩⟩
                    · rw [if_neg c22] at H
                      have c22b0 : (t237 == 0) = false := beq_eq_false_iff_ne.mpr c22
                      have c22b1 : (t237 != 0) = true := bne_iff_ne.mpr c22
                      as_aux_lemma =>
                        have H' := Aside0.mk H
                        clear H
                        obtain ⟨Ao64, co64, eo64⟩ := Kd.R_slice HO_8.out
                        subst eo64
                        have p235 : 0 ≤ (x9_2 : Int) := of_decide_eq_true (by first | (with_reducible assumption) | assumption)
                        have q235 : x9_2 < (y232.length : Int) := of_decide_eq_true (by first | (with_reducible assumption) | assumption)
                        obtain ⟨ad235, e235, hx235_0⟩ := Kd.at_int (Kd.R_reads' HO_8.out).2.2 x9_2 p235 q235
                        cases e235
                        replace p235 := eq_true p235
                        replace q235 := eq_true q235
                        go_wp2_with (first | ((with_reducible refine gate_callee (f := 14) rfl ?_); refine goesL_ (some 71) rfl rfl Try.func14 (by kernel_rfl) rfl #[.int .i64 (rd y232 x9_2), .int .i64 a0, .int .i64 a1] rfl (by (try simp only [List.map_toArray, List.map_cons, List.map_nil]); first | done | rfl | (simp only [List.length_drop, List.length_take]; rfl)) ?_; (with_reducible refine (integers_Wrapped.calls k2 (rd y232 x9_2) a0 a1 t236 t237 _ A16.out).mono ?_); rintro e w65 ⟨rfl, hb⟩; refine ⟨_, rfl, ?_⟩; have n0_ := Aside0.mk (Kd.R_below (by (with_reducible repeat (first | apply Kd.R_alloc | apply Kd.R_drewN | apply Kd.R_drew)); exact HO_8.out) hb); have n1_ := Aside0.mk (below_step (by repeat (first | (with_reducible first | exact HB.out | apply below_alloc | apply pw_below_drewN | apply below_drew1) | exact HB.out)) hb); clear HO_8; clear HB; have HO_8 := n0_; have HB := n1_; clear n0_ n1_; (try clear hb); (try clear hb2); (try clear hk); (try clear hi); have p238 : 0 ≤ (x9_2 : Int) := of_decide_eq_true (by first | (with_reducible assumption) | assumption); have q238 : x9_2 < (y232.length : Int) := of_decide_eq_true (by first | (with_reducible assumption) | assumption); obtain ⟨ad238, e238, hx238_0⟩ := Kd.at_int (Kd.R_reads' HO_8.out).2.2 x9_2 p238 q238; obtain rfl : ad235 = ad238 := (by injection e238); replace p238 := eq_true p238; replace q238 := eq_true q238) | ((with_reducible refine gate_callee (f := 14) rfl ?_); refine goesL_ (some 81) rfl rfl Try.func14 (by kernel_rfl) rfl #[.int .i64 (rd y232 x9_2), .int .i64 a1, .int .i64 a0] rfl (by (try simp only [List.map_toArray, List.map_cons, List.map_nil]); first | done | rfl | (simp only [List.length_drop, List.length_take]; rfl)) ?_; (with_reducible refine (integers_Wrapped.calls k2 (rd y232 x9_2) a1 a0 t239 t240 _ A17.out).mono ?_); rintro e w66 ⟨rfl, hb⟩; refine ⟨_, rfl, ?_⟩; have n0_ := Aside0.mk (Kd.R_below (by (with_reducible repeat (first | apply Kd.R_alloc | apply Kd.R_drewN | apply Kd.R_drew)); exact HO_8.out) hb); have n1_ := Aside0.mk (below_step (by repeat (first | (with_reducible first | exact HB.out | apply below_alloc | apply pw_below_drewN | apply below_drew1) | exact HB.out)) hb); clear HO_8; clear HB; have HO_8 := n0_; have HB := n1_; clear n0_ n1_; (try clear hb); (try clear hb2); (try clear hk); (try clear hi); have p241 : 0 ≤ (x9_2 : Int) := of_decide_eq_true (by first | (with_reducible assumption) | assumption); have q241 : x9_2 < (y232.length : Int) := of_decide_eq_true (by first | (with_reducible assumption) | assumption); obtain ⟨ad241, e241, hx241_0⟩ := Kd.at_int (Kd.R_reads' HO_8.out).2.2 x9_2 p241 q241; obtain rfl : ad235 = ad241 := (by injection e241); replace p241 := eq_true p241; replace q241 := eq_true q241) | ((with_reducible refine gate_callee (f := 14) rfl ?_); refine goesL_ (some 91) rfl rfl Try.func14 (by kernel_rfl) rfl #[.int .i64 (rd y232 x9_2), .int .i64 t236, .int .i64 a2] rfl (by (try simp only [List.map_toArray, List.map_cons, List.map_nil]); first | done | rfl | (simp only [List.length_drop, List.length_take]; rfl)) ?_; (with_reducible refine (integers_Wrapped.calls k2 (rd y232 x9_2) t236 a2 t242 t243 _ A18.out).mono ?_); rintro e w67 ⟨rfl, hb⟩; refine ⟨_, rfl, ?_⟩; have n0_ := Aside0.mk (Kd.R_below (by (with_reducible repeat (first | apply Kd.R_alloc | apply Kd.R_drewN | apply Kd.R_drew)); exact HO_8.out) hb); have n1_ := Aside0.mk (below_step (by repeat (first | (with_reducible first | exact HB.out | apply below_alloc | apply pw_below_drewN | apply below_drew1) | exact HB.out)) hb); clear HO_8; clear HB; have HO_8 := n0_; have HB := n1_; clear n0_ n1_; (try clear hb); (try clear hb2); (try clear hk); (try clear hi); have p244 : 0 ≤ (x9_2 : Int) := of_decide_eq_true (by first | (with_reducible assumption) | assumption); have q244 : x9_2 < (y232.length : Int) := of_decide_eq_true (by first | (with_reducible assumption) | assumption); obtain ⟨ad244, e244, hx244_0⟩ := Kd.at_int (Kd.R_reads' HO_8.out).2.2 x9_2 p244 q244; obtain rfl : ad235 = ad244 := (by injection e244); replace p244 := eq_true p244; replace q244 := eq_true q244) | ((with_reducible refine gate_callee (f := 14) rfl ?_); refine goesL_ (some 101) rfl rfl Try.func14 (by kernel_rfl) rfl #[.int .i64 (rd y232 x9_2), .int .i64 a1, .int .i64 a2] rfl (by (try simp only [List.map_toArray, List.map_cons, List.map_nil]); first | done | rfl | (simp only [List.length_drop, List.length_take]; rfl)) ?_; (with_reducible refine (integers_Wrapped.calls k2 (rd y232 x9_2) a1 a2 t245 t246 _ A19.out).mono ?_); rintro e w68 ⟨rfl, hb⟩; refine ⟨_, rfl, ?_⟩; have n0_ := Aside0.mk (Kd.R_below (by (with_reducible repeat (first | apply Kd.R_alloc | apply Kd.R_drewN | apply Kd.R_drew)); exact HO_8.out) hb); have n1_ := Aside0.mk (below_step (by repeat (first | (with_reducible first | exact HB.out | apply below_alloc | apply pw_below_drewN | apply below_drew1) | exact HB.out)) hb); clear HO_8; clear HB; have HO_8 := n0_; have HB := n1_; clear n0_ n1_; (try clear hb); (try clear hb2); (try clear hk); (try clear hi); have p247 : 0 ≤ (x9_2 : Int) := of_decide_eq_true (by first | (with_reducible assumption) | assumption); have q247 : x9_2 < (y232.length : Int) := of_decide_eq_true (by first | (with_reducible assumption) | assumption); obtain ⟨ad247, e247, hx247_0⟩ := Kd.at_int (Kd.R_reads' HO_8.out).2.2 x9_2 p247 q247; obtain rfl : ad235 = ad247 := (by injection e247); replace p247 := eq_true p247; replace q247 := eq_true q247) | ((with_reducible refine gate_callee (f := 14) rfl ?_); refine goesL_ (some 111) rfl rfl Try.func14 (by kernel_rfl) rfl #[.int .i64 (rd y232 x9_2), .int .i64 a0, .int .i64 t245] rfl (by (try simp only [List.map_toArray, List.map_cons, List.map_nil]); first | done | rfl | (simp only [List.length_drop, List.length_take]; rfl)) ?_; (with_reducible refine (integers_Wrapped.calls k2 (rd y232 x9_2) a0 t245 t248 t249 _ A20.out).mono ?_); rintro e w69 ⟨rfl, hb⟩; refine ⟨_, rfl, ?_⟩; have n0_ := Aside0.mk (Kd.R_below (by (with_reducible repeat (first | apply Kd.R_alloc | apply Kd.R_drewN | apply Kd.R_drew)); exact HO_8.out) hb); have n1_ := Aside0.mk (below_step (by repeat (first | (with_reducible first | exact HB.out | apply below_alloc | apply pw_below_drewN | apply below_drew1) | exact HB.out)) hb); clear HO_8; clear HB; have HO_8 := n0_; have HB := n1_; clear n0_ n1_; (try clear hb); (try clear hb2); (try clear hk); (try clear hi)))
                        go_roundg k2
                        case measure => have := HJ5.out; have := HK2.out; omega
                        case rel => exact ⟨(false), (wrap64 (x9_2 + 1)), (by first | rfl | (simp; done) | (simp [*]; done)), (by first | rfl | (simp; done) | (simp [*]; done)), H', ⟨by have := HJ5.out; have := HK2.out; omega⟩, ⟨by (with_reducible repeat (first | apply Kd.R_alloc | apply Kd.R_drewN | apply Kd.R_drew)); exact HO_8.out⟩, ⟨by repeat (first | (with_reducible first | exact HB.out | apply below_alloc | apply pw_below_drewN | apply below_drew1) | exact HB.out)⟩⟩
                  · replace c21 := Bool.eq_false_iff.mpr c21
                    subst c21
                    have H1 : (formularylaw07_IntegersRing.l0 k2 a0 a1 a2 false y232 (wrap64 (x9_2 + 1))) = some r := by rw [if_neg (show ¬ (false = true) by decide)] at H; exact H
                    clear H
                    have H := H1
                    clear H1
                    as_aux_lemma =>
                      have H' := Aside0.mk H
                      clear H
                      obtain ⟨Ao70, co70, eo70⟩ := Kd.R_slice HO_8.out
                      subst eo70
                      have p235 : 0 ≤ (x9_2 : Int) := of_decide_eq_true (by first | (with_reducible assumption) | assumption)
                      have q235 : x9_2 < (y232.length : Int) := of_decide_eq_true (by first | (with_reducible assumption) | assumption)
                      obtain ⟨ad235, e235, hx235_0⟩ := Kd.at_int (Kd.R_reads' HO_8.out).2.2 x9_2 p235 q235
                      cases e235
                      replace p235 := eq_true p235
                      replace q235 := eq_true q235
                      go_wp2_with (first | ((with_reducible refine gate_callee (f := 14) rfl ?_); refine goesL_ (some 71) rfl rfl Try.func14 (by kernel_rfl) rfl #[.int .i64 (rd y232 x9_2), .int .i64 a0, .int .i64 a1] rfl (by (try simp only [List.map_toArray, List.map_cons, List.map_nil]); first | done | rfl | (simp only [List.length_drop, List.length_take]; rfl)) ?_; (with_reducible refine (integers_Wrapped.calls k2 (rd y232 x9_2) a0 a1 t236 t237 _ A16.out).mono ?_); rintro e w71 ⟨rfl, hb⟩; refine ⟨_, rfl, ?_⟩; have n0_ := Aside0.mk (Kd.R_below (by (with_reducible repeat (first | apply Kd.R_alloc | apply Kd.R_drewN | apply Kd.R_drew)); exact HO_8.out) hb); have n1_ := Aside0.mk (below_step (by repeat (first | (with_reducible first | exact HB.out | apply below_alloc | apply pw_below_drewN | apply below_drew1) | exact HB.out)) hb); clear HO_8; clear HB; have HO_8 := n0_; have HB := n1_; clear n0_ n1_; (try clear hb); (try clear hb2); (try clear hk); (try clear hi); have p238 : 0 ≤ (x9_2 : Int) := of_decide_eq_true (by first | (with_reducible assumption) | assumption); have q238 : x9_2 < (y232.length : Int) := of_decide_eq_true (by first | (with_reducible assumption) | assumption); obtain ⟨ad238, e238, hx238_0⟩ := Kd.at_int (Kd.R_reads' HO_8.out).2.2 x9_2 p238 q238; obtain rfl : ad235 = ad238 := (by injection e238); replace p238 := eq_true p238; replace q238 := eq_true q238) | ((with_reducible refine gate_callee (f := 14) rfl ?_); refine goesL_ (some 81) rfl rfl Try.func14 (by kernel_rfl) rfl #[.int .i64 (rd y232 x9_2), .int .i64 a1, .int .i64 a0] rfl (by (try simp only [List.map_toArray, List.map_cons, List.map_nil]); first | done | rfl | (simp only [List.length_drop, List.length_take]; rfl)) ?_; (with_reducible refine (integers_Wrapped.calls k2 (rd y232 x9_2) a1 a0 t239 t240 _ A17.out).mono ?_); rintro e w72 ⟨rfl, hb⟩; refine ⟨_, rfl, ?_⟩; have n0_ := Aside0.mk (Kd.R_below (by (with_reducible repeat (first | apply Kd.R_alloc | apply Kd.R_drewN | apply Kd.R_drew)); exact HO_8.out) hb); have n1_ := Aside0.mk (below_step (by repeat (first | (with_reducible first | exact HB.out | apply below_alloc | apply pw_below_drewN | apply below_drew1) | exact HB.out)) hb); clear HO_8; clear HB; have HO_8 := n0_; have HB := n1_; clear n0_ n1_; (try clear hb); (try clear hb2); (try clear hk); (try clear hi); have p241 : 0 ≤ (x9_2 : Int) := of_decide_eq_true (by first | (with_reducible assumption) | assumption); have q241 : x9_2 < (y232.length : Int) := of_decide_eq_true (by first | (with_reducible assumption) | assumption); obtain ⟨ad241, e241, hx241_0⟩ := Kd.at_int (Kd.R_reads' HO_8.out).2.2 x9_2 p241 q241; obtain rfl : ad235 = ad241 := (by injection e241); replace p241 := eq_true p241; replace q241 := eq_true q241) | ((with_reducible refine gate_callee (f := 14) rfl ?_); refine goesL_ (some 91) rfl rfl Try.func14 (by kernel_rfl) rfl #[.int .i64 (rd y232 x9_2), .int .i64 t236, .int .i64 a2] rfl (by (try simp only [List.map_toArray, List.map_cons, List.map_nil]); first | done | rfl | (simp only [List.length_drop, List.length_take]; rfl)) ?_; (with_reducible refine (integers_Wrapped.calls k2 (rd y232 x9_2) t236 a2 t242 t243 _ A18.out).mono ?_); rintro e w73 ⟨rfl, hb⟩; refine ⟨_, rfl, ?_⟩; have n0_ := Aside0.mk (Kd.R_below (by (with_reducible repeat (first | apply Kd.R_alloc | apply Kd.R_drewN | apply Kd.R_drew)); exact HO_8.out) hb); have n1_ := Aside0.mk (below_step (by repeat (first | (with_reducible first | exact HB.out | apply below_alloc | apply pw_below_drewN | apply below_drew1) | exact HB.out)) hb); clear HO_8; clear HB; have HO_8 := n0_; have HB := n1_; clear n0_ n1_; (try clear hb); (try clear hb2); (try clear hk); (try clear hi); have p244 : 0 ≤ (x9_2 : Int) := of_decide_eq_true (by first | (with_reducible assumption) | assumption); have q244 : x9_2 < (y232.length : Int) := of_decide_eq_true (by first | (with_reducible assumption) | assumption); obtain ⟨ad244, e244, hx244_0⟩ := Kd.at_int (Kd.R_reads' HO_8.out).2.2 x9_2 p244 q244; obtain rfl : ad235 = ad244 := (by injection e244); replace p244 := eq_true p244; replace q244 := eq_true q244) | ((with_reducible refine gate_callee (f := 14) rfl ?_); refine goesL_ (some 101) rfl rfl Try.func14 (by kernel_rfl) rfl #[.int .i64 (rd y232 x9_2), .int .i64 a1, .int .i64 a2] rfl (by (try simp only [List.map_toArray, List.map_cons, List.map_nil]); first | done | rfl | (simp only [List.length_drop, List.length_take]; rfl)) ?_; (with_reducible refine (integers_Wrapped.calls k2 (rd y232 x9_2) a1 a2 t245 t246 _ A19.out).mono ?_); rintro e w74 ⟨rfl, hb⟩; refine ⟨_, rfl, ?_⟩; have n0_ := Aside0.mk (Kd.R_below (by (with_reducible repeat (first | apply Kd.R_alloc | apply Kd.R_drewN | apply Kd.R_drew)); exact HO_8.out) hb); have n1_ := Aside0.mk (below_step (by repeat (first | (with_reducible first | exact HB.out | apply below_alloc | apply pw_below_drewN | apply below_drew1) | exact HB.out)) hb); clear HO_8; clear HB; have HO_8 := n0_; have HB := n1_; clear n0_ n1_; (try clear hb); (try clear hb2); (try clear hk); (try clear hi); have p247 : 0 ≤ (x9_2 : Int) := of_decide_eq_true (by first | (with_reducible assumption) | assumption); have q247 : x9_2 < (y232.length : Int) := of_decide_eq_true (by first | (with_reducible assumption) | assumption); obtain ⟨ad247, e247, hx247_0⟩ := Kd.at_int (Kd.R_reads' HO_8.out).2.2 x9_2 p247 q247; obtain rfl : ad235 = ad247 := (by injection e247); replace p247 := eq_true p247; replace q247 := eq_true q247) | ((with_reducible refine gate_callee (f := 14) rfl ?_); refine goesL_ (some 111) rfl rfl Try.func14 (by kernel_rfl) rfl #[.int .i64 (rd y232 x9_2), .int .i64 a0, .int .i64 t245] rfl (by (try simp only [List.map_toArray, List.map_cons, List.map_nil]); first | done | rfl | (simp only [List.length_drop, List.length_take]; rfl)) ?_; (with_reducible refine (integers_Wrapped.calls k2 (rd y232 x9_2) a0 t245 t248 t249 _ A20.out).mono ?_); rintro e w75 ⟨rfl, hb⟩; refine ⟨_, rfl, ?_⟩; have n0_ := Aside0.mk (Kd.R_below (by (with_reducible repeat (first | apply Kd.R_alloc | apply Kd.R_drewN | apply Kd.R_drew)); exact HO_8.out) hb); have n1_ := Aside0.mk (below_step (by repeat (first | (with_reducible first | exact HB.out | apply below_alloc | apply pw_below_drewN | apply below_drew1) | exact HB.out)) hb); clear HO_8; clear HB; have HO_8 := n0_; have HB := n1_; clear n0_ n1_; (try clear hb); (try clear hb2); (try clear hk); (try clear hi)))
                      go_roundg k2
                      case measure => have := HJ5.out; have := HK2.out; omega
                      case rel => exact ⟨(false), (wrap64 (x9_2 + 1)), (by first | rfl | (simp; done) | (simp [*]; done)), (by first | rfl | (simp; done) | (simp [*]; done)), H', ⟨by have := HJ5.out; have := HK2.out; omega⟩, ⟨by (with_reducible repeat (first | apply Kd.R_alloc | apply Kd.R_drewN | apply Kd.R_drew)); exact HO_8.out⟩, ⟨by repeat (first | (with_reducible first | exact HB.out | apply below_alloc | apply pw_below_drewN | apply below_drew1) | exact HB.out)⟩⟩
                · rw [if_neg c15] at H
                  exact absurd H (by simp)
              · rw [if_neg c14] at H
                have c14b0 : decide (x9_2 < (y232.length : Int)) = false := decide_eq_false c14
                clear c14
                replace H := Option.bind_eq_some_iff.mp H
                obtain ⟨⟨t250, t251⟩, A760, H⟩ := H
                replace H : ((integers_Wrapped.f k2 2 a0 t250).bind fun bt252 => ((integers_Wrapped.f k2 2 a0 a1).bind fun bt254 => ((integers_Wrapped.f k2 2 a0 a2).bind fun bt256 => ((integers_Wrapped.f k2 0 bt254.1 bt256.1).bind fun bt258 => (if x7_2 = true then (if t251 = 0 then (if bt252.2 = 0 then (if bt254.2 = 0 then (if bt256.2 = 0 then (if bt258.2 = 0 then (formularylaw07_IntegersRing.j2 k2 a0 a1 a2 (bt252.1 != bt258.1)) else (none)) else (none)) else (none)) else (none)) else (none)) else (none)))))) = some r := H
                have A76 := Aside0.mk A760
                clear A760
                replace H := Option.bind_eq_some_iff.mp H
                obtain ⟨⟨t252, t253⟩, A770, H⟩ := H
                replace H : ((integers_Wrapped.f k2 2 a0 a1).bind fun bt254 => ((integers_Wrapped.f k2 2 a0 a2).bind fun bt256 => ((integers_Wrapped.f k2 0 bt254.1 bt256.1).bind fun bt258 => (if x7_2 = true then (if t251 = 0 then (if t253 = 0 then (if bt254.2 = 0 then (if bt256.2 = 0 then (if bt258.2 = 0 then (formularylaw07_IntegersRing.j2 k2 a0 a1 a2 (t252 != bt258.1)) else (none)) else (none)) else (none)) else (none)) else (none)) else (none))))) = some r := H
                have A77 := Aside0.mk A770
                clear A770
                replace H := Option.bind_eq_some_iff.mp H
                obtain ⟨⟨t254, t255⟩, A780, H⟩ := H
                replace H : ((integers_Wrapped.f k2 2 a0 a2).bind fun bt256 => ((integers_Wrapped.f k2 0 t254 bt256.1).bind fun bt258 => (if x7_2 = true then (if t251 = 0 then (if t253 = 0 then (if t255 = 0 then (if bt256.2 = 0 then (if bt258.2 = 0 then (formularylaw07_IntegersRing.j2 k2 a0 a1 a2 (t252 != bt258.1)) else (none)) else (none)) else (none)) else (none)) else (none)) else (none)))) = some r := H
                have A78 := Aside0.mk A780
                clear A780
                replace H := Option.bind_eq_some_iff.mp H
                obtain ⟨⟨t256, t257⟩, A790, H⟩ := H
                replace H : ((integers_Wrapped.f k2 0 t254 t256).bind fun bt258 => (if x7_2 = true then (if t251 = 0 then (if t253 = 0 then (if t255 = 0 then (if t257 = 0 then (if bt258.2 = 0 then (formularylaw07_IntegersRing.j2 k2 a0 a1 a2 (t252 != bt258.1)) else (none)) else (none)) else (none)) else (none)) else (none)) else (none))) = some r := H
                have A79 := Aside0.mk A790
                clear A790
                replace H := Option.bind_eq_some_iff.mp H
                obtain ⟨⟨t258, t259⟩, A800, H⟩ := H
                replace H : (if x7_2 = true then (if t251 = 0 then (if t253 = 0 then (if t255 = 0 then (if t257 = 0 then (if t259 = 0 then (formularylaw07_IntegersRing.j2 k2 a0 a1 a2 (t252 != t258)) else (none)) else (none)) else (none)) else (none)) else (none)) else (none)) = some r := H
                have A80 := Aside0.mk A800
                clear A800
                have HC81 := Aside0.mk H
                clear H
                obtain ⟨Ao82, co82, eo82⟩ := Kd.R_slice HO_8.out
                subst eo82
                go_upto_region 21 with (first | ((with_reducible refine gate_callee (f := 14) rfl ?_); refine goesL_ (some 148) rfl rfl Try.func14 (by kernel_rfl) rfl #[.int .i64 0, .int .i64 a1, .int .i64 a2] rfl (by (try simp only [List.map_toArray, List.map_cons, List.map_nil]); first | done | rfl | (simp only [List.length_drop, List.length_take]; rfl)) ?_; (with_reducible refine (integers_Wrapped.calls k2 0 a1 a2 t250 t251 _ A76.out).mono ?_); rintro e w83 ⟨rfl, hb⟩; refine ⟨_, rfl, ?_⟩; have n0_ := Aside0.mk (Kd.R_below (by (with_reducible repeat (first | apply Kd.R_alloc | apply Kd.R_drewN | apply Kd.R_drew)); exact HO_8.out) hb); have n1_ := Aside0.mk (below_step (by repeat (first | (with_reducible first | exact HB.out | apply below_alloc | apply pw_below_drewN | apply below_drew1) | exact HB.out)) hb); clear HO_8; clear HB; have HO_8 := n0_; have HB := n1_; clear n0_ n1_; (try clear hb); (try clear hb2); (try clear hk); (try clear hi)) | ((with_reducible refine gate_callee (f := 14) rfl ?_); refine goesL_ (some 154) rfl rfl Try.func14 (by kernel_rfl) rfl #[.int .i64 2, .int .i64 a0, .int .i64 t250] rfl (by (try simp only [List.map_toArray, List.map_cons, List.map_nil]); first | done | rfl | (simp only [List.length_drop, List.length_take]; rfl)) ?_; (with_reducible refine (integers_Wrapped.calls k2 2 a0 t250 t252 t253 _ A77.out).mono ?_); rintro e w84 ⟨rfl, hb⟩; refine ⟨_, rfl, ?_⟩; have n0_ := Aside0.mk (Kd.R_below (by (with_reducible repeat (first | apply Kd.R_alloc | apply Kd.R_drewN | apply Kd.R_drew)); exact HO_8.out) hb); have n1_ := Aside0.mk (below_step (by repeat (first | (with_reducible first | exact HB.out | apply below_alloc | apply pw_below_drewN | apply below_drew1) | exact HB.out)) hb); clear HO_8; clear HB; have HO_8 := n0_; have HB := n1_; clear n0_ n1_; (try clear hb); (try clear hb2); (try clear hk); (try clear hi)) | ((with_reducible refine gate_callee (f := 14) rfl ?_); refine goesL_ (some 160) rfl rfl Try.func14 (by kernel_rfl) rfl #[.int .i64 2, .int .i64 a0, .int .i64 a1] rfl (by (try simp only [List.map_toArray, List.map_cons, List.map_nil]); first | done | rfl | (simp only [List.length_drop, List.length_take]; rfl)) ?_; (with_reducible refine (integers_Wrapped.calls k2 2 a0 a1 t254 t255 _ A78.out).mono ?_); rintro e w85 ⟨rfl, hb⟩; refine ⟨_, rfl, ?_⟩; have n0_ := Aside0.mk (Kd.R_below (by (with_reducible repeat (first | apply Kd.R_alloc | apply Kd.R_drewN | apply Kd.R_drew)); exact HO_8.out) hb); have n1_ := Aside0.mk (below_step (by repeat (first | (with_reducible first | exact HB.out | apply below_alloc | apply pw_below_drewN | apply below_drew1) | exact HB.out)) hb); clear HO_8; clear HB; have HO_8 := n0_; have HB := n1_; clear n0_ n1_; (try clear hb); (try clear hb2); (try clear hk); (try clear hi)) | ((with_reducible refine gate_callee (f := 14) rfl ?_); refine goesL_ (some 166) rfl rfl Try.func14 (by kernel_rfl) rfl #[.int .i64 2, .int .i64 a0, .int .i64 a2] rfl (by (try simp only [List.map_toArray, List.map_cons, List.map_nil]); first | done | rfl | (simp only [List.length_drop, List.length_take]; rfl)) ?_; (with_reducible refine (integers_Wrapped.calls k2 2 a0 a2 t256 t257 _ A79.out).mono ?_); rintro e w86 ⟨rfl, hb⟩; refine ⟨_, rfl, ?_⟩; have n0_ := Aside0.mk (Kd.R_below (by (with_reducible repeat (first | apply Kd.R_alloc | apply Kd.R_drewN | apply Kd.R_drew)); exact HO_8.out) hb); have n1_ := Aside0.mk (below_step (by repeat (first | (with_reducible first | exact HB.out | apply below_alloc | apply pw_below_drewN | apply below_drew1) | exact HB.out)) hb); clear HO_8; clear HB; have HO_8 := n0_; have HB := n1_; clear n0_ n1_; (try clear hb); (try clear hb2); (try clear hk); (try clear hi)) | ((with_reducible refine gate_callee (f := 14) rfl ?_); refine goesL_ (some 172) rfl rfl Try.func14 (by kernel_rfl) rfl #[.int .i64 0, .int .i64 t254, .int .i64 t256] rfl (by (try simp only [List.map_toArray, List.map_cons, List.map_nil]); first | done | rfl | (simp only [List.length_drop, List.length_take]; rfl)) ?_; (with_reducible refine (integers_Wrapped.calls k2 0 t254 t256 t258 t259 _ A80.out).mono ?_); rintro e w87 ⟨rfl, hb⟩; refine ⟨_, rfl, ?_⟩; have n0_ := Aside0.mk (Kd.R_below (by (with_reducible repeat (first | apply Kd.R_alloc | apply Kd.R_drewN | apply Kd.R_drew)); exact HO_8.out) hb); have n1_ := Aside0.mk (below_step (by repeat (first | (with_reducible first | exact HB.out | apply below_alloc | apply pw_below_drewN | apply below_drew1) | exact HB.out)) hb); clear HO_8; clear HB; have HO_8 := n0_; have HB := n1_; clear n0_ n1_; (try clear hb); (try clear hb2); (try clear hk); (try clear hi)))
                (try simp only [Act.put, List.setIfInBounds_toArray, List.set_cons_zero, List.set_cons_succ])
                go_cut [201] (fun v201 wc => ∃ (kq : Nat) (x201_80 : Bool), v201 = .bool x201_80 ∧ Aside0 (formularylaw07_IntegersRing.j2 kq a0 a1 a2 x201_80 = some r) ∧ Aside0 (kq ≤ k2) ∧ Aside0 (Below w.heap.size w wc))
                case first =>
                  have H := HC81.out
                  clear HC81
                  by_cases c88 : x7_2 = true
                  · subst c88
                    have H1 : (if t251 = 0 then (if t253 = 0 then (if t255 = 0 then (if t257 = 0 then (if t259 = 0 then (formularylaw07_IntegersRing.j2 k2 a0 a1 a2 (t252 != t258)) else (none)) else (none)) else (none)) else (none)) else (none)) = some r := by rw [if_pos rfl] at H; exact H
                    clear H
                    have H := H1
                    clear H1
                    by_cases c89 : t251 = 0
                    · rw [if_pos c89] at H
                      have c89b0 : (t251 == 0) = true := beq_iff_eq.mpr c89
                      have c89b1 : (t251 != 0) = false := bne_eq_false_iff_eq.mpr c89
                      clear c89
                      (first | rw [c89b0] | (simp only [i64_w, i32_w]; rw [c89b0]) | skip)
                      by_cases c90 : t253 = 0
                      · rw [if_pos c90] at H
                        have c90b0 : (t253 == 0) = true := beq_iff_eq.mpr c90
                        have c90b1 : (t253 != 0) = false := bne_eq_false_iff_eq.mpr c90
                        clear c90
                        by_cases c91 : t255 = 0
                        · rw [if_pos c91] at H
                          have c91b0 : (t255 == 0) = true := beq_iff_eq.mpr c91
                          have c91b1 : (t255 != 0) = false := bne_eq_false_iff_eq.mpr c91
                          clear c91
                          by_cases c92 : t257 = 0
                          · rw [if_pos c92] at H
                            have c92b0 : (t257 == 0) = true := beq_iff_eq.mpr c92
                            have c92b1 : (t257 != 0) = false := bne_eq_false_iff_eq.mpr c92
                            clear c92
                            by_cases c93 : t259 = 0
                            · rw [if_pos c93] at H
                              have c93b0 : (t259 == 0) = true := beq_iff_eq.mpr c93
                              have c93b1 : (t259 != 0) = false := bne_eq_false_iff_eq.mpr c93
                              clear c93
                              as_aux_lemma =>
                                have H' := Aside0.mk H
                                clear H
                                go_wp2
                                go_meet
                                case rel => exact ⟨_, ((t252 != t258)), (by first | rfl | (simp; done) | (simp [*]; done)), H', ⟨by have := HJ5.out; have := HK2.out; first | omega | exact Nat.le_refl _⟩, ⟨by repeat (first | (with_reducible first | exact HB.out | apply below_alloc | apply pw_below_drewN | apply below_drew1) | exact HB.out)⟩⟩
                            · rw [if_neg c93] at H
                              exact absurd H (by simp)
                          · rw [if_neg c92] at H
                            exact absurd H (by simp)
                        · rw [if_neg c91] at H
                          exact absurd H (by simp)
                      · rw [if_neg c90] at H
                        exact absurd H (by simp)
                    · rw [if_neg c89] at H
                      exact absurd H (by simp)
                  · replace c88 := Bool.eq_false_iff.mpr c88
                    subst c88
                    have H1 : (none) = some r := by rw [if_neg (show ¬ (false = true) by decide)] at H; exact H
                    clear H
                    have H := H1
                    clear H1
                    exact absurd H (by simp)
                case rest =>
                  clear HC81
                  try clear c1
                  try clear c2
                  try clear p2
                  try clear q2
                  try clear hx2
                  try clear c5
                  try clear p6
                  try clear c8
                  try clear c9
                  try clear c9b0
                  try clear c9b1
                  try clear c11
                  try clear c12
                  try clear c14
                  try clear c14b0
                  try clear c15
                  try clear c15b0
                  try clear c21
                  try clear c22
                  try clear c22b0
                  try clear c22b1
                  try clear c23
                  try clear c23b0
                  try clear c23b1
                  try clear p23
                  try clear q23
                  try clear hx23
                  try clear c24
                  try clear c24b0
                  try clear c24b1
                  try clear p24
                  try clear q24
                  try clear hx24
                  try clear c25
                  try clear c25b0
                  try clear c25b1
                  try clear c26
                  try clear c26b0
                  try clear c26b1
                  try clear c27
                  try clear c27b0
                  try clear c27b1
                  try clear p64
                  try clear c88
                  try clear c89
                  try clear c89b0
                  try clear c89b1
                  try clear c90
                  try clear c90b0
                  try clear c90b1
                  try clear c91
                  try clear c91b0
                  try clear c91b1
                  try clear c92
                  try clear c92b0
                  try clear c92b1
                  try clear c93
                  try clear c93b0
                  try clear c93b1
                  try clear hx235_0
                  try clear hx238_0
                  try clear hx241_0
                  try clear hx244_0
                  try clear hx247_0
                  try clear p2
                  try clear p235
                  try clear p238
                  try clear p241
                  try clear p244
                  try clear p247
                  try clear q235
                  try clear q238
                  try clear q241
                  try clear q244
                  try clear q247
                  obtain ⟨kq, x201_80, rfl, HA, HJ80, HB⟩ := hcut
                  cases kq with
                  | zero => exact absurd HA.out (by simp [formularylaw07_IntegersRing.j2])
                  | succ kj80 =>
                    have H := HA.out
                    clear HA
                    simp only [formularylaw07_IntegersRing.j2] at H
                    by_cases c94 : x201_80 = true
                    · subst c94
                      have H1 : (none) = some r := by rw [if_pos rfl] at H; exact H
                      clear H
                      have H := H1
                      clear H1
                      exact absurd H (by simp)
                    · replace c94 := Bool.eq_false_iff.mpr c94
                      subst c94
                      have H1 : ((integers_BitOp.f kj80 3 a0 1).bind fun bt260 => ((integers_Wrapped.f kj80 0 a0 a0).bind fun bt262 => ((formularybase_Mod.f a2 33).bind fun t264 => ((integers_BitOp.f kj80 4 a0 t264).bind fun bt265 => ((integers_BitOp.f kj80 4 bt265.1 (wrap64 (-t264))).bind fun bt267 => ((integers_BitOp.f kj80 2 a0 a1).bind fun bt269 => ((integers_BitOp.f kj80 2 bt269.1 a1).bind fun bt271 => ((integers_BitOp.f kj80 0 a0 a1).bind fun bt273 => ((integers_BitOp.f kj80 1 a0 a1).bind fun bt275 => ((integers_Wrapped.f kj80 0 bt273.1 bt275.1).bind fun bt277 => ((integers_Wrapped.f kj80 0 a0 a1).bind fun bt279 => (if bt260.2 = 0 then (if bt262.2 = 0 then (if bt260.1 = bt262.1 then (if bt265.2 = 0 then (if bt267.2 = 0 then (if bt267.1 = a0 then (if bt269.2 = 0 then (if bt271.2 = 0 then (if bt271.1 = a0 then (if bt273.2 = 0 then (if bt275.2 = 0 then (if bt277.2 = 0 then (if bt279.2 = 0 then (some (bt277.1 == bt279.1)) else (none)) else (none)) else (none)) else (none)) else (none)) else (none)) else (none)) else (none)) else (none)) else (none)) else (none)) else (none)) else (none))))))))))))) = some r := by rw [if_neg (show ¬ (false = true) by decide)] at H; exact H
                      clear H
                      have H := H1
                      clear H1
                      replace H := Option.bind_eq_some_iff.mp H
                      obtain ⟨⟨t260, t261⟩, A950, H⟩ := H
                      replace H : ((integers_Wrapped.f kj80 0 a0 a0).bind fun bt262 => ((formularybase_Mod.f a2 33).bind fun t264 => ((integers_BitOp.f kj80 4 a0 t264).bind fun bt265 => ((integers_BitOp.f kj80 4 bt265.1 (wrap64 (-t264))).bind fun bt267 => ((integers_BitOp.f kj80 2 a0 a1).bind fun bt269 => ((integers_BitOp.f kj80 2 bt269.1 a1).bind fun bt271 => ((integers_BitOp.f kj80 0 a0 a1).bind fun bt273 => ((integers_BitOp.f kj80 1 a0 a1).bind fun bt275 => ((integers_Wrapped.f kj80 0 bt273.1 bt275.1).bind fun bt277 => ((integers_Wrapped.f kj80 0 a0 a1).bind fun bt279 => (if t261 = 0 then (if bt262.2 = 0 then (if t260 = bt262.1 then (if bt265.2 = 0 then (if bt267.2 = 0 then (if bt267.1 = a0 then (if bt269.2 = 0 then (if bt271.2 = 0 then (if bt271.1 = a0 then (if bt273.2 = 0 then (if bt275.2 = 0 then (if bt277.2 = 0 then (if bt279.2 = 0 then (some (bt277.1 == bt279.1)) else (none)) else (none)) else (none)) else (none)) else (none)) else (none)) else (none)) else (none)) else (none)) else (none)) else (none)) else (none)) else (none)))))))))))) = some r := H
                      have A95 := Aside0.mk A950
                      clear A950
                      replace H := Option.bind_eq_some_iff.mp H
                      obtain ⟨⟨t262, t263⟩, A960, H⟩ := H
                      replace H : ((formularybase_Mod.f a2 33).bind fun t264 => ((integers_BitOp.f kj80 4 a0 t264).bind fun bt265 => ((integers_BitOp.f kj80 4 bt265.1 (wrap64 (-t264))).bind fun bt267 => ((integers_BitOp.f kj80 2 a0 a1).bind fun bt269 => ((integers_BitOp.f kj80 2 bt269.1 a1).bind fun bt271 => ((integers_BitOp.f kj80 0 a0 a1).bind fun bt273 => ((integers_BitOp.f kj80 1 a0 a1).bind fun bt275 => ((integers_Wrapped.f kj80 0 bt273.1 bt275.1).bind fun bt277 => ((integers_Wrapped.f kj80 0 a0 a1).bind fun bt279 => (if t261 = 0 then (if t263 = 0 then (if t260 = t262 then (if bt265.2 = 0 then (if bt267.2 = 0 then (if bt267.1 = a0 then (if bt269.2 = 0 then (if bt271.2 = 0 then (if bt271.1 = a0 then (if bt273.2 = 0 then (if bt275.2 = 0 then (if bt277.2 = 0 then (if bt279.2 = 0 then (some (bt277.1 == bt279.1)) else (none)) else (none)) else (none)) else (none)) else (none)) else (none)) else (none)) else (none)) else (none)) else (none)) else (none)) else (none)) else (none))))))))))) = some r := H
                      have A96 := Aside0.mk A960
                      clear A960
                      replace H := Option.bind_eq_some_iff.mp H
                      obtain ⟨t264, A970, H⟩ := H
                      replace H : ((integers_BitOp.f kj80 4 a0 t264).bind fun bt265 => ((integers_BitOp.f kj80 4 bt265.1 (wrap64 (-t264))).bind fun bt267 => ((integers_BitOp.f kj80 2 a0 a1).bind fun bt269 => ((integers_BitOp.f kj80 2 bt269.1 a1).bind fun bt271 => ((integers_BitOp.f kj80 0 a0 a1).bind fun bt273 => ((integers_BitOp.f kj80 1 a0 a1).bind fun bt275 => ((integers_Wrapped.f kj80 0 bt273.1 bt275.1).bind fun bt277 => ((integers_Wrapped.f kj80 0 a0 a1).bind fun bt279 => (if t261 = 0 then (if t263 = 0 then (if t260 = t262 then (if bt265.2 = 0 then (if bt267.2 = 0 then (if bt267.1 = a0 then (if bt269.2 = 0 then (if bt271.2 = 0 then (if bt271.1 = a0 then (if bt273.2 = 0 then (if bt275.2 = 0 then (if bt277.2 = 0 then (if bt279.2 = 0 then (some (bt277.1 == bt279.1)) else (none)) else (none)) else (none)) else (none)) else (none)) else (none)) else (none)) else (none)) else (none)) else (none)) else (none)) else (none)) else (none)))))))))) = some r := H
                      have A97 := Aside0.mk A970
                      clear A970
                      replace H := Option.bind_eq_some_iff.mp H
                      obtain ⟨⟨t265, t266⟩, A980, H⟩ := H
                      replace H : ((integers_BitOp.f kj80 4 t265 (wrap64 (-t264))).bind fun bt267 => ((integers_BitOp.f kj80 2 a0 a1).bind fun bt269 => ((integers_BitOp.f kj80 2 bt269.1 a1).bind fun bt271 => ((integers_BitOp.f kj80 0 a0 a1).bind fun bt273 => ((integers_BitOp.f kj80 1 a0 a1).bind fun bt275 => ((integers_Wrapped.f kj80 0 bt273.1 bt275.1).bind fun bt277 => ((integers_Wrapped.f kj80 0 a0 a1).bind fun bt279 => (if t261 = 0 then (if t263 = 0 then (if t260 = t262 then (if t266 = 0 then (if bt267.2 = 0 then (if bt267.1 = a0 then (if bt269.2 = 0 then (if bt271.2 = 0 then (if bt271.1 = a0 then (if bt273.2 = 0 then (if bt275.2 = 0 then (if bt277.2 = 0 then (if bt279.2 = 0 then (some (bt277.1 == bt279.1)) else (none)) else (none)) else (none)) else (none)) else (none)) else (none)) else (none)) else (none)) else (none)) else (none)) else (none)) else (none)) else (none))))))))) = some r := H
                      have A98 := Aside0.mk A980
                      clear A980
                      replace H := Option.bind_eq_some_iff.mp H
                      obtain ⟨⟨t267, t268⟩, A990, H⟩ := H
                      replace H : ((integers_BitOp.f kj80 2 a0 a1).bind fun bt269 => ((integers_BitOp.f kj80 2 bt269.1 a1).bind fun bt271 => ((integers_BitOp.f kj80 0 a0 a1).bind fun bt273 => ((integers_BitOp.f kj80 1 a0 a1).bind fun bt275 => ((integers_Wrapped.f kj80 0 bt273.1 bt275.1).bind fun bt277 => ((integers_Wrapped.f kj80 0 a0 a1).bind fun bt279 => (if t261 = 0 then (if t263 = 0 then (if t260 = t262 then (if t266 = 0 then (if t268 = 0 then (if t267 = a0 then (if bt269.2 = 0 then (if bt271.2 = 0 then (if bt271.1 = a0 then (if bt273.2 = 0 then (if bt275.2 = 0 then (if bt277.2 = 0 then (if bt279.2 = 0 then (some (bt277.1 == bt279.1)) else (none)) else (none)) else (none)) else (none)) else (none)) else (none)) else (none)) else (none)) else (none)) else (none)) else (none)) else (none)) else (none)))))))) = some r := H
                      have A99 := Aside0.mk A990
                      clear A990
                      replace H := Option.bind_eq_some_iff.mp H
                      obtain ⟨⟨t269, t270⟩, A1000, H⟩ := H
                      replace H : ((integers_BitOp.f kj80 2 t269 a1).bind fun bt271 => ((integers_BitOp.f kj80 0 a0 a1).bind fun bt273 => ((integers_BitOp.f kj80 1 a0 a1).bind fun bt275 => ((integers_Wrapped.f kj80 0 bt273.1 bt275.1).bind fun bt277 => ((integers_Wrapped.f kj80 0 a0 a1).bind fun bt279 => (if t261 = 0 then (if t263 = 0 then (if t260 = t262 then (if t266 = 0 then (if t268 = 0 then (if t267 = a0 then (if t270 = 0 then (if bt271.2 = 0 then (if bt271.1 = a0 then (if bt273.2 = 0 then (if bt275.2 = 0 then (if bt277.2 = 0 then (if bt279.2 = 0 then (some (bt277.1 == bt279.1)) else (none)) else (none)) else (none)) else (none)) else (none)) else (none)) else (none)) else (none)) else (none)) else (none)) else (none)) else (none)) else (none))))))) = some r := H
                      have A100 := Aside0.mk A1000
                      clear A1000
                      replace H := Option.bind_eq_some_iff.mp H
                      obtain ⟨⟨t271, t272⟩, A1010, H⟩ := H
                      replace H : ((integers_BitOp.f kj80 0 a0 a1).bind fun bt273 => ((integers_BitOp.f kj80 1 a0 a1).bind fun bt275 => ((integers_Wrapped.f kj80 0 bt273.1 bt275.1).bind fun bt277 => ((integers_Wrapped.f kj80 0 a0 a1).bind fun bt279 => (if t261 = 0 then (if t263 = 0 then (if t260 = t262 then (if t266 = 0 then (if t268 = 0 then (if t267 = a0 then (if t270 = 0 then (if t272 = 0 then (if t271 = a0 then (if bt273.2 = 0 then (if bt275.2 = 0 then (if bt277.2 = 0 then (if bt279.2 = 0 then (some (bt277.1 == bt279.1)) else (none)) else (none)) else (none)) else (none)) else (none)) else (none)) else (none)) else (none)) else (none)) else (none)) else (none)) else (none)) else (none)))))) = some r := H
                      have A101 := Aside0.mk A1010
                      clear A1010
                      replace H := Option.bind_eq_some_iff.mp H
                      obtain ⟨⟨t273, t274⟩, A1020, H⟩ := H
                      replace H : ((integers_BitOp.f kj80 1 a0 a1).bind fun bt275 => ((integers_Wrapped.f kj80 0 t273 bt275.1).bind fun bt277 => ((integers_Wrapped.f kj80 0 a0 a1).bind fun bt279 => (if t261 = 0 then (if t263 = 0 then (if t260 = t262 then (if t266 = 0 then (if t268 = 0 then (if t267 = a0 then (if t270 = 0 then (if t272 = 0 then (if t271 = a0 then (if t274 = 0 then (if bt275.2 = 0 then (if bt277.2 = 0 then (if bt279.2 = 0 then (some (bt277.1 == bt279.1)) else (none)) else (none)) else (none)) else (none)) else (none)) else (none)) else (none)) else (none)) else (none)) else (none)) else (none)) else (none)) else (none))))) = some r := H
                      have A102 := Aside0.mk A1020
                      clear A1020
                      replace H := Option.bind_eq_some_iff.mp H
                      obtain ⟨⟨t275, t276⟩, A1030, H⟩ := H
                      replace H : ((integers_Wrapped.f kj80 0 t273 t275).bind fun bt277 => ((integers_Wrapped.f kj80 0 a0 a1).bind fun bt279 => (if t261 = 0 then (if t263 = 0 then (if t260 = t262 then (if t266 = 0 then (if t268 = 0 then (if t267 = a0 then (if t270 = 0 then (if t272 = 0 then (if t271 = a0 then (if t274 = 0 then (if t276 = 0 then (if bt277.2 = 0 then (if bt279.2 = 0 then (some (bt277.1 == bt279.1)) else (none)) else (none)) else (none)) else (none)) else (none)) else (none)) else (none)) else (none)) else (none)) else (none)) else (none)) else (none)) else (none)))) = some r := H
                      have A103 := Aside0.mk A1030
                      clear A1030
                      replace H := Option.bind_eq_some_iff.mp H
                      obtain ⟨⟨t277, t278⟩, A1040, H⟩ := H
                      replace H : ((integers_Wrapped.f kj80 0 a0 a1).bind fun bt279 => (if t261 = 0 then (if t263 = 0 then (if t260 = t262 then (if t266 = 0 then (if t268 = 0 then (if t267 = a0 then (if t270 = 0 then (if t272 = 0 then (if t271 = a0 then (if t274 = 0 then (if t276 = 0 then (if t278 = 0 then (if bt279.2 = 0 then (some (t277 == bt279.1)) else (none)) else (none)) else (none)) else (none)) else (none)) else (none)) else (none)) else (none)) else (none)) else (none)) else (none)) else (none)) else (none))) = some r := H
                      have A104 := Aside0.mk A1040
                      clear A1040
                      replace H := Option.bind_eq_some_iff.mp H
                      obtain ⟨⟨t279, t280⟩, A1050, H⟩ := H
                      replace H : (if t261 = 0 then (if t263 = 0 then (if t260 = t262 then (if t266 = 0 then (if t268 = 0 then (if t267 = a0 then (if t270 = 0 then (if t272 = 0 then (if t271 = a0 then (if t274 = 0 then (if t276 = 0 then (if t278 = 0 then (if t280 = 0 then (some (t277 == t279)) else (none)) else (none)) else (none)) else (none)) else (none)) else (none)) else (none)) else (none)) else (none)) else (none)) else (none)) else (none)) else (none)) = some r := H
                      have A105 := Aside0.mk A1050
                      clear A1050
                      by_cases c106 : t261 = 0
                      · rw [if_pos c106] at H
                        have c106b0 : (t261 == 0) = true := beq_iff_eq.mpr c106
                        have c106b1 : (t261 != 0) = false := bne_eq_false_iff_eq.mpr c106
                        clear c106
                        by_cases c107 : t263 = 0
                        · rw [if_pos c107] at H
                          have c107b0 : (t263 == 0) = true := beq_iff_eq.mpr c107
                          have c107b1 : (t263 != 0) = false := bne_eq_false_iff_eq.mpr c107
                          clear c107
                          by_cases c108 : t260 = t262
                          · rw [if_pos c108] at H
                            have c108b0 : (t260 == t262) = true := beq_iff_eq.mpr c108
                            have c108b1 : (t260 != t262) = false := bne_eq_false_iff_eq.mpr c108
                            clear c108
                            by_cases c109 : t266 = 0
                            · rw [if_pos c109] at H
                              have c109b0 : (t266 == 0) = true := beq_iff_eq.mpr c109
                              have c109b1 : (t266 != 0) = false := bne_eq_false_iff_eq.mpr c109
                              clear c109
                              by_cases c110 : t268 = 0
                              · rw [if_pos c110] at H
                                have c110b0 : (t268 == 0) = true := beq_iff_eq.mpr c110
                                have c110b1 : (t268 != 0) = false := bne_eq_false_iff_eq.mpr c110
                                clear c110
                                by_cases c111 : t267 = a0
                                · rw [if_pos c111] at H
                                  have c111b0 : (t267 == a0) = true := beq_iff_eq.mpr c111
                                  have c111b1 : (t267 != a0) = false := bne_eq_false_iff_eq.mpr c111
                                  clear c111
                                  by_cases c112 : t270 = 0
                                  · rw [if_pos c112] at H
                                    have c112b0 : (t270 == 0) = true := beq_iff_eq.mpr c112
                                    have c112b1 : (t270 != 0) = false := bne_eq_false_iff_eq.mpr c112
                                    clear c112
                                    by_cases c113 : t272 = 0
                                    · rw [if_pos c113] at H
                                      have c113b0 : (t272 == 0) = true := beq_iff_eq.mpr c113
                                      have c113b1 : (t272 != 0) = false := bne_eq_false_iff_eq.mpr c113
                                      clear c113
                                      by_cases c114 : t271 = a0
                                      · rw [if_pos c114] at H
                                        have c114b0 : (t271 == a0) = true := beq_iff_eq.mpr c114
                                        have c114b1 : (t271 != a0) = false := bne_eq_false_iff_eq.mpr c114
                                        clear c114
                                        by_cases c115 : t274 = 0
                                        · rw [if_pos c115] at H
                                          have c115b0 : (t274 == 0) = true := beq_iff_eq.mpr c115
                                          have c115b1 : (t274 != 0) = false := bne_eq_false_iff_eq.mpr c115
                                          clear c115
                                          by_cases c116 : t276 = 0
                                          · rw [if_pos c116] at H
                                            have c116b0 : (t276 == 0) = true := beq_iff_eq.mpr c116
                                            have c116b1 : (t276 != 0) = false := bne_eq_false_iff_eq.mpr c116
                                            clear c116
                                            by_cases c117 : t278 = 0
                                            · rw [if_pos c117] at H
                                              have c117b0 : (t278 == 0) = true := beq_iff_eq.mpr c117
                                              have c117b1 : (t278 != 0) = false := bne_eq_false_iff_eq.mpr c117
                                              clear c117
                                              by_cases c118 : t280 = 0
                                              · rw [if_pos c118] at H
                                                have c118b0 : (t280 == 0) = true := beq_iff_eq.mpr c118
                                                have c118b1 : (t280 != 0) = false := bne_eq_false_iff_eq.mpr c118
                                                clear c118
                                                as_aux_lemma =>
                                                  obtain rfl := Option.some.inj H
                                                  go_wp2_with (first | ((with_reducible refine gate_callee (f := 20) rfl ?_); refine goesL_ (some 204) rfl rfl Try.func20 (by kernel_rfl) rfl #[.int .i64 3, .int .i64 a0, .int .i64 1] rfl (by (try simp only [List.map_toArray, List.map_cons, List.map_nil]); first | done | rfl | (simp only [List.length_drop, List.length_take]; rfl)) ?_; (with_reducible refine (integers_BitOp.calls kj80 3 a0 1 t260 t261 _ A95.out).mono ?_); rintro e w119 ⟨rfl, hb⟩; refine ⟨_, rfl, ?_⟩; have n0_ := Aside0.mk (below_step (by repeat (first | (with_reducible first | exact HB.out | apply below_alloc | apply pw_below_drewN | apply below_drew1) | exact HB.out)) hb); clear HB; have HB := n0_; clear n0_; (try clear hb); (try clear hb2); (try clear hk); (try clear hi)) | ((with_reducible refine gate_callee (f := 14) rfl ?_); refine goesL_ (some 210) rfl rfl Try.func14 (by kernel_rfl) rfl #[.int .i64 0, .int .i64 a0, .int .i64 a0] rfl (by (try simp only [List.map_toArray, List.map_cons, List.map_nil]); first | done | rfl | (simp only [List.length_drop, List.length_take]; rfl)) ?_; (with_reducible refine (integers_Wrapped.calls kj80 0 a0 a0 t262 t263 _ A96.out).mono ?_); rintro e w120 ⟨rfl, hb⟩; refine ⟨_, rfl, ?_⟩; have n0_ := Aside0.mk (below_step (by repeat (first | (with_reducible first | exact HB.out | apply below_alloc | apply pw_below_drewN | apply below_drew1) | exact HB.out)) hb); clear HB; have HB := n0_; clear n0_; (try clear hb); (try clear hb2); (try clear hk); (try clear hi)) | ((with_reducible refine gate_callee (f := 24) rfl ?_); refine goesL_ (some 214) rfl rfl Try.func24 (by kernel_rfl) rfl #[.int .i64 a2, .int .i64 33] rfl (by (try simp only [List.map_toArray, List.map_cons, List.map_nil]); first | done | rfl | (simp only [List.length_drop, List.length_take]; rfl)) ?_; (with_reducible refine (formularybase_Mod.calls a2 33 t264 _ A97.out).mono ?_); rintro e w' ⟨rfl, ⟨nd, rfl⟩⟩; refine ⟨_, rfl, ?_⟩) | ((with_reducible refine gate_callee (f := 20) rfl ?_); refine goesL_ (some 218) rfl rfl Try.func20 (by kernel_rfl) rfl #[.int .i64 4, .int .i64 a0, .int .i64 t264] rfl (by (try simp only [List.map_toArray, List.map_cons, List.map_nil]); first | done | rfl | (simp only [List.length_drop, List.length_take]; rfl)) ?_; (with_reducible refine (integers_BitOp.calls kj80 4 a0 t264 t265 t266 _ A98.out).mono ?_); rintro e w121 ⟨rfl, hb⟩; refine ⟨_, rfl, ?_⟩; have n0_ := Aside0.mk (below_step (by repeat (first | (with_reducible first | exact HB.out | apply below_alloc | apply pw_below_drewN | apply below_drew1) | exact HB.out)) hb); clear HB; have HB := n0_; clear n0_; (try clear hb); (try clear hb2); (try clear hk); (try clear hi)) | ((with_reducible refine gate_callee (f := 20) rfl ?_); refine goesL_ (some 225) rfl rfl Try.func20 (by kernel_rfl) rfl #[.int .i64 4, .int .i64 t265, .int .i64 (wrap64 (-t264))] rfl (by (try simp only [List.map_toArray, List.map_cons, List.map_nil]); first | done | rfl | (simp only [List.length_drop, List.length_take]; rfl)) ?_; (with_reducible refine (integers_BitOp.calls kj80 4 t265 (wrap64 (-t264)) t267 t268 _ A99.out).mono ?_); rintro e w122 ⟨rfl, hb⟩; refine ⟨_, rfl, ?_⟩; have n0_ := Aside0.mk (below_step (by repeat (first | (with_reducible first | exact HB.out | apply below_alloc | apply pw_below_drewN | apply below_drew1) | exact HB.out)) hb); clear HB; have HB := n0_; clear n0_; (try clear hb); (try clear hb2); (try clear hk); (try clear hi)) | ((with_reducible refine gate_callee (f := 20) rfl ?_); refine goesL_ (some 231) rfl rfl Try.func20 (by kernel_rfl) rfl #[.int .i64 2, .int .i64 a0, .int .i64 a1] rfl (by (try simp only [List.map_toArray, List.map_cons, List.map_nil]); first | done | rfl | (simp only [List.length_drop, List.length_take]; rfl)) ?_; (with_reducible refine (integers_BitOp.calls kj80 2 a0 a1 t269 t270 _ A100.out).mono ?_); rintro e w123 ⟨rfl, hb⟩; refine ⟨_, rfl, ?_⟩; have n0_ := Aside0.mk (below_step (by repeat (first | (with_reducible first | exact HB.out | apply below_alloc | apply pw_below_drewN | apply below_drew1) | exact HB.out)) hb); clear HB; have HB := n0_; clear n0_; (try clear hb); (try clear hb2); (try clear hk); (try clear hi)) | ((with_reducible refine gate_callee (f := 20) rfl ?_); refine goesL_ (some 237) rfl rfl Try.func20 (by kernel_rfl) rfl #[.int .i64 2, .int .i64 t269, .int .i64 a1] rfl (by (try simp only [List.map_toArray, List.map_cons, List.map_nil]); first | done | rfl | (simp only [List.length_drop, List.length_take]; rfl)) ?_; (with_reducible refine (integers_BitOp.calls kj80 2 t269 a1 t271 t272 _ A101.out).mono ?_); rintro e w124 ⟨rfl, hb⟩; refine ⟨_, rfl, ?_⟩; have n0_ := Aside0.mk (below_step (by repeat (first | (with_reducible first | exact HB.out | apply below_alloc | apply pw_below_drewN | apply below_drew1) | exact HB.out)) hb); clear HB; have HB := n0_; clear n0_; (try clear hb); (try clear hb2); (try clear hk); (try clear hi)) | ((with_reducible refine gate_callee (f := 20) rfl ?_); refine goesL_ (some 243) rfl rfl Try.func20 (by kernel_rfl) rfl #[.int .i64 0, .int .i64 a0, .int .i64 a1] rfl (by (try simp only [List.map_toArray, List.map_cons, List.map_nil]); first | done | rfl | (simp only [List.length_drop, List.length_take]; rfl)) ?_; (with_reducible refine (integers_BitOp.calls kj80 0 a0 a1 t273 t274 _ A102.out).mono ?_); rintro e w125 ⟨rfl, hb⟩; refine ⟨_, rfl, ?_⟩; have n0_ := Aside0.mk (below_step (by repeat (first | (with_reducible first | exact HB.out | apply below_alloc | apply pw_below_drewN | apply below_drew1) | exact HB.out)) hb); clear HB; have HB := n0_; clear n0_; (try clear hb); (try clear hb2); (try clear hk); (try clear hi)) | ((with_reducible refine gate_callee (f := 20) rfl ?_); refine goesL_ (some 249) rfl rfl Try.func20 (by kernel_rfl) rfl #[.int .i64 1, .int .i64 a0, .int .i64 a1] rfl (by (try simp only [List.map_toArray, List.map_cons, List.map_nil]); first | done | rfl | (simp only [List.length_drop, List.length_take]; rfl)) ?_; (with_reducible refine (integers_BitOp.calls kj80 1 a0 a1 t275 t276 _ A103.out).mono ?_); rintro e w126 ⟨rfl, hb⟩; refine ⟨_, rfl, ?_⟩; have n0_ := Aside0.mk (below_step (by repeat (first | (with_reducible first | exact HB.out | apply below_alloc | apply pw_below_drewN | apply below_drew1) | exact HB.out)) hb); clear HB; have HB := n0_; clear n0_; (try clear hb); (try clear hb2); (try clear hk); (try clear hi)) | ((with_reducible refine gate_callee (f := 14) rfl ?_); refine goesL_ (some 255) rfl rfl Try.func14 (by kernel_rfl) rfl #[.int .i64 0, .int .i64 t273, .int .i64 t275] rfl (by (try simp only [List.map_toArray, List.map_cons, List.map_nil]); first | done | rfl | (simp only [List.length_drop, List.length_take]; rfl)) ?_; (with_reducible refine (integers_Wrapped.calls kj80 0 t273 t275 t277 t278 _ A104.out).mono ?_); rintro e w127 ⟨rfl, hb⟩; refine ⟨_, rfl, ?_⟩; have n0_ := Aside0.mk (below_step (by repeat (first | (with_reducible first | exact HB.out | apply below_alloc | apply pw_below_drewN | apply below_drew1) | exact HB.out)) hb); clear HB; have HB := n0_; clear n0_; (try clear hb); (try clear hb2); (try clear hk); (try clear hi)) | ((with_reducible refine gate_callee (f := 14) rfl ?_); refine goesL_ (some 261) rfl rfl Try.func14 (by kernel_rfl) rfl #[.int .i64 0, .int .i64 a0, .int .i64 a1] rfl (by (try simp only [List.map_toArray, List.map_cons, List.map_nil]); first | done | rfl | (simp only [List.length_drop, List.length_take]; rfl)) ?_; (with_reducible refine (integers_Wrapped.calls kj80 0 a0 a1 t279 t280 _ A105.out).mono ?_); rintro e w128 ⟨rfl, hb⟩; refine ⟨_, rfl, ?_⟩; have n0_ := Aside0.mk (below_step (by repeat (first | (with_reducible first | exact HB.out | apply below_alloc | apply pw_below_drewN | apply below_drew1) | exact HB.out)) hb); clear HB; have HB := n0_; clear n0_; (try clear hb); (try clear hb2); (try clear hk); (try clear hi)))
                                                  go_ret
                                                  exact ⟨by first | rfl | (simp [errW_none, errW_some] <;> rfl) | (simp [*, errW_none, errW_some] <;> rfl), by repeat (first | (with_reducible first | exact HB.out | apply below_alloc | apply pw_below_drewN | apply below_drew1) | exact HB.out)⟩
                                              · rw [if_neg c118] at H
                                                exact absurd H (by simp)
                                            · rw [if_neg c117] at H
                                              exact absurd H (by simp)
                                          · rw [if_neg c116] at H
                                            exact absurd H (by simp)
                                        · rw [if_neg c115] at H
                                          exact absurd H (by simp)
                                      · rw [if_neg c114] at H
                                        exact absurd H (by simp)
                                    · rw [if_neg c113] at H
                                      exact absurd H (by simp)
                                  · rw [if_neg c112] at H
                                    exact absurd H (by simp)
                                · rw [if_neg c111] at H
                                  exact absurd H (by simp)
                              · rw [if_neg c110] at H
                                exact absurd H (by simp)
                            · rw [if_neg c109] at H
                              exact absurd H (by simp)
                          · rw [if_neg c108] at H
                            exact absurd H (by simp)
                        · rw [if_neg c107] at H
                          exact absurd H (by simp)
                      · rw [if_neg c106] at H
                        exact absurd H (by simp)
  · replace c5 := Bool.eq_false_iff.mpr c5
    subst c5
    have H1 : (none) = some r := by rw [if_neg (show ¬ (false = true) by decide)] at H; exact H
    clear H
    have H := H1
    clear H1
    exact absurd H (by simp)

/-- THE ONE PURE STATEMENT of formularylaw07_IntegersRing: yours. -/
def formularylaw07_IntegersRing.Pure : Prop := ∀ (a0 : Int) (a1 : Int) (a2 : Int), (Lit.int .i64 a0).wf = true → (Lit.int .i64 a1).wf = true → (Lit.int .i64 a2).wf = true → ∃ k, formularylaw07_IntegersRing.f k a0 a1 a2 = some true
theorem formularylaw07_IntegersRing.walk (P : formularylaw07_IntegersRing.Pure) (a0 : Int) (a1 : Int) (a2 : Int) (w : World) (w0 : (Lit.int .i64 a0).wf = true) (w1 : (Lit.int .i64 a1).wf = true) (w2 : (Lit.int .i64 a2).wf = true) :
    Calls Try.prog 8 #[.int .i64 a0, .int .i64 a1, .int .i64 a2] w fun e w' => e = .returned (.bool true) ∧ Below w.heap.size w w' := by
  obtain ⟨k, h⟩ := P a0 a1 a2 w0 w1 w2
  refine (formularylaw07_IntegersRing.calls k a0 a1 a2 true w h).mono ?_
  rintro e w' ⟨rfl, hd⟩
  exact ⟨rfl, hd⟩

end Go.Proofs.Ytgmlihjopinagaa.PIntegersRing
