-- Written by lawrow.py of this session: the row of a law with records or arrays among its parameters.
import Derived.Test.YtjcbhbncncbdjaaGreatDoorRows
import Derived.Test.YtjcbhbncncbdjaaGreatDoorPuW
import Derived.WalkKit
import Derived.ProofKit
import Derived.OpenShut
import Derived.ShutString
import Derived.ChangeOld
import Derived.Below
import Derived.SizedLaws
import Derived.Lib.SmallJoins
import Derived.Carry
import Derived.Test.YtjcbhbncncbdjaaGreatDoorTie
import Derived.Test.YtjcbhbncncbdjaaGreatDoorCards
import Derived.Test.YtjcbhbncncbdjaaGreatDoorApL
import Derived.LaidMore
import Derived.Lay
import Derived.SevenTiedAt
import Derived.Stop.Joined
namespace Go.Proofs.YtjcbhbncncbdjaaGreatDoor.sourcePrints
open Go.ChangeShapes Go.WideShapes Go.ChangeAt Go.RowKit Go.Joins
open Go.ChangeMaps (open_string shut_string)
set_option linter.unusedVariables false
theorem own : ownKnob Tryz.prog.godebug = none := by kernel_rfl
theorem laidOut : laidOutB Tryz.prog = true := by kernel_rfl
set_option maxRecDepth 100000 in
theorem lifted (os : Os) (started : os.Started) (H : Type) (enc : TypeId × Value → H) :
    ReturnsInHanded {} Tryz.checked os 8 .any (fun w args => (Rows.sourcePrintsSpec.pre enc Tryz.prog Tryz.f8 Rows.sourcePrintsRow.domain false w args ∧ laidMetH Tryz.prog Rows.sourcePrintsRow.laid w) ∧ sizedMet enc Tryz.prog Tryz.f8 (OpenSpec.ofChange Rows.sourcePrintsSpec) false w args) (Rows.sourcePrintsSpec.post enc Tryz.prog Tryz.f8 false true false false) := by
  refine returnsInHanded_of_change_and (C := Tryz.checked) (X := fun w _ => laidMetH Tryz.prog Rows.sourcePrintsRow.laid w) (fun _ _ _ hh h => h.of_heap hh) own started (by kernel_rfl) Tryz.func8
    (ChangeSpec.witness_shaped (enc := enc) (C := Tryz.checked) (os := os) (X := fun w _ => laidMetH Tryz.prog Rows.sourcePrintsRow.laid w) false (World.laidAll Tryz.prog os Rows.sourcePrintsRow.laid) #[.slice none 0 0] 8 (World.laidAll_os _ _ _)
      (World.shaped_of_ZipB (by kernel_rfl) (by kernel_rfl)) (by kernel_rfl) (by kernel_rfl) (by kernel_rfl)
      (by rw [MakeChecks.laidMetH_plain _ _ _ (by kernel_rfl)]; exact laidMet_laidAll _ (by kernel_rfl) (by kernel_rfl))) ?_
  intro W base args ds gs before hval0 hW hcnd hsz0 hL _
  rw [MakeChecks.laidMetH_plain _ _ _ (by kernel_rfl)] at hL
  have hGd := YtjcbhbncncbdjaaGreatDoorAi.gd_8 hL
  have hsz : (DataW.weightsEach Tryz.prog (Tryz.f8.params.toList ++ Rows.sourcePrintsSpec.plain.varTypes Tryz.prog) (ds ++ gs)).all (· ≤ reachBytes) = true := hsz0
  have hval : ∀ (j : Nat) t v, Tryz.f8.params[j]? = some t → args[j]? = some v → Value.okWide Tryz.prog W .any base t v := hval0
  have hW' := hW
  obtain ⟨p, q, hA0, hV, rfl, hfz, hnd⟩ := hW
  have hA : DataW.TrodAll enc Tryz.prog W 0 (fun _ => true) true Tryz.f8.params.toList args.toList ds p := hA0
  rw [Tryz.params8] at hA hval hsz
  obtain ⟨v0, vs0, d0, ds0, p0, q0, hargs, rfl, rfl, h0, r0⟩ := trodAll_cons hA
  obtain ⟨rfl, rfl, rfl⟩ := trodAll_nil r0
  obtain rfl : args = #[v0] := by cases args; simp_all
  obtain ⟨rfl, rfl⟩ := trodVars_none hV
  have hw0 : YtjcbhbncncbdjaaGreatDoorAi.Wok Tryz.prog 40 d0 := fun n hn => of_decide_eq_true (List.all_eq_true.1 hsz n (DataW.weights_mem_each (j := 0) rfl rfl n hn))
  have hn0 : ∀ cs, v0 ≠ .agg cs := fun cs e => by
    obtain ⟨_, _, _, q⟩ := Go.WideShapes.okWide_slice Tryz.underlying40 (hval 0 40 v0 rfl rfl)
    rw [q] at e
    cases e
  obtain ⟨mu0, nx0, ks0, t0, g0, gs0, _, ml0, fl0, ⟨ta0, tz0, tg0, tf0⟩, tb0, tv0⟩ := YtjcbhbncncbdjaaGreatDoorAi.arg_one hn0 h0 hw0 YtjcbhbncncbdjaaGreatDoorAi.gok_stmts (YtjcbhbncncbdjaaGreatDoorAi.gs0 hGd)
  obtain rfl := (List.cons.inj tg0).1
  have hAA := hA
  clear hA0 hval0 hsz0 hsz

  refine (YtjcbhbncncbdjaaGreatDoorAi.law08_calls gs0 (YtjcbhbncncbdjaaGreatDoorAi.gl0.mono fl0) tf0 tb0 tv0).mono fun e W' ⟨he, bel0⟩ => ?_
  have bel : Below W.heap.size W W' := by first | exact bel0 | exact bel0.below
  subst he
  exact ⟨_, rfl, _, _, _, [], _, [], hW', trodAll_mk1 (shut_bool Tryz.underlying4 _), (YtjcbhbncncbdjaaGreatDoorAi.args_again laidOut (by kernel_rfl) (by kernel_rfl) (fun t ht => of_decide_eq_true (List.all_eq_true.1 (show [40].all (fun t => decide (t < Tryz.prog.types.size)) = true by kernel_rfl) t ht)) hAA bel), rfl, bel.frame _, fun h => by cases h⟩
theorem and_intro {a b : Bool} (h1 : a = true) (h2 : b = true) : (a && b) = true := by rw [h1, h2]; rfl
set_option maxHeartbeats 8000000 in
theorem closed : joinedFacts Tryz.prog 8 Tryz.f8 Rows.sourcePrintsSpec Rows.sourcePrintsRow = true := by
  unfold joinedFacts
  repeat' with_reducible refine and_intro ?_ ?_
  all_goals as_aux_lemma => kernel_rfl
theorem over : Rows.sourcePrintsRow.holds Tryz.pinned (OpenSpec.ofChange Rows.sourcePrintsSpec) :=
  OpenClaim.holds_of_wide 8 Tryz.f8 rfl rfl rfl rfl rfl rfl rfl ⟨rfl, rfl, rfl, rfl, rfl⟩ rfl rfl rfl rfl rfl (by kernel_rfl) Tryz.func8 closed
    (of_decide_eq_true (by kernel_rfl)) (by unfold Func.isWrapper; first | (rw [if_pos (by decide +kernel)]; kernel_rfl) | (rw [if_neg (by decide +kernel)]; exact ⟨rfl, rfl⟩))
    (fun os started H enc _ => lifted os started H enc)
theorem proved : Rows.SourcePrintsCardSaid :=
  Claim7.holds_tied_plain_at .later [] [.data, .data, .data, .data, .sentinel, .sentinel, .pinned] true (true, "6a9b8470e9c1abbfb5634444d4ff59c6081a95c1f21eaba5f573f32312b4e925") true over (fun _ h => by cases h) (by kernel_rfl) (fun _ h => by cases h) sourcePrints_row_tie rfl ⟨rfl, rfl⟩ (by kernel_rfl) rfl
    (fun f fn hf hfn => by
      obtain rfl : f = 8 := Option.some.inj ((show Tryz.prog.funcNamed "formulary/formularylaw01.SourcePrints" = some 8 by kernel_rfl).symm.trans hf) |>.symm
      obtain rfl : fn = Tryz.f8 := (Option.some.inj (Tryz.func8.symm.trans hfn)).symm
      refine ⟨by kernel_rfl, fun j t ht => ?_⟩
      have hall : (Tryz.f8.params.toList.all fun t => !Tryz.prog.wantsStandIn t) = true := by kernel_rfl
      have := List.all_eq_true.1 hall t (Array.mem_toList_iff.2 (Array.mem_of_getElem? ht))
      have h2 : (!Tryz.prog.wantsStandIn t) = true := this
      cases hw : Tryz.prog.wantsStandIn t with
      | false => exact hw
      | true => rw [hw] at h2; cases h2)
    (by kernel_rfl)
#print axioms proved
end Go.Proofs.YtjcbhbncncbdjaaGreatDoor.sourcePrints
namespace Go.Proofs.YtjcbhbncncbdjaaGreatDoor
/-- The row, under a short name, for the claim. -/
theorem sourcePrints_holds : Rows.SourcePrintsCardSaid := sourcePrints.proved
end Go.Proofs.YtjcbhbncncbdjaaGreatDoor
