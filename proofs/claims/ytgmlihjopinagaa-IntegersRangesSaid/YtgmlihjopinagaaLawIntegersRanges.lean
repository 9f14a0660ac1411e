-- Written by lawrow.py of this session: the row of a law with records or arrays among its parameters.
import Derived.Test.YtgmlihjopinagaaRows
import Derived.Test.YtgmlihjopinagaaPIntegersRangesx13
import Derived.Test.YtgmlihjopinagaaPureIntegersRanges
import Derived.WalkKit
import Derived.ProofKit
import Derived.OpenShut
import Derived.ShutString
import Derived.ChangeOld
import Derived.Below
import Derived.SizedLaws
import Derived.Lib.SmallJoins
import Derived.Carry
namespace Go.Proofs.Ytgmlihjopinagaa.integersRanges
open Go.ChangeShapes Go.WideShapes Go.ChangeAt Go.RowKit Go.Joins
open Go.ChangeMaps (open_string shut_string)
set_option linter.unusedVariables false
theorem own : ownKnob Try.prog.godebug = none := by kernel_rfl
theorem laidOut : laidOutB Try.prog = true := by kernel_rfl
/-- An array of whole numbers by value, opened. -/
theorem open_arr {H : Type} {enc : TypeId × Value → H} {P : Program} {w : World} {base : Nat} {spare : Nat → Bool} {held : Bool} {r : Reach} {b0 : Nat} {t e : TypeId} {n : Nat} {kd : IntKind} {v : Value} {d : DataW H} {p : List MemPlace}
    (ht : P.underlying t = some (.array n e)) (he : P.underlying e = some (.int kd)) (hC : P.cellsOf t = n) (hE : P.cellsOf e = 1)
    (hv : Value.okWide P w r b0 t v) (h : DataW.Trod enc P w base spare held t v d p) :
    ∃ cs : Array Value, v = .agg cs ∧ cs.size = n ∧ ∀ i, i < n → ∃ z, cs.toList[i]? = some (.int kd z) ∧ (Lit.int kd z).wf = true := by
  simp only [Value.okWide, ht] at hv
  obtain ⟨cs, rfl, hs, _⟩ := hv
  refine ⟨cs, rfl, hs.trans hC, fun i hi => ?_⟩
  obtain ⟨fuel, hf⟩ := h
  have hf' : DataW.trod enc P w base spare held fuel t cs.toList = some (d, p) := by simpa [Value.cells] using hf
  obtain ⟨xs, m, _, _, _, hl, ha⟩ := DataW.trod_array ht hf'
  have hx := ha i hi
  rw [hE, Nat.mul_one, List.getElem?_eq_getElem (by omega)] at hx
  obtain ⟨z, hz, _, hw⟩ := DataW.trod_int he hx
  refine ⟨z, ?_, hw⟩
  have := congrArg (fun l : List Value => l[0]?) hz
  simpa using this
set_option maxRecDepth 100000 in
theorem lifted (os : Os) (started : os.Started) (H : Type) (enc : TypeId × Value → H) :
    ReturnsInHanded {} Try.checked os 6 .any (Rows.integersRangesSpec.pre6 enc Try.prog Try.f6 Rows.integersRangesRow.domain false) (Rows.integersRangesSpec.post enc Try.prog Try.f6 false true false false) := by
  refine returnsInHanded_of_change_sized (C := Try.checked) own started (by kernel_rfl) Try.func6
    (ChangeSpec.witness6 (enc := enc) (C := Try.checked) false ⟨#[], #[.int .i64 0, .agg #[.int .i64 0, .int .i64 0, .int .i64 0, .int .i64 0], .agg #[.int .i64 0, .int .i64 0]], []⟩ 8 (by kernel_rfl) (by kernel_rfl) (by kernel_rfl) (by kernel_rfl)) ?_
  intro W base args ds gs before hval0 hW hcnd hsz0 _
  have hsz : (DataW.weightsEach Try.prog (Try.f6.params.toList ++ Rows.integersRangesSpec.plain.varTypes Try.prog) (ds ++ gs)).all (· ≤ reachBytes) = true := hsz0
  have hval : ∀ (j : Nat) t v, Try.f6.params[j]? = some t → args[j]? = some v → Value.okWide Try.prog W .any base t v := hval0
  have hW' := hW
  obtain ⟨p, q, hA0, hV, rfl, hfz, hnd⟩ := hW
  have hA : DataW.TrodAll enc Try.prog W 0 (fun _ => true) true Try.f6.params.toList args.toList ds p := hA0
  rw [Try.params6] at hA hval hsz
  obtain ⟨v0, vs0, d0, ds0, p0, q0, hargs, rfl, rfl, h0, r0⟩ := trodAll_cons hA
  obtain ⟨v1, vs1, d1, ds1, p1, q1, rfl, rfl, rfl, h1, r1⟩ := trodAll_cons r0
  obtain ⟨v2, vs2, d2, ds2, p2, q2, rfl, rfl, rfl, h2, r2⟩ := trodAll_cons r1
  obtain ⟨rfl, rfl, rfl⟩ := trodAll_nil r2
  obtain rfl : args = #[v0, v1, v2] := by cases args; simp_all
  obtain ⟨rfl, rfl⟩ := trodVars_none hV
  obtain ⟨a0, rfl, rfl, rfl, w0⟩ := open_int Try.underlying3 (hval 0 3 v0 rfl rfl) h0
  have k1 := h1
  have lt1 : ∀ x ∈ p1, x.block < W.heap.size := by obtain ⟨m, hm⟩ := k1; exact DataW.trod_lt m _ _ _ hm
  obtain ⟨cs1, rfl, hs1, hc1⟩ := open_arr Try.underlying32 Try.underlying3 (by kernel_rfl) (by kernel_rfl) (hval 1 32 v1 rfl rfl) h1
  obtain ⟨a1_0, e1_0, w1_0⟩ := hc1 0 (by decide)
  obtain ⟨a1_1, e1_1, w1_1⟩ := hc1 1 (by decide)
  obtain ⟨a1_2, e1_2, w1_2⟩ := hc1 2 (by decide)
  obtain ⟨a1_3, e1_3, w1_3⟩ := hc1 3 (by decide)
  obtain rfl : cs1 = #[.int .i64 a1_0, .int .i64 a1_1, .int .i64 a1_2, .int .i64 a1_3] := by
    apply Array.ext'
    apply List.ext_getElem?
    intro i
    have hl : cs1.toList.length = 4 := by simpa using hs1
    match i with
    | 0 => rw [e1_0]; rfl
    | 1 => rw [e1_1]; rfl
    | 2 => rw [e1_2]; rfl
    | 3 => rw [e1_3]; rfl
    | i + 4 => rw [List.getElem?_eq_none (by omega), List.getElem?_eq_none (by simp)]
  have k2 := h2
  have lt2 : ∀ x ∈ p2, x.block < W.heap.size := by obtain ⟨m, hm⟩ := k2; exact DataW.trod_lt m _ _ _ hm
  obtain ⟨cs2, rfl, hs2, hc2⟩ := open_arr Try.underlying33 Try.underlying3 (by kernel_rfl) (by kernel_rfl) (hval 2 33 v2 rfl rfl) h2
  obtain ⟨a2_0, e2_0, w2_0⟩ := hc2 0 (by decide)
  obtain ⟨a2_1, e2_1, w2_1⟩ := hc2 1 (by decide)
  obtain rfl : cs2 = #[.int .i64 a2_0, .int .i64 a2_1] := by
    apply Array.ext'
    apply List.ext_getElem?
    intro i
    have hl : cs2.toList.length = 2 := by simpa using hs2
    match i with
    | 0 => rw [e2_0]; rfl
    | 1 => rw [e2_1]; rfl
    | i + 2 => rw [List.getElem?_eq_none (by omega), List.getElem?_eq_none (by simp)]
  clear hA0 hval0 hsz0 hsz
  obtain ⟨k, hk⟩ := Pure.IntegersRanges a0 a1_0 a1_1 a1_2 a1_3 a2_0 a2_1 w0 w1_0 w1_1 w1_2 w1_3 w2_0 w2_1
  refine (PIntegersRanges.formularylaw07_IntegersRanges.calls k a0 a1_0 a1_1 a1_2 a1_3 a2_0 a2_1 true W hk).mono fun e W' ⟨he, bel0⟩ => ?_
  have bel : Below W.heap.size W W' := by first | exact bel0 | exact bel0.below
  subst he
  exact ⟨_, rfl, _, _, _, [], _, [], hW', trodAll_mk1 (shut_bool Try.underlying4 _), (trodAll_cons_mk (shut_int Try.underlying3 w0) (trodAll_cons_mk (Below.trod laidOut (by kernel_rfl) (of_decide_eq_true (by kernel_rfl)) k1 bel lt1) (trodAll_cons_mk (Below.trod laidOut (by kernel_rfl) (of_decide_eq_true (by kernel_rfl)) k2 bel lt2) trodAll_mk0))), rfl, bel.frame _, fun h => by cases h⟩
theorem over : Rows.integersRangesRow.holds Try.pinned (OpenSpec.ofChange Rows.integersRangesSpec) :=
  OpenClaim.holds_of_wide 6 Try.f6 rfl rfl rfl rfl rfl rfl rfl ⟨rfl, rfl, rfl, rfl, rfl⟩ rfl rfl rfl rfl rfl (by kernel_rfl) Try.func6 (by kernel_rfl)
    (of_decide_eq_true (by kernel_rfl)) (by unfold Func.isWrapper; first | (rw [if_pos (by decide +kernel)]; kernel_rfl) | (rw [if_neg (by decide +kernel)]; exact ⟨rfl, rfl⟩))
    (fun os started H enc _ => lifted os started H enc)
theorem proved : Rows.IntegersRangesSaid := over
#print axioms proved
end Go.Proofs.Ytgmlihjopinagaa.integersRanges
namespace Go.Proofs.Ytgmlihjopinagaa
/-- The row, under a short name, for the claim. -/
theorem integersRanges_holds : Rows.IntegersRangesSaid := integersRanges.proved
end Go.Proofs.Ytgmlihjopinagaa
