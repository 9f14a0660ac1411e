/-
  No cell of these rows narrows 'for every input' (looked for: loops, veiled, ifaces, maps, wideKeys, modest, calm, conditions, laid).
  DERIVED. THE GIVEN ROWS OF THIS SEAT. 9 by the template 'for every input the law returns true; each argument reads behind the call as it read before'; 0 by the template 'total and deterministic' (their statements: YtgmlihjopinagaaTotals.lean).
  GIVEN WITH THE SEED: the statements are not yours to turn. If you find one false, say at which input.
  Laid BY PROGRAM, IN A SANDBOX (cutbox-rows.mjs): the forced cells as the released guide's own fill.sh prints them over the translation f01a47597c4ef0c9… (all of the seat's roots in one cut). By AI agents, Wed Nov 11 2026. No macro, syntax, notation, axiom, sorry.
-/
import Derived.Test.YtgmlihjopinagaaChecked
import GoSem.Claim
import GoSem.ClaimJoined
import GoSem.ClaimMapViews
import Derived.JoinedTies
import Derived.KernelRfl
namespace Go.Proofs.Ytgmlihjopinagaa
/- THE CELL 'sum', in the pinned program and in every row, IS THE sha256 OF THE DUMP (.gsa) THAT YtgmlihjopinagaaProg.lean LOADS. Nothing in Lean hashes anything: it is a label: what it is worth is what the hold of that sum in a sandbox is worth. -/
noncomputable def Try.pinned : Pinned := { name := "ytgmlihjopinagaa", sum := "f01a47597c4ef0c90d1978b18849194145dcb0533011b7572a28c38a05f64120", checked := Try.checked }
namespace Rows
def none {H : Type} : Left H := { results := [], args := [] }

/-- 'formularylaw07.IntegersApply': WHATEVER THE INPUT: true; the input reads as it did. -/
def integersApplySpec : ChangeSpec := { name := "integersApply", fn := fun _ => fun
  | [d1, d2, d3] => { results := [.lit (.bool true)], args := [d1, d2, d3] }
  | _ => none }
def integersApplyRow : OpenClaim := { program := "ytgmlihjopinagaa", sum := "f01a47597c4ef0c90d1978b18849194145dcb0533011b7572a28c38a05f64120", func := "formulary/formularylaw07.IntegersApply", spec := "integersApply", unfollowed := true, recurses := true, apart := false }
def IntegersApplySaid : Prop := integersApplyRow.holds Try.pinned (OpenSpec.ofChange integersApplySpec)

/-- ITS FALSE NEIGHBOUR: 'it returns false'. Refute it at one input. -/
def integersApplyWrong : ChangeSpec := { name := "integersApply", fn := fun _ => fun
  | [d1, d2, d3] => { results := [.lit (.bool false)], args := [d1, d2, d3] }
  | _ => none }
def IntegersApplyWrongFalsely : Prop := integersApplyRow.holds Try.pinned (OpenSpec.ofChange integersApplyWrong)

/-- 'formularylaw07.IntegersPowers': WHATEVER THE INPUT: true; the input reads as it did. -/
def integersPowersSpec : ChangeSpec := { name := "integersPowers", fn := fun _ => fun
  | [d1, d2] => { results := [.lit (.bool true)], args := [d1, d2] }
  | _ => none }
def integersPowersRow : OpenClaim := { program := "ytgmlihjopinagaa", sum := "f01a47597c4ef0c90d1978b18849194145dcb0533011b7572a28c38a05f64120", func := "formulary/formularylaw07.IntegersPowers", spec := "integersPowers", unfollowed := true, recurses := true, apart := false }
def IntegersPowersSaid : Prop := integersPowersRow.holds Try.pinned (OpenSpec.ofChange integersPowersSpec)

/-- ITS FALSE NEIGHBOUR: 'it returns false'. Refute it at one input. -/
def integersPowersWrong : ChangeSpec := { name := "integersPowers", fn := fun _ => fun
  | [d1, d2] => { results := [.lit (.bool false)], args := [d1, d2] }
  | _ => none }
def IntegersPowersWrongFalsely : Prop := integersPowersRow.holds Try.pinned (OpenSpec.ofChange integersPowersWrong)

/-- 'formularylaw07.IntegersBits': WHATEVER THE INPUT: true; the input reads as it did. -/
def integersBitsSpec : ChangeSpec := { name := "integersBits", fn := fun _ => fun
  | [d1, d2, d3] => { results := [.lit (.bool true)], args := [d1, d2, d3] }
  | _ => none }
def integersBitsRow : OpenClaim := { program := "ytgmlihjopinagaa", sum := "f01a47597c4ef0c90d1978b18849194145dcb0533011b7572a28c38a05f64120", func := "formulary/formularylaw07.IntegersBits", spec := "integersBits", unfollowed := true, recurses := true, apart := false }
def IntegersBitsSaid : Prop := integersBitsRow.holds Try.pinned (OpenSpec.ofChange integersBitsSpec)

/-- ITS FALSE NEIGHBOUR: 'it returns false'. Refute it at one input. -/
def integersBitsWrong : ChangeSpec := { name := "integersBits", fn := fun _ => fun
  | [d1, d2, d3] => { results := [.lit (.bool false)], args := [d1, d2, d3] }
  | _ => none }
def IntegersBitsWrongFalsely : Prop := integersBitsRow.holds Try.pinned (OpenSpec.ofChange integersBitsWrong)

/-- 'formularylaw07.IntegersRanges': WHATEVER THE INPUT: true; the input reads as it did. -/
def integersRangesSpec : ChangeSpec := { name := "integersRanges", fn := fun _ => fun
  | [d1, d2, d3] => { results := [.lit (.bool true)], args := [d1, d2, d3] }
  | _ => none }
def integersRangesRow : OpenClaim := { program := "ytgmlihjopinagaa", sum := "f01a47597c4ef0c90d1978b18849194145dcb0533011b7572a28c38a05f64120", func := "formulary/formularylaw07.IntegersRanges", spec := "integersRanges", unfollowed := true, recurses := true, apart := false }
def IntegersRangesSaid : Prop := integersRangesRow.holds Try.pinned (OpenSpec.ofChange integersRangesSpec)

/-- ITS FALSE NEIGHBOUR: 'it returns false'. Refute it at one input. -/
def integersRangesWrong : ChangeSpec := { name := "integersRanges", fn := fun _ => fun
  | [d1, d2, d3] => { results := [.lit (.bool false)], args := [d1, d2, d3] }
  | _ => none }
def IntegersRangesWrongFalsely : Prop := integersRangesRow.holds Try.pinned (OpenSpec.ofChange integersRangesWrong)

/-- 'formularylaw07.IntegersExact': WHATEVER THE INPUT: true; the input reads as it did. -/
def integersExactSpec : ChangeSpec := { name := "integersExact", fn := fun _ => fun
  | [d1, d2] => { results := [.lit (.bool true)], args := [d1, d2] }
  | _ => none }
def integersExactRow : OpenClaim := { program := "ytgmlihjopinagaa", sum := "f01a47597c4ef0c90d1978b18849194145dcb0533011b7572a28c38a05f64120", func := "formulary/formularylaw07.IntegersExact", spec := "integersExact", unfollowed := true, recurses := true, apart := false }
def IntegersExactSaid : Prop := integersExactRow.holds Try.pinned (OpenSpec.ofChange integersExactSpec)

/-- ITS FALSE NEIGHBOUR: 'it returns false'. Refute it at one input. -/
def integersExactWrong : ChangeSpec := { name := "integersExact", fn := fun _ => fun
  | [d1, d2] => { results := [.lit (.bool false)], args := [d1, d2] }
  | _ => none }
def IntegersExactWrongFalsely : Prop := integersExactRow.holds Try.pinned (OpenSpec.ofChange integersExactWrong)

/-- 'formularylaw07.IntegersRing': WHATEVER THE INPUT: true; the input reads as it did. -/
def integersRingSpec : ChangeSpec := { name := "integersRing", fn := fun _ => fun
  | [d1, d2, d3] => { results := [.lit (.bool true)], args := [d1, d2, d3] }
  | _ => none }
def integersRingRow : OpenClaim := { program := "ytgmlihjopinagaa", sum := "f01a47597c4ef0c90d1978b18849194145dcb0533011b7572a28c38a05f64120", func := "formulary/formularylaw07.IntegersRing", spec := "integersRing", unfollowed := true, recurses := true, apart := false }
def IntegersRingSaid : Prop := integersRingRow.holds Try.pinned (OpenSpec.ofChange integersRingSpec)

/-- ITS FALSE NEIGHBOUR: 'it returns false'. Refute it at one input. -/
def integersRingWrong : ChangeSpec := { name := "integersRing", fn := fun _ => fun
  | [d1, d2, d3] => { results := [.lit (.bool false)], args := [d1, d2, d3] }
  | _ => none }
def IntegersRingWrongFalsely : Prop := integersRingRow.holds Try.pinned (OpenSpec.ofChange integersRingWrong)

/-- 'formularylaw07.IntegersFields': WHATEVER THE INPUT: true; the input reads as it did. -/
def integersFieldsSpec : ChangeSpec := { name := "integersFields", fn := fun _ => fun
  | [d] => { results := [.lit (.bool true)], args := [d] }
  | _ => none }
def integersFieldsRow : OpenClaim := { program := "ytgmlihjopinagaa", sum := "f01a47597c4ef0c90d1978b18849194145dcb0533011b7572a28c38a05f64120", func := "formulary/formularylaw07.IntegersFields", spec := "integersFields", unfollowed := true, recurses := true, apart := false }
def IntegersFieldsSaid : Prop := integersFieldsRow.holds Try.pinned (OpenSpec.ofChange integersFieldsSpec)

/-- ITS FALSE NEIGHBOUR: 'it returns false'. Refute it at one input. -/
def integersFieldsWrong : ChangeSpec := { name := "integersFields", fn := fun _ => fun
  | [d] => { results := [.lit (.bool false)], args := [d] }
  | _ => none }
def IntegersFieldsWrongFalsely : Prop := integersFieldsRow.holds Try.pinned (OpenSpec.ofChange integersFieldsWrong)

/-- 'formularylaw07.IntegersQuotients': WHATEVER THE INPUT: true; the input reads as it did. -/
def integersQuotientsSpec : ChangeSpec := { name := "integersQuotients", fn := fun _ => fun
  | [d1, d2, d3] => { results := [.lit (.bool true)], args := [d1, d2, d3] }
  | _ => none }
def integersQuotientsRow : OpenClaim := { program := "ytgmlihjopinagaa", sum := "f01a47597c4ef0c90d1978b18849194145dcb0533011b7572a28c38a05f64120", func := "formulary/formularylaw07.IntegersQuotients", spec := "integersQuotients", unfollowed := true, recurses := true, apart := false }
def IntegersQuotientsSaid : Prop := integersQuotientsRow.holds Try.pinned (OpenSpec.ofChange integersQuotientsSpec)

/-- ITS FALSE NEIGHBOUR: 'it returns false'. Refute it at one input. -/
def integersQuotientsWrong : ChangeSpec := { name := "integersQuotients", fn := fun _ => fun
  | [d1, d2, d3] => { results := [.lit (.bool false)], args := [d1, d2, d3] }
  | _ => none }
def IntegersQuotientsWrongFalsely : Prop := integersQuotientsRow.holds Try.pinned (OpenSpec.ofChange integersQuotientsWrong)

/-- 'formularylaw07.IntegersCompares': WHATEVER THE INPUT: true; the input reads as it did. -/
def integersComparesSpec : ChangeSpec := { name := "integersCompares", fn := fun _ => fun
  | [d1, d2, d3] => { results := [.lit (.bool true)], args := [d1, d2, d3] }
  | _ => none }
def integersComparesRow : OpenClaim := { program := "ytgmlihjopinagaa", sum := "f01a47597c4ef0c90d1978b18849194145dcb0533011b7572a28c38a05f64120", func := "formulary/formularylaw07.IntegersCompares", spec := "integersCompares", unfollowed := true, recurses := true, apart := false }
def IntegersComparesSaid : Prop := integersComparesRow.holds Try.pinned (OpenSpec.ofChange integersComparesSpec)

/-- ITS FALSE NEIGHBOUR: 'it returns false'. Refute it at one input. -/
def integersComparesWrong : ChangeSpec := { name := "integersCompares", fn := fun _ => fun
  | [d1, d2, d3] => { results := [.lit (.bool false)], args := [d1, d2, d3] }
  | _ => none }
def IntegersComparesWrongFalsely : Prop := integersComparesRow.holds Try.pinned (OpenSpec.ofChange integersComparesWrong)

/- THE SECOND FORM. 'bulk': how many values and letters a reading holds, each counted each time it is reached (what is shared counts as often as it is met; a slice's spare places count too). A statement '..UptoSaid' is the law's where the arguments, and the package variables that the reading takes, are together of bulk at most 1048576: NARROWER than '..Said'. Prove '..Said' where nothing that the law and all that it calls make is longer than what came in: it says more and counts as full. Else prove '..UptoSaid'. A law counts once. -/
mutual
def uptoBulk {H : Type} : DataW H → Nat
  | .lit (.string bytes) => bytes.length + 1
  | .lit _ => 1
  | .nil => 1
  | .ptr d => uptoBulk d + 1
  | .slice elems spare => uptoBulkAll elems + uptoBulkAll spare + 1
  | .agg parts => uptoBulkAll parts + 1
  | .iface _ d => uptoBulk d + 1
  | .map entries => uptoBulkEntries entries + 1
  | .held _ => 1
def uptoBulkAll {H : Type} : List (DataW H) → Nat
  | [] => 0
  | d :: r => uptoBulk d + uptoBulkAll r
def uptoBulkEntries {H : Type} : List (Lit × DataW H) → Nat
  | [] => 0
  | x :: r => uptoBulkEntry x + uptoBulkEntries r
def uptoBulkEntry {H : Type} : Lit × DataW H → Nat
  | (.string bytes, d) => bytes.length + uptoBulk d + 1
  | (_, d) => uptoBulk d + 1
 end
def uptoSmall : (H : Type) → List (DataW H) → Bool := fun _ ds => decide (uptoBulkAll ds ≤ 1048576)
def OpenSpec.upto (s : _root_.Go.ChangeSpec) : _root_.Go.OpenSpec := { _root_.Go.OpenSpec.ofChange s with cond := some uptoSmall }

/-- 'formularylaw07.IntegersApply', WHERE WHAT IT READS IS OF BULK AT MOST 1048576: true; the input reads as it did. -/
def integersApplyUptoRow : OpenClaim := { program := "ytgmlihjopinagaa", sum := "f01a47597c4ef0c90d1978b18849194145dcb0533011b7572a28c38a05f64120", func := "formulary/formularylaw07.IntegersApply", spec := "integersApply", unfollowed := true, recurses := true, apart := false, narrowed := true }
def IntegersApplyUptoSaid : Prop := integersApplyUptoRow.holds Try.pinned (OpenSpec.upto integersApplySpec)

/-- 'formularylaw07.IntegersPowers', WHERE WHAT IT READS IS OF BULK AT MOST 1048576: true; the input reads as it did. -/
def integersPowersUptoRow : OpenClaim := { program := "ytgmlihjopinagaa", sum := "f01a47597c4ef0c90d1978b18849194145dcb0533011b7572a28c38a05f64120", func := "formulary/formularylaw07.IntegersPowers", spec := "integersPowers", unfollowed := true, recurses := true, apart := false, narrowed := true }
def IntegersPowersUptoSaid : Prop := integersPowersUptoRow.holds Try.pinned (OpenSpec.upto integersPowersSpec)

/-- 'formularylaw07.IntegersBits', WHERE WHAT IT READS IS OF BULK AT MOST 1048576: true; the input reads as it did. -/
def integersBitsUptoRow : OpenClaim := { program := "ytgmlihjopinagaa", sum := "f01a47597c4ef0c90d1978b18849194145dcb0533011b7572a28c38a05f64120", func := "formulary/formularylaw07.IntegersBits", spec := "integersBits", unfollowed := true, recurses := true, apart := false, narrowed := true }
def IntegersBitsUptoSaid : Prop := integersBitsUptoRow.holds Try.pinned (OpenSpec.upto integersBitsSpec)

/-- 'formularylaw07.IntegersRanges', WHERE WHAT IT READS IS OF BULK AT MOST 1048576: true; the input reads as it did. -/
def integersRangesUptoRow : OpenClaim := { program := "ytgmlihjopinagaa", sum := "f01a47597c4ef0c90d1978b18849194145dcb0533011b7572a28c38a05f64120", func := "formulary/formularylaw07.IntegersRanges", spec := "integersRanges", unfollowed := true, recurses := true, apart := false, narrowed := true }
def IntegersRangesUptoSaid : Prop := integersRangesUptoRow.holds Try.pinned (OpenSpec.upto integersRangesSpec)

/-- 'formularylaw07.IntegersExact', WHERE WHAT IT READS IS OF BULK AT MOST 1048576: true; the input reads as it did. -/
def integersExactUptoRow : OpenClaim := { program := "ytgmlihjopinagaa", sum := "f01a47597c4ef0c90d1978b18849194145dcb0533011b7572a28c38a05f64120", func := "formulary/formularylaw07.IntegersExact", spec := "integersExact", unfollowed := true, recurses := true, apart := false, narrowed := true }
def IntegersExactUptoSaid : Prop := integersExactUptoRow.holds Try.pinned (OpenSpec.upto integersExactSpec)

/-- 'formularylaw07.IntegersRing', WHERE WHAT IT READS IS OF BULK AT MOST 1048576: true; the input reads as it did. -/
def integersRingUptoRow : OpenClaim := { program := "ytgmlihjopinagaa", sum := "f01a47597c4ef0c90d1978b18849194145dcb0533011b7572a28c38a05f64120", func := "formulary/formularylaw07.IntegersRing", spec := "integersRing", unfollowed := true, recurses := true, apart := false, narrowed := true }
def IntegersRingUptoSaid : Prop := integersRingUptoRow.holds Try.pinned (OpenSpec.upto integersRingSpec)

/-- 'formularylaw07.IntegersFields', WHERE WHAT IT READS IS OF BULK AT MOST 1048576: true; the input reads as it did. -/
def integersFieldsUptoRow : OpenClaim := { program := "ytgmlihjopinagaa", sum := "f01a47597c4ef0c90d1978b18849194145dcb0533011b7572a28c38a05f64120", func := "formulary/formularylaw07.IntegersFields", spec := "integersFields", unfollowed := true, recurses := true, apart := false, narrowed := true }
def IntegersFieldsUptoSaid : Prop := integersFieldsUptoRow.holds Try.pinned (OpenSpec.upto integersFieldsSpec)

/-- 'formularylaw07.IntegersQuotients', WHERE WHAT IT READS IS OF BULK AT MOST 1048576: true; the input reads as it did. -/
def integersQuotientsUptoRow : OpenClaim := { program := "ytgmlihjopinagaa", sum := "f01a47597c4ef0c90d1978b18849194145dcb0533011b7572a28c38a05f64120", func := "formulary/formularylaw07.IntegersQuotients", spec := "integersQuotients", unfollowed := true, recurses := true, apart := false, narrowed := true }
def IntegersQuotientsUptoSaid : Prop := integersQuotientsUptoRow.holds Try.pinned (OpenSpec.upto integersQuotientsSpec)

/-- 'formularylaw07.IntegersCompares', WHERE WHAT IT READS IS OF BULK AT MOST 1048576: true; the input reads as it did. -/
def integersComparesUptoRow : OpenClaim := { program := "ytgmlihjopinagaa", sum := "f01a47597c4ef0c90d1978b18849194145dcb0533011b7572a28c38a05f64120", func := "formulary/formularylaw07.IntegersCompares", spec := "integersCompares", unfollowed := true, recurses := true, apart := false, narrowed := true }
def IntegersComparesUptoSaid : Prop := integersComparesUptoRow.holds Try.pinned (OpenSpec.upto integersComparesSpec)

end Rows
end Go.Proofs.Ytgmlihjopinagaa
