/-
The chapter's awake (chapter 9): the kernel reckons it, over the four tables of the library that it reads.
-/
import Derived.Test.YtgejpojdnmogcaaGreatDoorAiExt
import Derived.Test.YtgejpojdnmogcaaGreatDoorProg
import Derived.KernelRfl
namespace Go.Proofs.YtgejpojdnmogcaaGreatDoorAi
open Go Go.RowKit
set_option linter.unusedVariables false
noncomputable def extF (g : Nat) (args : Array Value) : Option (Sem Value) :=
  bif Nat.beq g 105 then some (Extern.MathFloatBits.float32bits args) else
  bif Nat.beq g 106 then some (Extern.MathFloatBits.float64bits args) else
  bif Nat.beq g 158 || Nat.beq g 207 then some (Extern.MathFloatBits.float32frombits args) else
  bif Nat.beq g 159 || Nat.beq g 213 then some (Extern.MathFloatBits.float64frombits args) else
  bif Nat.beq g 194 then some (Extern.BytealgIndexByte.indexByte args) else
  bif Nat.beq g 179 then some (Extern.BytealgCompare.compare args) else none
noncomputable def ext9 (g : FuncId) (args : List Value) : Option Value := match extF g args.toArray with | some s => onlyPlain (pureRun Tryz.prog s) | none => none
noncomputable def E9 : Env := ⟨Tryz.prog, 17, ext9, fun g => Nat.beq g 191, fun g => bif Nat.beq g 192 then some 5 else none, fun _ _ _ _ => none⟩
noncomputable def cPow : List Value := [.int .u64 1, .int .u64 10, .int .u64 100, .int .u64 1000, .int .u64 10000, .int .u64 100000, .int .u64 1000000, .int .u64 10000000, .int .u64 100000000, .int .u64 1000000000, .int .u64 10000000000, .int .u64 100000000000, .int .u64 1000000000000, .int .u64 10000000000000, .int .u64 100000000000000, .int .u64 1000000000000000, .int .u64 10000000000000000, .int .u64 100000000000000000, .int .u64 1000000000000000000, .int .u64 10000000000000000000]
noncomputable def cInfo : List Value := [.int .u64 23, .int .u64 8, .int .i64 (-127)]
noncomputable def cF32 : List Value := [.float .f32 1065353216, .float .f32 1092616192, .float .f32 1120403456, .float .f32 1148846080, .float .f32 1176256512, .float .f32 1203982336, .float .f32 1232348160, .float .f32 1259902592, .float .f32 1287568416, .float .f32 1315859240, .float .f32 1343554297]
noncomputable def kAll : List Known := [⟨6, 6, cPow, 1⟩, ⟨7, 7, cInfo, 1⟩, ⟨8, 8, [.bool true], 1⟩, ⟨10, 10, [.slice (some ⟨17, 0, none⟩) 11 1], 1⟩, ⟨17, 17, cF32, 1⟩]
theorem awake_run : answer (xrun E9 300 12 [] (knownH kAll) 18) = some (.bool true) := by kernel_rfl
set_option maxRecDepth 100000
theorem e9 : EnvOk E9 := by
  refine ⟨fun g args H nx r h => (by cases h), fun g args H nx r h => (by cases h), by kernel_rfl, fun g fn h => ?_, fun g args v h => ?_, fun g h x w => ?_, fun g e h n h0 hn w => ?_⟩
  · have hall : (Tryz.prog.funcs.toList.all fun fn => !(fn.name == "runtime.NumGoroutine")) = true := by decide +kernel
    rw [List.all_eq_true] at hall
    have := hall fn (Array.mem_toList_iff.2 (Array.mem_of_getElem? h))
    simpa using this
  · have h' : ext9 g args = some v := h
    unfold ext9 at h'
    cases hs : extF g args.toArray with
    | none => rw [hs] at h'; cases h'
    | some s =>
      rw [hs] at h'
      obtain ⟨h1, h2⟩ := onlyPlain_some h'
      refine ⟨h2, fun w => ?_⟩
      have hrun := pureRun_run h1 w
      unfold extF at hs
      by_cases g105 : g = 105
      · subst g105
        obtain rfl : Extern.MathFloatBits.float32bits args.toArray = s := Option.some.inj hs
        exact ext_run Tryz.func105 (by kernel_rfl) rfl (by kernel_rfl) (by kernel_rfl) _ hrun
      by_cases g106 : g = 106
      · subst g106
        obtain rfl : Extern.MathFloatBits.float64bits args.toArray = s := Option.some.inj hs
        exact ext_run Tryz.func106 (by kernel_rfl) rfl (by kernel_rfl) (by kernel_rfl) _ hrun
      by_cases g158 : g = 158
      · subst g158
        obtain rfl : Extern.MathFloatBits.float32frombits args.toArray = s := Option.some.inj hs
        exact ext_run Tryz.func158 (by kernel_rfl) rfl (by kernel_rfl) (by kernel_rfl) _ hrun
      by_cases g207 : g = 207
      · subst g207
        obtain rfl : Extern.MathFloatBits.float32frombits args.toArray = s := Option.some.inj hs
        exact ext_run Tryz.func207 (by kernel_rfl) rfl (by kernel_rfl) (by kernel_rfl) _ hrun
      by_cases g159 : g = 159
      · subst g159
        obtain rfl : Extern.MathFloatBits.float64frombits args.toArray = s := Option.some.inj hs
        exact ext_run Tryz.func159 (by kernel_rfl) rfl (by kernel_rfl) (by kernel_rfl) _ hrun
      by_cases g213 : g = 213
      · subst g213
        obtain rfl : Extern.MathFloatBits.float64frombits args.toArray = s := Option.some.inj hs
        exact ext_run Tryz.func213 (by kernel_rfl) rfl (by kernel_rfl) (by kernel_rfl) _ hrun
      by_cases g194 : g = 194
      · subst g194
        obtain rfl : Extern.BytealgIndexByte.indexByte args.toArray = s := Option.some.inj hs
        exact ext_run Tryz.func194 (by kernel_rfl) rfl (by kernel_rfl) (by kernel_rfl) _ hrun
      by_cases g179 : g = 179
      · subst g179
        obtain rfl : Extern.BytealgCompare.compare args.toArray = s := Option.some.inj hs
        exact ext_run Tryz.func179 (by kernel_rfl) rfl (by kernel_rfl) (by kernel_rfl) _ hrun
      simp [nbF g105, nbF g106, nbF g158, nbF g207, nbF g159, nbF g213, nbF g194, nbF g179] at hs
  · have h' : Nat.beq g 191 = true := h
    obtain rfl := nbT h'
    exact ext_run (e := Extern.AbiNoEscape.same) Tryz.func191 (by kernel_rfl) rfl (by kernel_rfl) (by kernel_rfl) #[x] rfl
  · have h' : (bif Nat.beq g 192 then some 5 else none) = some e := h
    cases hg : Nat.beq g 192
    · rw [hg] at h'; cases h'
    · rw [hg] at h'
      obtain rfl := nbT hg
      obtain rfl := Option.some.inj h'
      exact mnz_run (ps := #[3]) Tryz.func192 (by kernel_rfl) rfl (by kernel_rfl) (by kernel_rfl) Tryz.underlying140 n h0 hn w
/-- What is asked of the world for the call of awake: the rows that it reads. -/
structure Rows9 (w : World) : Prop where
  pow : ∃ t fz, w.heap[6]? = some (.cells cPow.toArray t fz)
  info : ∃ t fz, w.heap[7]? = some (.cells cInfo.toArray t fz)
  opt : ∃ t fz, w.heap[8]? = some (.cells #[.bool true] t fz)
  f32 : ∃ (b o : Nat) (t : TypeId) (fz : Nat × Nat) (cc : Array Value) (t' : TypeId) (fz' : Nat × Nat), w.heap[10]? = some (.cells #[.slice (some ⟨b, o, none⟩) 11 11] t fz) ∧ w.heap[b]? = some (.cells cc t' fz') ∧ o + 11 ≤ cc.size ∧ ∀ (i : Nat) (x : Value), cF32[i]? = some x → cc[o + i]? = some x
theorem Rows9.below {w w' : World} (h : Rows9 w) (hb : Below w.heap.size w w') : Rows9 w' := by
  have st : ∀ (k : Nat) (o : Obj), w.heap[k]? = some o → w'.heap[k]? = some o := fun k o e => by rw [hb.block k (Array.getElem?_eq_some_iff.1 e).1]; exact e
  obtain ⟨⟨t1, f1, h1⟩, ⟨t2, f2, h2⟩, ⟨t3, f3, h3⟩, b, o, t4, f4, cc, t5, f5, h4, h5, h6, h7⟩ := h
  exact ⟨⟨t1, f1, st _ _ h1⟩, ⟨t2, f2, st _ _ h2⟩, ⟨t3, f3, st _ _ h3⟩, b, o, t4, f4, cc, t5, f5, st _ _ h4, st _ _ h5, h6, h7⟩
theorem lies_plain {μ : Mu} {w : World} {k : Known} {t : TypeId} {fz : Nat × Nat} (hμ : μ k.name = some ⟨k.name, 0, k.cells.length, 1⟩) (he : k.esz = 1) (hh : w.heap[k.name]? = some (.cells k.cells.toArray t fz)) (hp : k.cells.all (fun v => plain v && v.oneCell') = true) : Lies μ w k := by
  refine ⟨_, _, _, _, hμ, he.symm, hh, by simp, by simp, by rw [he]; decide, fun i x hx => ⟨x, by simpa using hx, ?_⟩⟩
  rw [List.all_eq_true] at hp
  have := hp x (List.mem_of_getElem? hx)
  rw [Bool.and_eq_true] at this
  exact ⟨.plain this.1, this.2⟩
theorem awake_ok (w : World) (h : Rows9 w) : Calls Tryz.prog 12 #[] w fun e w' => e = .returned (.bool true) ∧ Below w.heap.size w w' := by
  obtain ⟨⟨t1, f1, h1⟩, ⟨t2, f2, h2⟩, ⟨t3, f3, h3⟩, b, o, t4, f4, cc, t5, f5, h4, h5, h6, h7⟩ := h
  let μ : Mu := fun i => if i = 17 then some ⟨b, o, cc.size, 1⟩ else if i = 6 then some ⟨6, 0, 20, 1⟩ else if i = 7 then some ⟨7, 0, 3, 1⟩ else if i < 17 then some ⟨i, 0, 1, 1⟩ else none
  have m17 : μ 17 = some ⟨b, o, cc.size, 1⟩ := rfl
  refine closed_callK e9 kAll 18 μ (fun i hi => ⟨?_, knownH_out _ _ fun k hk => ?_⟩) (fun g hg => ?_) (args := []) rfl awake_run w (hr_of_lies fun k hk => ?_)
  · show (if i = 17 then _ else _) = none
    rw [if_neg (by omega), if_neg (by omega), if_neg (by omega), if_neg (by omega)]
  · simp only [kAll, List.mem_cons, List.mem_nil_iff, or_false] at hk
    rcases hk with rfl | rfl | rfl | rfl | rfl <;> (show _ ≠ i) <;> simp only <;> omega
  · have hg' : g < 17 := hg
    show ∃ L, (if g = 17 then _ else _) = some L ∧ _
    rw [if_neg (by omega)]
    by_cases g6 : g = 6
    · rw [if_pos g6]; exact ⟨_, rfl, g6.symm, rfl⟩
    · rw [if_neg g6]
      by_cases g7 : g = 7
      · rw [if_pos g7]; exact ⟨_, rfl, g7.symm, rfl⟩
      · rw [if_neg g7, if_pos hg']; exact ⟨_, rfl, rfl, rfl⟩
  · simp only [kAll, List.mem_cons, List.mem_nil_iff, or_false] at hk
    rcases hk with rfl | rfl | rfl | rfl | rfl
    · exact lies_plain rfl rfl h1 (by decide +kernel)
    · exact lies_plain rfl rfl h2 (by decide +kernel)
    · exact lies_plain rfl rfl h3 (by decide +kernel)
    · refine ⟨⟨10, 0, 1, 1⟩, _, _, _, rfl, rfl, h4, rfl, Nat.le_refl _, by decide, fun i x hx => ?_⟩
      match i, hx with
      | 0, hx =>
        obtain rfl := Option.some.inj hx
        refine ⟨_, rfl, ?_, rfl⟩
        exact VR.slice (L := ⟨b, o, cc.size, 1⟩) (o := 0) m17 (Nat.le_refl _) (.inr ⟨rfl, by simpa using h6⟩)
      | i + 1, hx => simp at hx
    · refine ⟨_, cc, _, _, m17, rfl, h5, rfl, ?_, by decide, fun i x hx => ⟨x, h7 i x hx, ?_⟩⟩
      · show o + cF32.length ≤ cc.size
        exact h6
      · have hp : (cF32.all fun v => plain v && v.oneCell') = true := by decide +kernel
        rw [List.all_eq_true] at hp
        have := hp x (List.mem_of_getElem? hx)
        rw [Bool.and_eq_true] at this
        exact ⟨.plain this.1, this.2⟩
#print axioms awake_ok
end Go.Proofs.YtgejpojdnmogcaaGreatDoorAi
