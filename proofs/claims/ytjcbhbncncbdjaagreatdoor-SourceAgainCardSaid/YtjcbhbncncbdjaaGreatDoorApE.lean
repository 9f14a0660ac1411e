/-
ApE
-/
import Derived.Test.YtjcbhbncncbdjaaGreatDoorApMb
import Derived.Test.YtjcbhbncncbdjaaGreatDoorProg
import Derived.KernelRfl
import Derived.Lib.AtoiAll
namespace Go.Proofs.YtjcbhbncncbdjaaGreatDoorAi
open Go Go.RowKit
set_option linter.unusedVariables false
/-- Where a byte is first, or -1. -/
def idxB (l : List UInt8) (c : UInt8) : Int := match l.findIdx? (· == c) with | some i => (i : Int) | none => -1
noncomputable def idxArgs : List Value → Option Value
  | [.string s, .int .u8 n] => some (.int .i64 (idxB s.data.toList (UInt8.ofNat n.toNat)))
  | _ => none
/-- strconv.Atoi, over what is known of the variable of its errors. -/
noncomputable def overAtoi (args : List Value) (H : T) (nx : Nat) : Option R :=
  match args, H.get 8 with
  | [.string s], some (.row [.iface 249 (.chan (some 0))] _ _ _) =>
    if s.size ≤ 281474976710656 then
      (match Lib.atoiAll s.data.toList with
       | .ok v => some (.tuple #[.int .i64 v, .nilIface], H, nx, [])
       | .range => some (.tuple #[.int .i64 (Lib.atoiSat s.data.toList), .iface 235 (.chan (some 0))], H, nx, [])
       | _ => none) else none
  | _, _ => none
noncomputable def over1 (g : FuncId) (args : List Value) (H : T) (nx : Nat) : Option R :=
  bif Nat.beq g 11 then (match args with | [] => some (.bool true, H, nx, []) | _ => none) else
  bif Nat.beq g 146 then overAtoi args H nx else none
noncomputable def EV : Env := ⟨Tryz.prog, 11, fun g args => bif Nat.beq g 154 then idxArgs args else none, fun g => Nat.beq g 159, fun g => bif Nat.beq g 160 then some 5 else none, over1⟩
/-- What is known of the variables. -/
def Gl (F : FZ) : Prop := F 8 = some (.row [.iface 249 (.chan (some 0))] 0 1 false)
theorem Gl.mono {F F' : FZ} (h : Gl F) (hf : FLe F F') : Gl F' := hf _ _ h

noncomputable def g_awake.f : Option Bool := some true
theorem g_awake.ok {F : FZ} {r : Bool} (h : g_awake.f = some r) : Cl EV 11 [] [] F (fun v S' F' => F = F' ∧ v = .bool r ∧ S' = []) := by
  obtain rfl := Option.some.inj h
  exact (Cl.over (E := EV) (g := 11) Tryz.func11 rfl (v := .bool true) (fun _ _ => rfl)).mono fun v S' F' q => ⟨q.1.symm, q.2.1, q.2.2⟩
noncomputable def g_idx.f (s : List UInt8) (c : UInt8) : Option Int := some (idxB s c)
theorem g_idx.ok {s : List UInt8} {c : UInt8} {F : FZ} {r : Int} (h : g_idx.f s c = some r) : Cl EV 154 [strV s, vB c] [] F (fun v S' F' => F = F' ∧ v = .int .i64 r ∧ S' = []) := by
  obtain rfl := Option.some.inj h
  refine (Cl.ext (E := EV) (g := 154) Tryz.func154 rfl rfl rfl rfl (v := .int .i64 (idxB s c)) ?_).mono fun v S' F' q => ⟨q.1.symm, q.2.1, q.2.2⟩
  show some (Value.int .i64 (idxB s (UInt8.ofNat (c.toNat : Int).toNat))) = _
  simp
noncomputable def g_atoi.f (s : List UInt8) : Option (Int × Bool) :=
  if s.length ≤ 281474976710656 then (match Lib.atoiAll s with | .ok v => some (v, false) | .range => some (Lib.atoiSat s, true) | _ => none) else none
theorem g_atoi.ok {s : List UInt8} {F : FZ} {r : Int × Bool} (h : g_atoi.f s = some r) (hG : Gl F) : Cl EV 146 [strV s] [] F (fun v S' F' => F = F' ∧ v = .tuple #[.int .i64 r.1, errV 235 r.2] ∧ S' = []) := by
  obtain ⟨h1, h⟩ := ite_some h
  intro H nx L hM
  have hget : H.get 8 = some (.row [.iface 249 (.chan (some 0))] 0 1 false) := (hM.frz 8 _ hG).1
  refine ⟨.tuple #[.int .i64 r.1, errV 235 r.2], [], F, H, nx, [], ⟨0, fun n _ => ?_⟩, hM, FLe.refl F, Nat.le_refl _, fun i hi => (by cases hi), rfl, rfl, rfl⟩
  rw [show EV.P.funcs[146]? = some Tryz.f146 from Tryz.func146]
  show overOr (overAtoi [strV s] H nx) (run EV n 146 [strV s] H nx) = _
  unfold overAtoi
  simp only [hget]
  rw [sizeL, if_pos h1]
  cases ha : Lib.atoiAll s with
  | ok v => rw [ha] at h; obtain rfl := Option.some.inj h; rfl
  | range => rw [ha] at h; obtain rfl := Option.some.inj h; rfl
  | _ => rw [ha] at h; cases h
set_option maxRecDepth 100000 in
theorem eq3 (d : Nat) (a c : Int) : pureRun EV.P (Op.equalIn (d + 1) 3 (.int .i64 a) (.int .i64 c)) = some (a == c) := by
  rw [Op.equalIn, pr_bind (a := .int .i64) (by kernel_rfl)]
  rfl
theorem u34 : pureRun EV.P (underlying 34) = some (.array 2 3) := by kernel_rfl
theorem s3 : pureRun EV.P (sizeOf 3) = some 1 := by kernel_rfl
theorem p0 (a b : Int) : pureRun EV.P (part 3 #[.int .i64 a, .int .i64 b] 0) = some (.int .i64 a) := by kernel_rfl
theorem p1 (a b : Int) : pureRun EV.P (part 3 #[.int .i64 a, .int .i64 b] 1) = some (.int .i64 b) := by kernel_rfl
set_option maxRecDepth 100000 in
theorem eq34 (d : Nat) (a b c e : Int) : pureRun EV.P (Op.equalIn (d + 2) 34 (.agg #[.int .i64 a, .int .i64 b]) (.agg #[.int .i64 c, .int .i64 e])) = some ((a == c) && (b == e)) := by
  rw [Op.equalIn, pr_bind u34]
  simp only []
  rw [pr_bind s3]
  simp only [Std.Legacy.Range.forIn_eq_forIn_range', Std.Legacy.Range.size, Nat.sub_zero, Nat.add_sub_cancel, Nat.div_one, List.range', List.forIn_cons, List.forIn_nil, Nat.zero_mul, Nat.zero_add, Nat.one_mul]
  rw [bind_assoc]
  refine (pr_bind (a := if (!(a == c)) = true then ForInStep.done (some false, ()) else ForInStep.yield (none, ())) ?_).trans ?_
  · rw [pr_bind (p0 a b), pr_bind (p0 c e), pr_bind (eq3 d a c)]
    split <;> rfl
  · cases h1 : (a == c)
    · rfl
    · refine (pr_bind (a := if (!(b == e)) = true then (some false, ()) else (none, ())) ?_).trans ?_
      · refine (pr_bind (a := if (!(b == e)) = true then ForInStep.done (some false, ()) else ForInStep.yield (none, ())) ?_).trans ?_
        · rw [pr_bind (p1 a b), pr_bind (p1 c e), pr_bind (eq3 d b e)]
          split <;> rfl
        · cases (b == e) <;> rfl
      · cases (b == e) <;> rfl
set_option maxRecDepth 100000 in
theorem ta34 {nx : Nat} {ty : TypeId} {ρ : Operand → Value} {bl : Option Blk} {x y : Operand} {u : TypeId} {a b c e : Int} (hx : ρ x = .agg #[.int .i64 a, .int .i64 b]) (hy : ρ y = .agg #[.int .i64 c, .int .i64 e]) : aopOf (.binOp .neq 34 x y u) EV.P nx ty ρ bl = some (.bool (!((a == c) && (b == e))), .none) := by
  show noEff (aBin EV.P .neq 34 x y (ρ x) (ρ y)) = _
  rw [hx, hy]
  show noEff (onlyPlain (pureRun EV.P (eqGuard .neq 34 x y (.agg #[.int .i64 a, .int .i64 b]) (.agg #[.int .i64 c, .int .i64 e]) >>= fun _ => binOp .neq 34 (.agg #[.int .i64 a, .int .i64 b]) (.agg #[.int .i64 c, .int .i64 e])))) = _
  rw [pr_bind (a := ()) (by kernel_rfl)]
  show noEff (onlyPlain (pureRun EV.P (Op.equalIn (9998 + 2) 34 (.agg #[.int .i64 a, .int .i64 b]) (.agg #[.int .i64 c, .int .i64 e]) >>= fun q => pure (.bool !q)))) = _
  rw [pr_bind (eq34 9998 a b c e)]
  rfl
end Go.Proofs.YtjcbhbncncbdjaaGreatDoorAi
