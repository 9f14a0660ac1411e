import Derived.Test.YtjcbhbncncbdjaaGreatDoorApE
/-
Functions of the program, told in Lean, and the proofs that their runs come to these answers (printed by ap.py, a program of this session).
-/
namespace Go.Proofs.YtjcbhbncncbdjaaGreatDoorAi
open Go Go.RowKit
set_option linter.unusedVariables false
set_option linter.unusedSimpArgs false
set_option maxRecDepth 100000
theorem t0_24 : zeroOf EV.P 24 = some [.int .i64 0] := by kernel_rfl
theorem t0_3 : zeroOf EV.P 3 = some [.int .i64 0] := by kernel_rfl
theorem t0_31 : zeroOf EV.P 31 = some [strV [], strV [], .slice none 0 0, .slice none 0 0, .int .i64 0] := by kernel_rfl
theorem t0_34 : zeroOf EV.P 34 = some [.int .i64 0, .int .i64 0] := by kernel_rfl
theorem t0_4 : zeroOf EV.P 4 = some [.bool false] := by kernel_rfl
theorem t0_5 : zeroOf EV.P 5 = some [.int .u8 0] := by kernel_rfl
theorem t0_86 : zeroOf EV.P 86 = some [strV [], .slice none 0 0, .slice none 0 0, .slice none 0 0, .slice none 0 0] := by kernel_rfl
theorem ta23_23 : ApT EV.P #[23, 23] 3 1 := app_t (t := 23) (t2 := 23) rfl rfl (by kernel_rfl) (u := (.slice 3)) (by kernel_rfl) rfl (by kernel_rfl) (by kernel_rfl) (by decide)
theorem ta27_27 : ApT EV.P #[27, 27] 34 2 := app_t (t := 27) (t2 := 27) rfl rfl (by kernel_rfl) (u := (.slice 34)) (by kernel_rfl) rfl (by kernel_rfl) (by kernel_rfl) (by decide)
theorem ta83_83 : ApT EV.P #[83, 83] 5 1 := app_t (t := 83) (t2 := 83) rfl rfl (by kernel_rfl) (u := (.slice 5)) (by kernel_rfl) rfl (by kernel_rfl) (by kernel_rfl) (by decide)
theorem ta84_84 : ApT EV.P #[84, 84] 4 1 := app_t (t := 84) (t2 := 84) rfl rfl (by kernel_rfl) (u := (.slice 4)) (by kernel_rfl) rfl (by kernel_rfl) (by kernel_rfl) (by decide)
theorem tb5 : isByteT EV.P 5 = true := by kernel_rfl
theorem te133 : elemS EV.P 133 = some 1 := by kernel_rfl
theorem te23 : elemS EV.P 23 = some 1 := by kernel_rfl
theorem te27 : elemS EV.P 27 = some 2 := by kernel_rfl
theorem te83 : elemS EV.P 83 = some 1 := by kernel_rfl
theorem te84 : elemS EV.P 84 = some 1 := by kernel_rfl
theorem tf31_0 : fieldAt EV.P 31 0 = some (0, 1, 9) := by kernel_rfl
theorem tf31_1 : fieldAt EV.P 31 1 = some (1, 1, 9) := by kernel_rfl
theorem tf31_2 : fieldAt EV.P 31 2 = some (2, 1, 23) := by kernel_rfl
theorem tf31_3 : fieldAt EV.P 31 3 = some (3, 1, 27) := by kernel_rfl
theorem tf31_4 : fieldAt EV.P 31 4 = some (4, 1, 3) := by kernel_rfl
theorem tf86_0 : fieldAt EV.P 86 0 = some (0, 1, 9) := by kernel_rfl
theorem tf86_1 : fieldAt EV.P 86 1 = some (1, 1, 83) := by kernel_rfl
theorem tf86_2 : fieldAt EV.P 86 2 = some (2, 1, 23) := by kernel_rfl
theorem tf86_3 : fieldAt EV.P 86 3 = some (3, 1, 84) := by kernel_rfl
theorem tf86_4 : fieldAt EV.P 86 4 = some (4, 1, 27) := by kernel_rfl
theorem tg23 : (EV.P.underlying 23).map aggD = some false := by kernel_rfl
theorem tg24 : (EV.P.underlying 24).map aggD = some false := by kernel_rfl
theorem tg27 : (EV.P.underlying 27).map aggD = some false := by kernel_rfl
theorem tg3 : (EV.P.underlying 3).map aggD = some false := by kernel_rfl
theorem tg31 : (EV.P.underlying 31).map aggD = some true := by kernel_rfl
theorem tg34 : (EV.P.underlying 34).map aggD = some true := by kernel_rfl
theorem tg4 : (EV.P.underlying 4).map aggD = some false := by kernel_rfl
theorem tg5 : (EV.P.underlying 5).map aggD = some false := by kernel_rfl
theorem tg83 : (EV.P.underlying 83).map aggD = some false := by kernel_rfl
theorem tg84 : (EV.P.underlying 84).map aggD = some false := by kernel_rfl
theorem tg9 : (EV.P.underlying 9).map aggD = some false := by kernel_rfl
theorem tn156neq : ∀ {nx : Nat} {ty : TypeId} {ρ : Operand → Value} {b : Option Blk} {x : Operand} {u : TypeId} {p : Bool} (hx : ρ x = errV 235 p) (hy : ρ (.const .nilIface) = .nilIface), aopOf (.binOp .neq 156 x (.const .nilIface) u) EV.P nx ty ρ b = some (.bool p, .none) := by
  intro nx ty ρ b x u p hx hy
  show noEff (aBin EV.P .neq 156 x (.const .nilIface) (ρ x) (ρ (.const .nilIface))) = _
  rw [hx, hy]
  cases p
  · show noEff (bGen EV.P .neq 156 x (.const .nilIface) .nilIface .nilIface) = _
    cases x <;> kernel_rfl
  · kernel_rfl
theorem tp31 : plOf EV.P 31 = some [(0, 1), (1, 1), (2, 1), (3, 1), (4, 1)] := by kernel_rfl
theorem tp86 : plOf EV.P 86 = some [(0, 1), (1, 1), (2, 1), (3, 1), (4, 1)] := by kernel_rfl
theorem tq4eql : ∀ {nx : Nat} {ty : TypeId} {ρ : Operand → Value} {b : Option Blk} {x y : Operand} {u : TypeId} {p q : Bool} (hx : ρ x = .bool p) (hy : ρ y = .bool q), aopOf (.binOp .eql 4 x y u) EV.P nx ty ρ b = some (.bool (p == q), .none) := by
  intro nx ty ρ b x y u p q hx hy
  show noEff (aBin EV.P .eql 4 x y (ρ x) (ρ y)) = _
  rw [hx, hy]
  cases p <;> cases q <;> kernel_rfl
theorem tu133 : EV.P.underlying 133 = some (.slice 24) := by kernel_rfl
theorem tu21 : EV.P.underlying 21 = some (.int .i32) := by kernel_rfl
theorem tu23 : EV.P.underlying 23 = some (.slice 3) := by kernel_rfl
theorem tu27 : EV.P.underlying 27 = some (.slice 34) := by kernel_rfl
theorem tu3 : EV.P.underlying 3 = some (.int .i64) := by kernel_rfl
theorem tu34 : EV.P.underlying 34 = some (.array 2 3) := by kernel_rfl
theorem tu5 : EV.P.underlying 5 = some (.int .u8) := by kernel_rfl
theorem tu83 : EV.P.underlying 83 = some (.slice 5) := by kernel_rfl
theorem tu84 : EV.P.underlying 84 = some (.slice 4) := by kernel_rfl
theorem tu9 : EV.P.underlying 9 = some .string := by kernel_rfl
theorem tz23 : szOf EV.P 23 = some 1 := by kernel_rfl
theorem tz24 : szOf EV.P 24 = some 1 := by kernel_rfl
theorem tz27 : szOf EV.P 27 = some 1 := by kernel_rfl
theorem tz3 : szOf EV.P 3 = some 1 := by kernel_rfl
theorem tz31 : szOf EV.P 31 = some 5 := by kernel_rfl
theorem tz34 : szOf EV.P 34 = some 2 := by kernel_rfl
theorem tz4 : szOf EV.P 4 = some 1 := by kernel_rfl
theorem tz5 : szOf EV.P 5 = some 1 := by kernel_rfl
theorem tz83 : szOf EV.P 83 = some 1 := by kernel_rfl
theorem tz84 : szOf EV.P 84 = some 1 := by kernel_rfl
theorem tz9 : szOf EV.P 9 = some 1 := by kernel_rfl
def el34 : El (Int × Int) := ⟨2, 34, fun _ x c => c = [.int .i64 x.1, .int .i64 x.2], fun h => by rw [h]; rfl, by decide, fun _ h => h⟩
/-! ### formulary/source.unless (50) -/
noncomputable def g_source_unless.f (p0_0 : Bool) (p1_0 : Int) : Option (Int) :=
  (if p0_0 then some 0 else some p1_0)
set_option maxHeartbeats 4000000 in
theorem g_source_unless.ok {p0_0 : Bool} {p1_0 : Int} {F : FZ} {r : Int} (h : g_source_unless.f p0_0 p1_0 = some r) :
    Cl EV 50 [.bool p0_0, .int .i64 p1_0] [] F (fun v S' F' => F = F' ∧ v = .int .i64 r ∧ S' = []) := by
  refine Cl.of Tryz.func50 rfl (fun _ _ => rfl) (by kernel_rfl) fun s L nx0 hS => ?_
  unfold g_source_unless.f at h
  refine WW.seq ?_
  refine WW.region ?_
  refine q_pu hS (wn rfl) rfl rfl rfl (v := .int .i64 0) (aop_assign (hS.lk rfl)) fun s hS => ?_
  refine KW.nil ?_
  refine WW.seq ?_
  refine WW.seq ?_
  refine WW.region ?_
  refine q_pu hS (wn rfl) rfl rfl rfl (v := .bool p0_0) (aop_move (hS.lk rfl)) fun s hS => ?_
  refine KW.nil ?_
  rcases bool_cases (p0_0) with hc1 | hc1
  · rw [ite_t hc1] at h
    replace hS := hS.know (t := 0) rfl (congrArg Value.bool hc1)
    replace hS := hS.know (t := 5) rfl (congrArg Value.bool hc1)
    refine WW.condK hS rfl rfl ?_
    refine WW.seq ?_
    refine WW.region ?_
    refine q_pu hS (wn rfl) rfl rfl rfl (v := .int .i64 0) (aop_assign (hS.lk rfl)) fun s hS => ?_
    refine KW.nil ?_
    refine WW.ret ?_
    have hres := (res_tmp hS (t := 4) (v := .int .i64 0) rfl (res_nil (E := EV) (s := s)))
    obtain rfl := Option.some.inj h
    exact fin hS (.inr rfl) hres (v := .int .i64 0) rfl ⟨rfl, rfl, rfl⟩
  · rw [ite_f hc1] at h
    replace hS := hS.know (t := 0) rfl (congrArg Value.bool hc1)
    replace hS := hS.know (t := 5) rfl (congrArg Value.bool hc1)
    refine WW.condF hS rfl rfl ?_
    refine WW.skip ?_
    refine WW.seq ?_
    refine WW.region ?_
    refine q_pu hS (wn rfl) rfl rfl rfl (v := .int .i64 p1_0) (aop_move (hS.lk rfl)) fun s hS => ?_
    refine q_pu hS (wn rfl) rfl rfl rfl (v := .int .i64 p1_0) (aop_assign (hS.lk rfl)) fun s hS => ?_
    refine KW.nil ?_
    refine WW.ret ?_
    have hres := (res_tmp hS (t := 4) (v := .int .i64 p1_0) rfl (res_nil (E := EV) (s := s)))
    obtain rfl := Option.some.inj h
    exact fin hS (.inr rfl) hres (v := .int .i64 p1_0) rfl ⟨rfl, rfl, rfl⟩
/-! ### formulary/source.isShown$1 (85) -/
noncomputable def g_source_isShown_1.f (p0_0 : Int) (p1_1 : UInt8) : Option (Bool) :=
  some ((decide (p0_0 < (IntKind.i32.wrap (p1_1.toNat : Int)))) || (decide (p0_0 > 126)))
set_option maxHeartbeats 4000000 in
theorem g_source_isShown_1.ok {ip1_1 : Nat} {p0_0 : Int} {p1_1 : UInt8} {F : FZ} {r : Bool} (h : g_source_isShown_1.f p0_0 p1_1 = some r) :
    Cl EV 85 [.int .i32 p0_0, .pointer (some ⟨ip1_1, 0, none⟩)] [[(ip1_1, .row [vB p1_1] 5 0 true)]] F (fun v S' F' => F = F' ∧ v = .bool r ∧ S' = [[(ip1_1, .row [vB p1_1] 5 0 true)]]) := by
  refine Cl.of Tryz.func85 rfl (fun _ _ => rfl) (by kernel_rfl) fun s L nx0 hS => ?_
  unfold g_source_isShown_1.f at h
  refine WW.seq ?_
  refine WW.region ?_
  refine q_pu hS (wn rfl) rfl rfl rfl (v := .bool false) (aop_assign (hS.lk rfl)) fun s hS => ?_
  refine KW.nil ?_
  refine WW.seq ?_
  refine WW.region ?_
  refine q_pu hS (wn rfl) rfl rfl rfl (v := .int .i32 p0_0) (aop_move (hS.lk rfl)) fun s hS => ?_
  refine q_ld hS (wn rfl) rfl rfl rfl (hS.at (k := 0) rfl) tg5 (v := vB p1_1) rfl fun s hS => ?_
  refine q_pu hS (wn rfl) rfl rfl (tgt_cv hS rfl rfl) (v := .int .i32 (IntKind.i32.wrap (p1_1.toNat : Int))) (aop_cvi (hS.lk rfl) tu5 tu21) fun s hS => ?_
  refine q_pu hS (wn rfl) rfl rfl rfl (v := .bool (decide (p0_0 < (IntKind.i32.wrap (p1_1.toNat : Int))))) (aop_int (hS.lk rfl) (hS.lk rfl) rfl) fun s hS => ?_
  refine q_pu hS (wn rfl) rfl rfl rfl (v := .bool (decide (p0_0 < (IntKind.i32.wrap (p1_1.toNat : Int))))) (aop_move (hS.lk rfl)) fun s hS => ?_
  refine q_cut 3 (fun s => Stt EV s [(11, .bool ((decide (p0_0 < (IntKind.i32.wrap (p1_1.toNat : Int)))) || (decide (p0_0 > 126)))), (3, .bool false)] [[(ip1_1, .row [vB p1_1] 5 0 true)]] F L F nx0) ?_ fun s hS => ?_
  ·
    rcases bool_cases ((decide (p0_0 < (IntKind.i32.wrap (p1_1.toNat : Int))))) with hcj | hcj
    ·
      replace hS := hS.know (t := 7) rfl (congrArg Value.bool hcj)
      replace hS := hS.know (t := 8) rfl (congrArg Value.bool hcj)
      refine q_no hS (wf hS rfl rfl rfl rfl) rfl fun s hS => ?_
      refine q_no hS (wf hS rfl rfl rfl rfl) rfl fun s hS => ?_
      refine q_pu hS (wn rfl) rfl rfl rfl (v := .bool true) (aop_pickT (hS.lk rfl) (hS.lk rfl)) fun s hS => ?_
      refine KW.nil ?_
      exact (hS.know (t := 11) (u' := .bool ((decide (p0_0 < (IntKind.i32.wrap (p1_1.toNat : Int)))) || (decide (p0_0 > 126)))) rfl (jn_or_t hcj)).sub (.c rfl (.c rfl .n))
    ·
      replace hS := hS.know (t := 7) rfl (congrArg Value.bool hcj)
      replace hS := hS.know (t := 8) rfl (congrArg Value.bool hcj)
      refine q_pu hS (wt hS rfl rfl rfl rfl) rfl rfl rfl (v := .int .i32 p0_0) (aop_move (hS.lk rfl)) fun s hS => ?_
      refine q_pu hS (wt hS rfl rfl rfl rfl) rfl rfl rfl (v := .bool (decide (p0_0 > 126))) (aop_int (hS.lk rfl) (hS.lk rfl) rfl) fun s hS => ?_
      refine q_pu hS (wn rfl) rfl rfl rfl (v := .bool (decide (p0_0 > 126))) (aop_pickF (hS.lk rfl) (hS.lk rfl)) fun s hS => ?_
      refine KW.nil ?_
      exact (hS.know (t := 11) (u' := .bool ((decide (p0_0 < (IntKind.i32.wrap (p1_1.toNat : Int)))) || (decide (p0_0 > 126)))) rfl (jn_or_f hcj)).sub (.c rfl (.c rfl .n))
  refine q_pu hS (wn rfl) rfl rfl rfl (v := .bool ((decide (p0_0 < (IntKind.i32.wrap (p1_1.toNat : Int)))) || (decide (p0_0 > 126)))) (aop_assign (hS.lk rfl)) fun s hS => ?_
  refine KW.nil ?_
  refine WW.ret ?_
  have hres := (res_tmp hS (t := 3) (v := .bool ((decide (p0_0 < (IntKind.i32.wrap (p1_1.toNat : Int)))) || (decide (p0_0 > 126)))) rfl (res_nil (E := EV) (s := s)))
  obtain rfl := Option.some.inj h
  exact fin hS (.inr rfl) hres (v := .bool ((decide (p0_0 < (IntKind.i32.wrap (p1_1.toNat : Int)))) || (decide (p0_0 > 126)))) rfl ⟨rfl, rfl, rfl⟩
/-! ### strings.indexFunc (127) -/
noncomputable def g_strings_indexFunc_1.b0 (p0_0 : List UInt8) (p1_1 : UInt8) (p2_0 : Bool) (x2 : Nat) : Option ((Nat) ⊕ ((Nat) ⊕ (Int))) :=
  (if (decide (x2 < p0_0.length)) then Option.bind (g_source_isShown_1.f ((dec p0_0 x2).1 : Int) p1_1) fun y7 => (if (y7 == p2_0) then some (.inr (.inr (x2 : Int))) else some (.inl (x2 + (dec p0_0 x2).2))) else some (.inr (.inl x2)))
noncomputable def g_strings_indexFunc_1.f (p0_0 : List UInt8) (p1_1 : UInt8) (p2_0 : Bool) : Option (Int) :=
  Option.bind (iter (g_strings_indexFunc_1.b0 p0_0 p1_1 p2_0) 0) fun o3 => onSum o3 fun y10 => some (-1)
set_option maxHeartbeats 4000000 in
theorem g_strings_indexFunc_1.ok {ip1_1 : Nat} {p0_0 : List UInt8} {p1_1 : UInt8} {p2_0 : Bool} {F : FZ} {r : Int} (h : g_strings_indexFunc_1.f p0_0 p1_1 p2_0 = some r) :
    Cl EV 127 [strV p0_0, .func (.func 85) #[] #[.pointer (some ⟨ip1_1, 0, none⟩)], .bool p2_0] [[(ip1_1, .row [vB p1_1] 5 0 true)]] F (fun v S' F' => F = F' ∧ v = .int .i64 r ∧ S' = [[(ip1_1, .row [vB p1_1] 5 0 true)]]) := by
  refine Cl.of Tryz.func127 rfl (fun _ _ => rfl) (by kernel_rfl) fun s L nx0 hS => ?_
  unfold g_strings_indexFunc_1.f at h
  refine WW.seq ?_
  refine WW.region ?_
  refine q_pu hS (wn rfl) rfl rfl rfl (v := .int .i64 0) (aop_assign (hS.lk rfl)) fun s hS => ?_
  refine KW.nil ?_
  refine WW.seq ?_
  refine WW.seq ?_
  refine WW.region ?_
  refine q_pu hS (wn rfl) rfl rfl rfl (v := strV p0_0) (aop_move (hS.lk rfl)) fun s hS => ?_
  refine q_nw hS (wn rfl) rfl rfl rfl (v := fun i => .pointer (some ⟨i, 0, none⟩)) (b := .iter ⟨p0_0.toArray⟩ 0) (aop_rng tu9 (hS.lk rfl)) fun s i1 hS => ?_
  refine KW.nil ?_
  refine WW.block ?_
  obtain ⟨o3, ho3, h⟩ := bind_some h
  refine WW.loop (LW.iter ho3 (fun (x2 : Nat) s => Stt EV s [(1, .func (.func 85) #[] #[.pointer (some ⟨ip1_1, 0, none⟩)]), (2, .bool p2_0), (6, .int .i64 0), (10, .pointer (some ⟨i1, 0, none⟩))] [[(i1, .iter ⟨p0_0.toArray⟩ x2)], [(ip1_1, .row [vB p1_1] 5 0 true)]] F L F nx0) (fun (o : (Nat) ⊕ (Int)) e s => match o with | .inl y4 => (e = .exit 0 ∧ Stt EV s [(1, .func (.func 85) #[] #[.pointer (some ⟨ip1_1, 0, none⟩)]), (2, .bool p2_0), (6, .int .i64 0), (10, .pointer (some ⟨i1, 0, none⟩))] [[(i1, .iter ⟨p0_0.toArray⟩ y4)], [(ip1_1, .row [vB p1_1] 5 0 true)]] F L F nx0) | .inr r => (e = .ret ∧ FinQ EV Tryz.f127 L F nx0 (fun v S' F' => F = F' ∧ v = .int .i64 r ∧ S' = [[(ip1_1, .row [vB p1_1] 5 0 true)]]) e s)) (hS.sub (.c rfl (.c rfl (.c rfl (.c rfl .n))))) ?_ ?_)
  · clear hS
    rintro x2 s hS o3' h5
    unfold g_strings_indexFunc_1.b0 at h5
    refine WW.seq ?_
    refine WW.region ?_
    rcases bool_cases ((decide (x2 < p0_0.length))) with hc6 | hc6
    · rw [ite_t hc6] at h5
      refine q_up hS (wn rfl) rfl rfl (tgt_nx hS rfl) (p := 0) rfl (aop_nx1 (hS.lk rfl) (of_decide_eq_true hc6)) fun s hS => ?_
      refine q_pu hS (wn rfl) rfl rfl rfl (v := .bool true) (aop_ext (hS.lk rfl) rfl) fun s hS => ?_
      refine KW.nil ?_
      refine WW.seq ?_
      refine WW.condK hS rfl rfl ?_
      refine WW.skip ?_
      refine WW.block ?_
      refine WW.seq ?_
      refine WW.region ?_
      refine q_pu hS (wn rfl) rfl rfl rfl (v := .int .i64 (x2 : Int)) (aop_ext (hS.lk rfl) rfl) fun s hS => ?_
      refine q_pu hS (wn rfl) rfl rfl rfl (v := .int .i32 ((dec p0_0 x2).1 : Int)) (aop_ext (hS.lk rfl) rfl) fun s hS => ?_
      refine q_pu hS (wn rfl) rfl rfl rfl (v := .int .i64 (x2 : Int)) (aop_assign (hS.lk rfl)) fun s hS => ?_
      refine q_pu hS (wn rfl) rfl rfl rfl (v := .int .i32 ((dec p0_0 x2).1 : Int)) (aop_assign (hS.lk rfl)) fun s hS => ?_
      refine KW.nil ?_
      refine WW.seq ?_
      refine WW.region ?_
      refine q_pu hS (wn rfl) rfl rfl rfl (v := .func (.func 85) #[] #[.pointer (some ⟨ip1_1, 0, none⟩)]) (aop_move (hS.lk rfl)) fun s hS => ?_
      refine q_pu hS (wn rfl) rfl rfl rfl (v := .int .i32 ((dec p0_0 x2).1 : Int)) (aop_move (hS.lk rfl)) fun s hS => ?_
      obtain ⟨y7, hy7, h5⟩ := bind_some h5
      replace hS := hS.pull 1
      refine q_cl hS (wn rfl) (vs := [.int .i32 ((dec p0_0 x2).1 : Int)]) (ws := [.int .i32 ((dec p0_0 x2).1 : Int), .pointer (some ⟨ip1_1, 0, none⟩)]) rfl rfl rfl rfl rfl 1 rfl (g_source_isShown_1.ok hy7) fun s v S' F' hp8 hF hS => ?_
      obtain ⟨rfl, rfl, rfl⟩ := hp8
      refine q_pu hS (wn rfl) rfl rfl rfl (v := .bool p2_0) (aop_move (hS.lk rfl)) fun s hS => ?_
      refine q_pu hS (wn rfl) rfl rfl rfl (v := .bool (y7 == p2_0)) (tq4eql (hS.lk rfl) (hS.lk rfl)) fun s hS => ?_
      refine KW.nil ?_
      rcases bool_cases ((y7 == p2_0)) with hc9 | hc9
      · rw [ite_t hc9] at h5
        replace hS := hS.know (t := 19) rfl (congrArg Value.bool hc9)
        refine WW.condK hS rfl rfl ?_
        refine WW.seq ?_
        refine WW.region ?_
        refine q_pu hS (wn rfl) rfl rfl rfl (v := .int .i64 (x2 : Int)) (aop_move (hS.lk rfl)) fun s hS => ?_
        refine q_pu hS (wn rfl) rfl rfl rfl (v := .int .i64 (x2 : Int)) (aop_assign (hS.lk rfl)) fun s hS => ?_
        refine KW.nil ?_
        refine WW.ret ?_
        have hres := (res_tmp hS (t := 6) (v := .int .i64 (x2 : Int)) rfl (res_nil (E := EV) (s := s)))
        replace hS := (hS.pull 1).drop
        obtain rfl := Option.some.inj h5
        exact ⟨_, rfl, rfl, fin hS (.inr rfl) hres (v := .int .i64 (x2 : Int)) rfl ⟨rfl, rfl, rfl⟩⟩
      · rw [ite_f hc9] at h5
        replace hS := hS.know (t := 19) rfl (congrArg Value.bool hc9)
        refine WW.condF hS rfl rfl ?_
        refine WW.skip ?_
        replace hS := hS.pull 1
        obtain rfl := Option.some.inj h5
        exact ⟨_, rfl, (hS.sub (.c rfl (.c rfl (.c rfl (.c rfl .n)))))⟩
    · rw [ite_f hc6] at h5
      refine q_rd hS (wn rfl) rfl rfl (tgt_nx hS rfl) (hS.at (k := 0) rfl) (aop_nx0 (hS.lk rfl) (of_decide_eq_false hc6)) fun s hS => ?_
      refine q_pu hS (wn rfl) rfl rfl rfl (v := .bool false) (aop_ext (hS.lk rfl) rfl) fun s hS => ?_
      refine KW.nil ?_
      refine WW.seq ?_
      refine WW.condF hS rfl rfl ?_
      refine WW.exit ?_
      refine thenQ_exit ?_
      obtain rfl := Option.some.inj h5
      exact ⟨_, rfl, rfl, (hS.sub (.c rfl (.c rfl (.c rfl (.c rfl .n)))))⟩
  · clear hS
    rcases o3 with y10 | y10
    · rintro e s ⟨rfl, hS⟩
      replace h := match_inl h
      refine blockQ_exit ?_
      refine WW.seq ?_
      refine WW.region ?_
      refine q_pu hS (wn rfl) rfl rfl rfl (v := .int .i64 (-1)) (aop_assign (hS.lk rfl)) fun s hS => ?_
      refine KW.nil ?_
      refine WW.ret ?_
      have hres := (res_tmp hS (t := 6) (v := .int .i64 (-1)) rfl (res_nil (E := EV) (s := s)))
      replace hS := hS.drop
      obtain rfl := Option.some.inj h
      exact fin hS (.inr rfl) hres (v := .int .i64 (-1)) rfl ⟨rfl, rfl, rfl⟩
    · rintro e s ⟨rfl, hfin⟩
      replace h := match_inr h
      obtain rfl := Option.some.inj h
      exact hfin
/-! ### strings.IndexFunc (84) -/
noncomputable def g_strings_IndexFunc_1.f (p0_0 : List UInt8) (p1_1 : UInt8) : Option (Int) :=
  Option.bind (g_strings_indexFunc_1.f p0_0 p1_1 true) fun y1 => some y1
set_option maxHeartbeats 4000000 in
theorem g_strings_IndexFunc_1.ok {ip1_1 : Nat} {p0_0 : List UInt8} {p1_1 : UInt8} {F : FZ} {r : Int} (h : g_strings_IndexFunc_1.f p0_0 p1_1 = some r) :
    Cl EV 84 [strV p0_0, .func (.func 85) #[] #[.pointer (some ⟨ip1_1, 0, none⟩)]] [[(ip1_1, .row [vB p1_1] 5 0 true)]] F (fun v S' F' => F = F' ∧ v = .int .i64 r ∧ S' = [[(ip1_1, .row [vB p1_1] 5 0 true)]]) := by
  refine Cl.of Tryz.func84 rfl (fun _ _ => rfl) (by kernel_rfl) fun s L nx0 hS => ?_
  unfold g_strings_IndexFunc_1.f at h
  refine WW.seq ?_
  refine WW.region ?_
  refine q_pu hS (wn rfl) rfl rfl rfl (v := .int .i64 0) (aop_assign (hS.lk rfl)) fun s hS => ?_
  refine KW.nil ?_
  refine WW.seq ?_
  refine WW.region ?_
  refine q_pu hS (wn rfl) rfl rfl rfl (v := strV p0_0) (aop_move (hS.lk rfl)) fun s hS => ?_
  refine q_pu hS (wn rfl) rfl rfl rfl (v := .func (.func 85) #[] #[.pointer (some ⟨ip1_1, 0, none⟩)]) (aop_move (hS.lk rfl)) fun s hS => ?_
  obtain ⟨y1, hy1, h⟩ := bind_some h
  refine q_cl hS (wn rfl) (vs := [strV p0_0, .func (.func 85) #[] #[.pointer (some ⟨ip1_1, 0, none⟩)], .bool true]) (ws := [strV p0_0, .func (.func 85) #[] #[.pointer (some ⟨ip1_1, 0, none⟩)], .bool true]) rfl rfl rfl rfl rfl 1 rfl (g_strings_indexFunc_1.ok hy1) fun s v S' F' hp2 hF hS => ?_
  obtain ⟨rfl, rfl, rfl⟩ := hp2
  refine q_pu hS (wn rfl) rfl rfl rfl (v := .int .i64 y1) (aop_assign (hS.lk rfl)) fun s hS => ?_
  refine KW.nil ?_
  refine WW.ret ?_
  have hres := (res_tmp hS (t := 4) (v := .int .i64 y1) rfl (res_nil (E := EV) (s := s)))
  obtain rfl := Option.some.inj h
  exact fin hS (.inr rfl) hres (v := .int .i64 y1) rfl ⟨rfl, rfl, rfl⟩
/-! ### formulary/source.isShown (52) -/
noncomputable def g_source_isShown.f (p0_0 : List UInt8) (p1_0 : UInt8) : Option (Bool) :=
  Option.bind (g_strings_IndexFunc_1.f p0_0 p1_0) fun y2 => some (decide (y2 < 0))
set_option maxHeartbeats 4000000 in
theorem g_source_isShown.ok {p0_0 : List UInt8} {p1_0 : UInt8} {F : FZ} {r : Bool} (h : g_source_isShown.f p0_0 p1_0 = some r) :
    Cl EV 52 [strV p0_0, vB p1_0] [] F (fun v S' F' => F = F' ∧ v = .bool r ∧ S' = []) := by
  refine Cl.of Tryz.func52 rfl (fun _ _ => rfl) (by kernel_rfl) fun s L nx0 hS => ?_
  unfold g_source_isShown.f at h
  refine WW.seq ?_
  refine WW.region ?_
  refine q_nw hS (wn rfl) rfl rfl rfl (v := fun i => .pointer (some ⟨i, 0, none⟩)) (b := .row [vB p1_0] 5 0 true) (aop_box (hS.lk rfl) rfl [vB p1_0] rfl) fun s i1 hS => ?_
  refine q_pu hS (wn rfl) rfl rfl rfl (v := .bool false) (aop_assign (hS.lk rfl)) fun s hS => ?_
  refine KW.nil ?_
  refine WW.seq ?_
  refine WW.region ?_
  refine q_pu hS (wn rfl) rfl rfl rfl (v := strV p0_0) (aop_move (hS.lk rfl)) fun s hS => ?_
  refine q_pu hS (wn rfl) rfl rfl rfl (v := .func (.func 85) #[] #[.pointer (some ⟨i1, 0, none⟩)]) (aop_mf (map_lk hS (vs := []) rfl) (map_lk hS (vs := [.pointer (some ⟨i1, 0, none⟩)]) rfl)) fun s hS => ?_
  obtain ⟨y2, hy2, h⟩ := bind_some h
  refine q_cl hS (wn rfl) (vs := [strV p0_0, .func (.func 85) #[] #[.pointer (some ⟨i1, 0, none⟩)]]) (ws := [strV p0_0, .func (.func 85) #[] #[.pointer (some ⟨i1, 0, none⟩)]]) rfl rfl rfl rfl rfl 1 rfl (g_strings_IndexFunc_1.ok hy2) fun s v S' F' hp3 hF hS => ?_
  obtain ⟨rfl, rfl, rfl⟩ := hp3
  refine q_pu hS (wn rfl) rfl rfl rfl (v := .bool (decide (y2 < 0))) (aop_int (hS.lk rfl) (hS.lk rfl) rfl) fun s hS => ?_
  refine q_pu hS (wn rfl) rfl rfl rfl (v := .bool (decide (y2 < 0))) (aop_assign (hS.lk rfl)) fun s hS => ?_
  refine KW.nil ?_
  refine WW.ret ?_
  have hres := (res_tmp hS (t := 4) (v := .bool (decide (y2 < 0))) rfl (res_nil (E := EV) (s := s)))
  replace hS := hS.drop
  obtain rfl := Option.some.inj h
  exact fin hS (.inr rfl) hres (v := .bool (decide (y2 < 0))) rfl ⟨rfl, rfl, rfl⟩
/-! ### formulary/source.first (49) -/
noncomputable def g_source_first.b0 (p0_0 : List Int) (x1 : Int) : Option ((Int) ⊕ ((Int) ⊕ (Int))) :=
  (if (decide (x1 < (p0_0.length : Int))) then (if 0 ≤ x1 ∧ x1 < (p0_0.length : Int) then (if ((gt p0_0 x1) != 0) then some (.inr (.inr (gt p0_0 x1))) else some (.inl (w64 (x1 + 1)))) else none) else some (.inr (.inl x1)))
noncomputable def g_source_first.f (p0_0 : List Int) : Option (Int) :=
  Option.bind (iter (g_source_first.b0 p0_0) 0) fun o2 => onSum o2 fun y16 => some 0
set_option maxHeartbeats 4000000 in
theorem g_source_first.ok {ap0_2 : Option Addr} {zp0_3 : Nat} {p0_0 : List Int} {F : FZ} {r : Int} (h : g_source_first.f p0_0 = some r) (hp0_4 : Frz (elI .i64 24) F ap0_2 zp0_3 p0_0) :
    Cl EV 49 [.slice ap0_2 p0_0.length zp0_3] [] F (fun v S' F' => F = F' ∧ v = .int .i64 r ∧ S' = []) := by
  refine Cl.of Tryz.func49 rfl (fun _ _ => rfl) (by kernel_rfl) fun s L nx0 hS => ?_
  unfold g_source_first.f at h
  refine WW.seq ?_
  refine WW.region ?_
  refine q_pu hS (wn rfl) rfl rfl rfl (v := .int .i64 0) (aop_assign (hS.lk rfl)) fun s hS => ?_
  refine KW.nil ?_
  refine WW.seq ?_
  refine WW.seq ?_
  refine WW.region ?_
  refine q_pu hS (wn rfl) rfl rfl rfl (v := .slice ap0_2 p0_0.length zp0_3) (aop_move (hS.lk rfl)) fun s hS => ?_
  refine q_pu hS (wn rfl) rfl rfl rfl (v := .int .i64 (p0_0.length : Int)) (aop_lenSl rfl rfl tu133 (hS.lk rfl)) fun s hS => ?_
  refine q_pu hS (wn rfl) rfl rfl rfl (v := .int .i64 0) (aop_move (hS.lk rfl)) fun s hS => ?_
  refine KW.nil ?_
  refine WW.block ?_
  obtain ⟨o2, ho2, h⟩ := bind_some h
  refine WW.loop (LW.iter ho2 (fun (x1 : Int) s => Stt EV s [(2, .int .i64 0), (5, .slice ap0_2 p0_0.length zp0_3), (6, .int .i64 (p0_0.length : Int)), (7, .int .i64 x1)] [] F L F nx0) (fun (o : (Int) ⊕ (Int)) e s => match o with | .inl y3 => (e = .exit 0 ∧ Stt EV s [(2, .int .i64 0), (5, .slice ap0_2 p0_0.length zp0_3), (6, .int .i64 (p0_0.length : Int)), (7, .int .i64 y3)] [] F L F nx0) | .inr r => (e = .ret ∧ FinQ EV Tryz.f49 L F nx0 (fun v S' F' => F = F' ∧ v = .int .i64 r ∧ S' = []) e s)) (hS.sub (.c rfl (.c rfl (.c rfl (.c rfl .n))))) ?_ ?_)
  · clear hS
    rintro x1 s hS o2' h4
    unfold g_source_first.b0 at h4
    refine WW.seq ?_
    refine WW.region ?_
    refine q_pu hS (wn rfl) rfl rfl rfl (v := .bool (decide (x1 < (p0_0.length : Int)))) (aop_int (hS.lk rfl) (hS.lk rfl) rfl) fun s hS => ?_
    refine KW.nil ?_
    refine WW.seq ?_
    rcases bool_cases ((decide (x1 < (p0_0.length : Int)))) with hc5 | hc5
    · rw [ite_t hc5] at h4
      replace hS := hS.know (t := 8) rfl (congrArg Value.bool hc5)
      refine WW.condK hS rfl rfl ?_
      refine WW.skip ?_
      refine WW.seq ?_
      refine WW.block ?_
      refine WW.seq ?_
      refine WW.region ?_
      obtain ⟨hk6, h4⟩ := ite_some h4
      obtain ⟨i12, of13, rfl⟩ := Frz.addr hp0_4 (by omega)
      obtain ⟨_, _, _, _, c7, hF14, hR8, hN9, hN10, hT11⟩ := Frz.at hp0_4 hk6 (m := 1) rfl
      obtain rfl := hR8
      refine q_pu hS (wn rfl) rfl rfl rfl (v := .pointer (some ⟨i12, of13 + (x1).toNat * 1, none⟩)) (aop_ia (hS.lk rfl) (hS.lk rfl) te133 hk6) fun s hS => ?_
      refine q_ld hS (wn rfl) rfl rfl rfl (hS.fat hF14) tg24 (v := .int .i64 (gt p0_0 x1)) hN9 fun s hS => ?_
      refine q_pu hS (wn rfl) rfl rfl rfl (v := .int .i64 (gt p0_0 x1)) (aop_assign (hS.lk rfl)) fun s hS => ?_
      refine KW.nil ?_
      refine WW.seq ?_
      refine WW.region ?_
      refine q_pu hS (wn rfl) rfl rfl rfl (v := .int .i64 (gt p0_0 x1)) (aop_move (hS.lk rfl)) fun s hS => ?_
      refine q_pu hS (wn rfl) rfl rfl rfl (v := .bool ((gt p0_0 x1) != 0)) (aop_int (hS.lk rfl) (hS.lk rfl) rfl) fun s hS => ?_
      refine KW.nil ?_
      rcases bool_cases (((gt p0_0 x1) != 0)) with hc15 | hc15
      · rw [ite_t hc15] at h4
        replace hS := hS.know (t := 12) rfl (congrArg Value.bool hc15)
        refine WW.condK hS rfl rfl ?_
        refine WW.seq ?_
        refine WW.region ?_
        refine q_pu hS (wn rfl) rfl rfl rfl (v := .int .i64 (gt p0_0 x1)) (aop_move (hS.lk rfl)) fun s hS => ?_
        refine q_pu hS (wn rfl) rfl rfl rfl (v := .int .i64 (gt p0_0 x1)) (aop_assign (hS.lk rfl)) fun s hS => ?_
        refine KW.nil ?_
        refine WW.ret ?_
        have hres := (res_tmp hS (t := 2) (v := .int .i64 (gt p0_0 x1)) rfl (res_nil (E := EV) (s := s)))
        obtain rfl := Option.some.inj h4
        exact ⟨_, rfl, rfl, fin hS (.inr rfl) hres (v := .int .i64 (gt p0_0 x1)) rfl ⟨rfl, rfl, rfl⟩⟩
      · rw [ite_f hc15] at h4
        replace hS := hS.know (t := 12) rfl (congrArg Value.bool hc15)
        refine WW.condF hS rfl rfl ?_
        refine WW.skip ?_
        refine WW.region ?_
        refine q_pu hS (wn rfl) rfl rfl rfl (v := .int .i64 (w64 (x1 + 1))) (aop_int (hS.lk rfl) (hS.lk rfl) rfl) fun s hS => ?_
        refine q_pu hS (wn rfl) rfl rfl rfl (v := .int .i64 (w64 (x1 + 1))) (aop_move (hS.lk rfl)) fun s hS => ?_
        refine KW.nil ?_
        obtain rfl := Option.some.inj h4
        exact ⟨_, rfl, (hS.sub (.c rfl (.c rfl (.c rfl (.c rfl .n)))))⟩
    · rw [ite_f hc5] at h4
      replace hS := hS.know (t := 8) rfl (congrArg Value.bool hc5)
      refine WW.condF hS rfl rfl ?_
      refine WW.exit ?_
      refine thenQ_exit ?_
      obtain rfl := Option.some.inj h4
      exact ⟨_, rfl, rfl, (hS.sub (.c rfl (.c rfl (.c rfl (.c rfl .n)))))⟩
  · clear hS
    rcases o2 with y16 | y16
    · rintro e s ⟨rfl, hS⟩
      replace h := match_inl h
      refine blockQ_exit ?_
      refine WW.seq ?_
      refine WW.region ?_
      refine q_pu hS (wn rfl) rfl rfl rfl (v := .int .i64 0) (aop_assign (hS.lk rfl)) fun s hS => ?_
      refine KW.nil ?_
      refine WW.ret ?_
      have hres := (res_tmp hS (t := 2) (v := .int .i64 0) rfl (res_nil (E := EV) (s := s)))
      obtain rfl := Option.some.inj h
      exact fin hS (.inr rfl) hres (v := .int .i64 0) rfl ⟨rfl, rfl, rfl⟩
    · rintro e s ⟨rfl, hfin⟩
      replace h := match_inr h
      obtain rfl := Option.some.inj h
      exact hfin
/-! ### formulary/source.textErr (77) -/
noncomputable def g_source_textErr.f (p0_0 : List UInt8) : Option (Int) :=
  Option.bind (g_source_unless.f (decide ((p0_0.length : Int) ≤ 1320)) 8) fun y1 => Option.bind (g_source_isShown.f p0_0 32) fun y3 => Option.bind (g_source_unless.f y3 3) fun y5 => Option.bind (g_source_first.f ([y1, y5] : List Int)) fun y12 => some y12
set_option maxHeartbeats 4000000 in
theorem g_source_textErr.ok {p0_0 : List UInt8} {F : FZ} {r : Int} (h : g_source_textErr.f p0_0 = some r) :
    Cl EV 77 [strV p0_0] [] F (fun v S' F' => FLe F F' ∧ v = .int .i64 r ∧ S' = []) := by
  refine Cl.of Tryz.func77 rfl (fun _ _ => rfl) (by kernel_rfl) fun s L nx0 hS => ?_
  unfold g_source_textErr.f at h
  refine WW.seq ?_
  refine WW.region ?_
  refine q_pu hS (wn rfl) rfl rfl rfl (v := .int .i64 0) (aop_assign (hS.lk rfl)) fun s hS => ?_
  refine KW.nil ?_
  refine WW.seq ?_
  refine WW.region ?_
  refine q_pu hS (wn rfl) rfl rfl rfl (v := strV p0_0) (aop_move (hS.lk rfl)) fun s hS => ?_
  refine q_pu hS (wn rfl) rfl rfl rfl (v := .int .i64 (p0_0.length : Int)) (aop_lenS rfl rfl tu9 (hS.lk rfl)) fun s hS => ?_
  refine q_pu hS (wn rfl) rfl rfl rfl (v := .bool (decide ((p0_0.length : Int) ≤ 1320))) (aop_int (hS.lk rfl) (hS.lk rfl) rfl) fun s hS => ?_
  obtain ⟨y1, hy1, h⟩ := bind_some h
  refine q_cl hS (wn rfl) (vs := [.bool (decide ((p0_0.length : Int) ≤ 1320)), .int .i64 8]) (ws := [.bool (decide ((p0_0.length : Int) ≤ 1320)), .int .i64 8]) rfl rfl rfl rfl rfl 0 rfl (g_source_unless.ok hy1) fun s v S' F' hp2 hF hS => ?_
  obtain ⟨rfl, rfl, rfl⟩ := hp2
  refine q_pu hS (wn rfl) rfl rfl rfl (v := strV p0_0) (aop_move (hS.lk rfl)) fun s hS => ?_
  obtain ⟨y3, hy3, h⟩ := bind_some h
  refine q_cl hS (wn rfl) (vs := [strV p0_0, vB 32]) (ws := [strV p0_0, vB 32]) rfl rfl rfl rfl rfl 0 rfl (g_source_isShown.ok hy3) fun s v S' F' hp4 hF hS => ?_
  obtain ⟨rfl, rfl, rfl⟩ := hp4
  obtain ⟨y5, hy5, h⟩ := bind_some h
  refine q_cl hS (wn rfl) (vs := [.bool y3, .int .i64 3]) (ws := [.bool y3, .int .i64 3]) rfl rfl rfl rfl rfl 0 rfl (g_source_unless.ok hy5) fun s v S' F' hp6 hF hS => ?_
  obtain ⟨rfl, rfl, rfl⟩ := hp6
  refine q_nw hS (wn rfl) rfl rfl rfl (v := fun i => .slice (some ⟨i, 0, none⟩) 2 1) (b := .row [.int .i64 y1, .int .i64 y5] 24 1 true) (aop_bsl tu133 tz24 t0_24 rfl [(0, .int .i64 y1), (1, .int .i64 y5)] (parts_eq hS rfl) rfl) fun s i7 hS => ?_
  have hC8 : Cells (elI .i64 24) F ([y1, y5] : List Int) [.int .i64 y1, .int .i64 y5] := ⟨[.int .i64 y1], [.int .i64 y5], rfl, rfl, ⟨[.int .i64 y5], [], rfl, rfl, rfl⟩⟩
  obtain ⟨F9, hF10, hS, hz11⟩ := hS.frzO (Own.blk0 hC8)
  obtain ⟨y12, hy12, h⟩ := bind_some h
  refine q_cl hS (wn rfl) (vs := [.slice (some ⟨i7, 0, none⟩) ([y1, y5] : List Int).length 1]) (ws := [.slice (some ⟨i7, 0, none⟩) ([y1, y5] : List Int).length 1]) rfl rfl rfl rfl rfl 0 rfl (g_source_first.ok hy12 hz11) fun s v S' F' hp13 hF hS => ?_
  obtain ⟨rfl, rfl, rfl⟩ := hp13
  refine q_pu hS (wn rfl) rfl rfl rfl (v := .int .i64 y12) (aop_assign (hS.lk rfl)) fun s hS => ?_
  refine KW.nil ?_
  refine WW.ret ?_
  have hres := (res_tmp hS (t := 2) (v := .int .i64 y12) rfl (res_nil (E := EV) (s := s)))
  obtain rfl := Option.some.inj h
  exact fin hS (.inr rfl) hres (v := .int .i64 y12) rfl ⟨(hF10), rfl, rfl⟩
/-! ### formulary/source.isQuote (102) -/
noncomputable def g_source_isQuote.f (p0_0 : UInt8) : Option (Bool) :=
  some (((p0_0.toNat : Int) == ((39 : UInt8).toNat : Int)) || ((p0_0.toNat : Int) == ((34 : UInt8).toNat : Int)))
set_option maxHeartbeats 4000000 in
theorem g_source_isQuote.ok {p0_0 : UInt8} {F : FZ} {r : Bool} (h : g_source_isQuote.f p0_0 = some r) :
    Cl EV 102 [vB p0_0] [] F (fun v S' F' => F = F' ∧ v = .bool r ∧ S' = []) := by
  refine Cl.of Tryz.func102 rfl (fun _ _ => rfl) (by kernel_rfl) fun s L nx0 hS => ?_
  unfold g_source_isQuote.f at h
  refine WW.seq ?_
  refine WW.region ?_
  refine q_pu hS (wn rfl) rfl rfl rfl (v := .bool false) (aop_assign (hS.lk rfl)) fun s hS => ?_
  refine KW.nil ?_
  refine WW.seq ?_
  refine WW.region ?_
  refine q_pu hS (wn rfl) rfl rfl rfl (v := vB p0_0) (aop_move (hS.lk rfl)) fun s hS => ?_
  refine q_pu hS (wn rfl) rfl rfl rfl (v := .bool ((p0_0.toNat : Int) == ((39 : UInt8).toNat : Int))) (aop_int (hS.lk rfl) (hS.lk rfl) rfl) fun s hS => ?_
  refine q_pu hS (wn rfl) rfl rfl rfl (v := .bool ((p0_0.toNat : Int) == ((39 : UInt8).toNat : Int))) (aop_move (hS.lk rfl)) fun s hS => ?_
  refine q_cut 3 (fun s => Stt EV s [(8, .bool (((p0_0.toNat : Int) == ((39 : UInt8).toNat : Int)) || ((p0_0.toNat : Int) == ((34 : UInt8).toNat : Int)))), (2, .bool false)] [] F L F nx0) ?_ fun s hS => ?_
  ·
    rcases bool_cases (((p0_0.toNat : Int) == ((39 : UInt8).toNat : Int))) with hcj | hcj
    ·
      replace hS := hS.know (t := 4) rfl (congrArg Value.bool hcj)
      replace hS := hS.know (t := 5) rfl (congrArg Value.bool hcj)
      refine q_no hS (wf hS rfl rfl rfl rfl) rfl fun s hS => ?_
      refine q_no hS (wf hS rfl rfl rfl rfl) rfl fun s hS => ?_
      refine q_pu hS (wn rfl) rfl rfl rfl (v := .bool true) (aop_pickT (hS.lk rfl) (hS.lk rfl)) fun s hS => ?_
      refine KW.nil ?_
      exact (hS.know (t := 8) (u' := .bool (((p0_0.toNat : Int) == ((39 : UInt8).toNat : Int)) || ((p0_0.toNat : Int) == ((34 : UInt8).toNat : Int)))) rfl (jn_or_t hcj)).sub (.c rfl (.c rfl .n))
    ·
      replace hS := hS.know (t := 4) rfl (congrArg Value.bool hcj)
      replace hS := hS.know (t := 5) rfl (congrArg Value.bool hcj)
      refine q_pu hS (wt hS rfl rfl rfl rfl) rfl rfl rfl (v := vB p0_0) (aop_move (hS.lk rfl)) fun s hS => ?_
      refine q_pu hS (wt hS rfl rfl rfl rfl) rfl rfl rfl (v := .bool ((p0_0.toNat : Int) == ((34 : UInt8).toNat : Int))) (aop_int (hS.lk rfl) (hS.lk rfl) rfl) fun s hS => ?_
      refine q_pu hS (wn rfl) rfl rfl rfl (v := .bool ((p0_0.toNat : Int) == ((34 : UInt8).toNat : Int))) (aop_pickF (hS.lk rfl) (hS.lk rfl)) fun s hS => ?_
      refine KW.nil ?_
      exact (hS.know (t := 8) (u' := .bool (((p0_0.toNat : Int) == ((39 : UInt8).toNat : Int)) || ((p0_0.toNat : Int) == ((34 : UInt8).toNat : Int)))) rfl (jn_or_f hcj)).sub (.c rfl (.c rfl .n))
  refine q_pu hS (wn rfl) rfl rfl rfl (v := .bool (((p0_0.toNat : Int) == ((39 : UInt8).toNat : Int)) || ((p0_0.toNat : Int) == ((34 : UInt8).toNat : Int)))) (aop_assign (hS.lk rfl)) fun s hS => ?_
  refine KW.nil ?_
  refine WW.ret ?_
  have hres := (res_tmp hS (t := 2) (v := .bool (((p0_0.toNat : Int) == ((39 : UInt8).toNat : Int)) || ((p0_0.toNat : Int) == ((34 : UInt8).toNat : Int)))) rfl (res_nil (E := EV) (s := s)))
  obtain rfl := Option.some.inj h
  exact fin hS (.inr rfl) hres (v := .bool (((p0_0.toNat : Int) == ((39 : UInt8).toNat : Int)) || ((p0_0.toNat : Int) == ((34 : UInt8).toNat : Int)))) rfl ⟨rfl, rfl, rfl⟩
/-! ### internal/stringslite.IndexByte (126) -/
noncomputable def g_internal_stringslite_IndexByte.f (p0_0 : List UInt8) (p1_0 : UInt8) : Option (Int) :=
  Option.bind (g_idx.f p0_0 p1_0) fun y1 => some y1
set_option maxHeartbeats 4000000 in
theorem g_internal_stringslite_IndexByte.ok {p0_0 : List UInt8} {p1_0 : UInt8} {F : FZ} {r : Int} (h : g_internal_stringslite_IndexByte.f p0_0 p1_0 = some r) :
    Cl EV 126 [strV p0_0, vB p1_0] [] F (fun v S' F' => F = F' ∧ v = .int .i64 r ∧ S' = []) := by
  refine Cl.of Tryz.func126 rfl (fun _ _ => rfl) (by kernel_rfl) fun s L nx0 hS => ?_
  unfold g_internal_stringslite_IndexByte.f at h
  refine WW.seq ?_
  refine WW.region ?_
  refine q_pu hS (wn rfl) rfl rfl rfl (v := .int .i64 0) (aop_assign (hS.lk rfl)) fun s hS => ?_
  refine KW.nil ?_
  refine WW.seq ?_
  refine WW.region ?_
  refine q_pu hS (wn rfl) rfl rfl rfl (v := strV p0_0) (aop_move (hS.lk rfl)) fun s hS => ?_
  refine q_pu hS (wn rfl) rfl rfl rfl (v := vB p1_0) (aop_move (hS.lk rfl)) fun s hS => ?_
  obtain ⟨y1, hy1, h⟩ := bind_some h
  refine q_cl hS (wn rfl) (vs := [strV p0_0, vB p1_0]) (ws := [strV p0_0, vB p1_0]) rfl rfl rfl rfl rfl 0 rfl (g_idx.ok hy1) fun s v S' F' hp2 hF hS => ?_
  obtain ⟨rfl, rfl, rfl⟩ := hp2
  refine q_pu hS (wn rfl) rfl rfl rfl (v := .int .i64 y1) (aop_assign (hS.lk rfl)) fun s hS => ?_
  refine KW.nil ?_
  refine WW.ret ?_
  have hres := (res_tmp hS (t := 4) (v := .int .i64 y1) rfl (res_nil (E := EV) (s := s)))
  obtain rfl := Option.some.inj h
  exact fin hS (.inr rfl) hres (v := .int .i64 y1) rfl ⟨rfl, rfl, rfl⟩
/-! ### strings.IndexByte (83) -/
noncomputable def g_strings_IndexByte.f (p0_0 : List UInt8) (p1_0 : UInt8) : Option (Int) :=
  Option.bind (g_internal_stringslite_IndexByte.f p0_0 p1_0) fun y1 => some y1
set_option maxHeartbeats 4000000 in
theorem g_strings_IndexByte.ok {p0_0 : List UInt8} {p1_0 : UInt8} {F : FZ} {r : Int} (h : g_strings_IndexByte.f p0_0 p1_0 = some r) :
    Cl EV 83 [strV p0_0, vB p1_0] [] F (fun v S' F' => F = F' ∧ v = .int .i64 r ∧ S' = []) := by
  refine Cl.of Tryz.func83 rfl (fun _ _ => rfl) (by kernel_rfl) fun s L nx0 hS => ?_
  unfold g_strings_IndexByte.f at h
  refine WW.seq ?_
  refine WW.region ?_
  refine q_pu hS (wn rfl) rfl rfl rfl (v := .int .i64 0) (aop_assign (hS.lk rfl)) fun s hS => ?_
  refine KW.nil ?_
  refine WW.seq ?_
  refine WW.region ?_
  refine q_pu hS (wn rfl) rfl rfl rfl (v := strV p0_0) (aop_move (hS.lk rfl)) fun s hS => ?_
  refine q_pu hS (wn rfl) rfl rfl rfl (v := vB p1_0) (aop_move (hS.lk rfl)) fun s hS => ?_
  obtain ⟨y1, hy1, h⟩ := bind_some h
  refine q_cl hS (wn rfl) (vs := [strV p0_0, vB p1_0]) (ws := [strV p0_0, vB p1_0]) rfl rfl rfl rfl rfl 0 rfl (g_internal_stringslite_IndexByte.ok hy1) fun s v S' F' hp2 hF hS => ?_
  obtain ⟨rfl, rfl, rfl⟩ := hp2
  refine q_pu hS (wn rfl) rfl rfl rfl (v := .int .i64 y1) (aop_assign (hS.lk rfl)) fun s hS => ?_
  refine KW.nil ?_
  refine WW.ret ?_
  have hres := (res_tmp hS (t := 4) (v := .int .i64 y1) rfl (res_nil (E := EV) (s := s)))
  obtain rfl := Option.some.inj h
  exact fin hS (.inr rfl) hres (v := .int .i64 y1) rfl ⟨rfl, rfl, rfl⟩
/-! ### (*formulary/source.squeezer).put (118) -/
noncomputable def g_source_squeezer_put.f (p0_2 : List UInt8) (p0_7 : List Int) (p0_12 : List Bool) (p1_0 : UInt8) (p2_0 : Int) (p3_0 : Bool) : Option (List UInt8 × List Int × List Bool) :=
  (if p0_2.length + ([p1_0] : List UInt8).length < 1000000000 then (if p0_7.length + ([p2_0] : List Int).length < 1000000000 then (if p0_12.length + ([p3_0] : List Bool).length < 1000000000 then some ((p0_2 ++ ([p1_0] : List UInt8)), (p0_7 ++ ([p2_0] : List Int)), (p0_12 ++ ([p3_0] : List Bool))) else none) else none) else none)
set_option maxHeartbeats 4000000 in
theorem g_source_squeezer_put.ok {ip0_1 : Nat} {ap0_4 : Option Addr} {zp0_5 : Nat} {Bp0_7 : Seg} {ap0_9 : Option Addr} {zp0_10 : Nat} {Bp0_12 : Seg} {ap0_14 : Option Addr} {zp0_15 : Nat} {Bp0_17 : Seg} {ap0_19 : Option Addr} {zp0_20 : Nat} {Bp0_22 : Seg} {p0_1 : List UInt8} {p0_2 : List UInt8} {p0_7 : List Int} {p0_12 : List Bool} {p0_17 : List (Int × Int)} {p1_0 : UInt8} {p2_0 : Int} {p3_0 : Bool} {F : FZ} {r : List UInt8 × List Int × List Bool} (h : g_source_squeezer_put.f p0_2 p0_7 p0_12 p1_0 p2_0 p3_0 = some r) (hp0_6 : Own (elB 5) F ap0_4 zp0_5 p0_2 Bp0_7) (hp0_11 : Own (elI .i64 3) F ap0_9 zp0_10 p0_7 Bp0_12) (hp0_16 : Own (elBool 4) F ap0_14 zp0_15 p0_12 Bp0_17) :
    Cl EV 118 [.pointer (some ⟨ip0_1, 0, none⟩), vB p1_0, .int .i64 p2_0, .bool p3_0] [[(ip0_1, .row [strV p0_1, .slice ap0_4 p0_2.length zp0_5, .slice ap0_9 p0_7.length zp0_10, .slice ap0_14 p0_12.length zp0_15, .slice ap0_19 p0_17.length zp0_20] 86 0 true)], Bp0_7, Bp0_12, Bp0_17, Bp0_22] F (fun v S' F' => ∃ (ra1 : Option Addr) (rz2 : Nat) (rB4 : Seg) (ra5 : Option Addr) (rz6 : Nat) (rB8 : Seg) (ra9 : Option Addr) (rz10 : Nat) (rB12 : Seg), F = F' ∧ v = .tuple #[] ∧ S' = [[(ip0_1, .row [strV p0_1, .slice ra1 r.1.length rz2, .slice ra5 r.2.1.length rz6, .slice ra9 r.2.2.length rz10, .slice ap0_19 p0_17.length zp0_20] 86 0 true)], rB4, rB8, rB12, Bp0_22] ∧ Own (elB 5) F' ra1 rz2 r.1 rB4 ∧ Own (elI .i64 3) F' ra5 rz6 r.2.1 rB8 ∧ Own (elBool 4) F' ra9 rz10 r.2.2 rB12) := by
  refine Cl.of Tryz.func118 rfl (fun _ _ => rfl) (by kernel_rfl) fun s L nx0 hS => ?_
  unfold g_source_squeezer_put.f at h
  refine WW.regionD (i := [[], [0], [1, 0], [2, 1, 0], [2, 1, 0], [2, 1, 0], [2, 1, 0], [6, 5, 4, 3, 2, 1, 0], [6, 5, 4, 3, 2, 1, 0], [2, 1, 0], [9, 8, 7, 6, 5, 4, 3, 2, 1, 0], [9, 8, 7, 6, 5, 4, 3, 2, 1, 0], [9, 8, 7, 6, 5, 4, 3, 2, 1, 0], [9, 8, 7, 6, 5, 4, 3, 2, 1, 0], [13, 12, 11, 10, 9, 8, 7, 6, 5, 4, 3, 2, 1, 0], [13, 12, 11, 10, 9, 8, 7, 6, 5, 4, 3, 2, 1, 0], [2, 1, 0], [16, 15, 14, 13, 12, 11, 10, 9, 8, 7, 6, 5, 4, 3, 2, 1, 0], [16, 15, 14, 13, 12, 11, 10, 9, 8, 7, 6, 5, 4, 3, 2, 1, 0], [16, 15, 14, 13, 12, 11, 10, 9, 8, 7, 6, 5, 4, 3, 2, 1, 0], [16, 15, 14, 13, 12, 11, 10, 9, 8, 7, 6, 5, 4, 3, 2, 1, 0], [20, 19, 18, 17, 16, 15, 14, 13, 12, 11, 10, 9, 8, 7, 6, 5, 4, 3, 2, 1, 0], [20, 19, 18, 17, 16, 15, 14, 13, 12, 11, 10, 9, 8, 7, 6, 5, 4, 3, 2, 1, 0], [2, 1, 0], [2, 1], [2, 1], [2, 1], [2], [2], [2], [], [], []]) (by kernel_rfl) ?_
  have hq := RS.start [ip0_1]
  refine K.pu hS hq rfl (wn rfl) rfl rfl rfl (v := .pointer (some ⟨ip0_1, 0, none⟩)) (aop_move (hS.lk rfl)) fun s rs hS hq => ?_
  refine K.pu hS hq rfl (wn rfl) rfl rfl rfl (v := .pointer (some ⟨ip0_1, 0, none⟩)) (aop_move (hS.lk rfl)) fun s rs hS hq => ?_
  refine K.pu hS hq rfl (wn rfl) rfl rfl rfl (v := .pointer (some ⟨ip0_1, 0, none⟩)) (aop_move (hS.lk rfl)) fun s rs hS hq => ?_
  refine K.pu hS hq rfl (wn rfl) rfl rfl rfl (v := .pointer (some ⟨ip0_1, 0, none⟩)) (aop_move (hS.lk rfl)) fun s rs hS hq => ?_
  refine K.pu hS hq rfl (wn rfl) rfl rfl rfl (v := .pointer (some ⟨ip0_1, 0, none⟩)) (aop_nilp (hS.lk rfl)) fun s rs hS hq => ?_
  refine K.pu hS hq rfl (wn rfl) rfl rfl rfl (v := .pointer (some ⟨ip0_1, 1, none⟩)) (aop_fa (hS.lk rfl) tf86_1 rfl rfl) fun s rs hS hq => ?_
  refine K.ld hS hq rfl (wn rfl) rfl rfl rfl (hS.at (k := 0) rfl) tg83 (v := .slice ap0_4 p0_2.length zp0_5) rfl 0 rfl rfl fun s rs hS hq => ?_
  refine K.pu hS hq rfl (wn rfl) rfl rfl rfl (v := vB p1_0) (aop_move (hS.lk rfl)) fun s rs hS hq => ?_
  refine K.nw hS hq rfl (wn rfl) rfl rfl rfl (v := fun i => .slice (some ⟨i, 0, none⟩) 1 1) (b := .row [vB p1_0] 5 1 true) (aop_bsl tu83 tz5 t0_5 rfl [(0, vB p1_0)] (parts_eq hS rfl) rfl) [0] (aw_c rfl mm0 aw_n) rfl rfl rfl fun s rs i1 hS hq => ?_
  have hC2 : Cells (elB 5) F ([p1_0] : List UInt8) [vB p1_0] := ⟨[vB p1_0], [], rfl, rfl, rfl⟩
  obtain ⟨hk6, h⟩ := ite_some h
  replace hS := hS.pull 2
  replace hS := hS.pull 1
  refine K.app [] hS hq rfl (wn rfl) (dd := (elB 5)) (lst := p0_2) (m := ([p1_0] : List UInt8)) rfl rfl ta83_83 rfl rfl hp0_6 (Nat.succ_pos _) hC2 hk6 [0] rfl rfl (aw_c rfl mm0 aw_n) fun s rs i3 cs4 hC5 hS hq => ?_
  refine K.pu hS hq rfl (wn rfl) rfl rfl rfl (v := .pointer (some ⟨ip0_1, 0, none⟩)) (aop_move (hS.lk rfl)) fun s rs hS hq => ?_
  refine K.pu hS hq rfl (wn rfl) rfl rfl rfl (v := .pointer (some ⟨ip0_1, 0, none⟩)) (aop_nilp (hS.lk rfl)) fun s rs hS hq => ?_
  refine K.pu hS hq rfl (wn rfl) rfl rfl rfl (v := .pointer (some ⟨ip0_1, 2, none⟩)) (aop_fa (hS.lk rfl) tf86_2 rfl rfl) fun s rs hS hq => ?_
  refine K.ld hS hq rfl (wn rfl) rfl rfl rfl (hS.at (k := 1) rfl) tg23 (v := .slice ap0_9 p0_7.length zp0_10) rfl 0 rfl rfl fun s rs hS hq => ?_
  refine K.pu hS hq rfl (wn rfl) rfl rfl rfl (v := .int .i64 p2_0) (aop_move (hS.lk rfl)) fun s rs hS hq => ?_
  refine K.nw hS hq rfl (wn rfl) rfl rfl rfl (v := fun i => .slice (some ⟨i, 0, none⟩) 1 1) (b := .row [.int .i64 p2_0] 3 1 true) (aop_bsl tu23 tz3 t0_3 rfl [(0, .int .i64 p2_0)] (parts_eq hS rfl) rfl) [0] (aw_c rfl (mm1 mm0) aw_n) rfl rfl rfl fun s rs i7 hS hq => ?_
  have hC8 : Cells (elI .i64 3) F ([p2_0] : List Int) [.int .i64 p2_0] := ⟨[.int .i64 p2_0], [], rfl, rfl, rfl⟩
  obtain ⟨hk12, h⟩ := ite_some h
  replace hS := hS.pull 3
  replace hS := hS.pull 1
  refine K.app [] hS hq rfl (wn rfl) (dd := (elI .i64 3)) (lst := p0_7) (m := ([p2_0] : List Int)) rfl rfl ta23_23 rfl rfl hp0_11 (Nat.succ_pos _) hC8 hk12 [0] rfl rfl (aw_c rfl (mm1 mm0) aw_n) fun s rs i9 cs10 hC11 hS hq => ?_
  refine K.pu hS hq rfl (wn rfl) rfl rfl rfl (v := .pointer (some ⟨ip0_1, 0, none⟩)) (aop_move (hS.lk rfl)) fun s rs hS hq => ?_
  refine K.pu hS hq rfl (wn rfl) rfl rfl rfl (v := .pointer (some ⟨ip0_1, 0, none⟩)) (aop_nilp (hS.lk rfl)) fun s rs hS hq => ?_
  refine K.pu hS hq rfl (wn rfl) rfl rfl rfl (v := .pointer (some ⟨ip0_1, 3, none⟩)) (aop_fa (hS.lk rfl) tf86_3 rfl rfl) fun s rs hS hq => ?_
  refine K.ld hS hq rfl (wn rfl) rfl rfl rfl (hS.at (k := 2) rfl) tg84 (v := .slice ap0_14 p0_12.length zp0_15) rfl 0 rfl rfl fun s rs hS hq => ?_
  refine K.pu hS hq rfl (wn rfl) rfl rfl rfl (v := .bool p3_0) (aop_move (hS.lk rfl)) fun s rs hS hq => ?_
  refine K.nw hS hq rfl (wn rfl) rfl rfl rfl (v := fun i => .slice (some ⟨i, 0, none⟩) 1 1) (b := .row [.bool p3_0] 4 1 true) (aop_bsl tu84 tz4 t0_4 rfl [(0, .bool p3_0)] (parts_eq hS rfl) rfl) [0] (aw_c rfl (mm1 (mm1 mm0)) aw_n) rfl rfl rfl fun s rs i13 hS hq => ?_
  have hC14 : Cells (elBool 4) F ([p3_0] : List Bool) [.bool p3_0] := ⟨[.bool p3_0], [], rfl, rfl, rfl⟩
  obtain ⟨hk18, h⟩ := ite_some h
  replace hS := hS.pull 4
  replace hS := hS.pull 1
  refine K.app [] hS hq rfl (wn rfl) (dd := (elBool 4)) (lst := p0_12) (m := ([p3_0] : List Bool)) rfl rfl ta84_84 rfl rfl hp0_16 (Nat.succ_pos _) hC14 hk18 [0] rfl rfl (aw_c rfl (mm1 (mm1 mm0)) aw_n) fun s rs i15 cs16 hC17 hS hq => ?_
  refine K.pu hS hq rfl (wn rfl) rfl rfl rfl (v := .pointer (some ⟨ip0_1, 0, none⟩)) (aop_nilp (hS.lk rfl)) fun s rs hS hq => ?_
  refine K.pu hS hq rfl (wn rfl) rfl rfl rfl (v := .pointer (some ⟨ip0_1, 1, none⟩)) (aop_fa (hS.lk rfl) tf86_1 rfl rfl) fun s rs hS hq => ?_
  refine K.sto hS hq rfl (wn rfl) rfl rfl rfl rfl (p := 3) rfl tz83 rfl [strV p0_1, .slice (some ⟨i3, 0, none⟩) (p0_2 ++ ([p1_0] : List UInt8)).length 1, .slice ap0_9 p0_7.length zp0_10, .slice ap0_14 p0_12.length zp0_15, .slice ap0_19 p0_17.length zp0_20] rfl [] rfl aw_n fun s rs hS hq => ?_
  refine K.pu hS hq rfl (wn rfl) rfl rfl rfl (v := .pointer (some ⟨ip0_1, 0, none⟩)) (aop_nilp (hS.lk rfl)) fun s rs hS hq => ?_
  refine K.pu hS hq rfl (wn rfl) rfl rfl rfl (v := .pointer (some ⟨ip0_1, 2, none⟩)) (aop_fa (hS.lk rfl) tf86_2 rfl rfl) fun s rs hS hq => ?_
  refine K.sto hS hq rfl (wn rfl) rfl rfl rfl rfl (p := 3) rfl tz23 rfl [strV p0_1, .slice (some ⟨i3, 0, none⟩) (p0_2 ++ ([p1_0] : List UInt8)).length 1, .slice (some ⟨i9, 0, none⟩) (p0_7 ++ ([p2_0] : List Int)).length 1, .slice ap0_14 p0_12.length zp0_15, .slice ap0_19 p0_17.length zp0_20] rfl [] rfl aw_n fun s rs hS hq => ?_
  refine K.pu hS hq rfl (wn rfl) rfl rfl rfl (v := .pointer (some ⟨ip0_1, 0, none⟩)) (aop_nilp (hS.lk rfl)) fun s rs hS hq => ?_
  refine K.pu hS hq rfl (wn rfl) rfl rfl rfl (v := .pointer (some ⟨ip0_1, 3, none⟩)) (aop_fa (hS.lk rfl) tf86_3 rfl rfl) fun s rs hS hq => ?_
  refine K.sto hS hq rfl (wn rfl) rfl rfl rfl rfl (p := 3) rfl tz84 rfl [strV p0_1, .slice (some ⟨i3, 0, none⟩) (p0_2 ++ ([p1_0] : List UInt8)).length 1, .slice (some ⟨i9, 0, none⟩) (p0_7 ++ ([p2_0] : List Int)).length 1, .slice (some ⟨i15, 0, none⟩) (p0_12 ++ ([p3_0] : List Bool)).length 1, .slice ap0_19 p0_17.length zp0_20] rfl [] rfl aw_n fun s rs hS hq => ?_
  refine KW.nil ?_
  have hres := (res_nil (E := EV) (s := s))
  replace hS := hS.pull 4
  replace hS := hS.pull 1
  replace hS := hS.pull 2
  replace hS := hS.pull 3
  replace hS := hS.pull 4
  obtain rfl := Option.some.inj h
  exact fin hS (.inl rfl) hres (v := .tuple #[]) rfl ⟨_, _, _, _, _, _, _, _, _, rfl, rfl, rfl, (Own.blk0 hC5), (Own.blk0 hC11), (Own.blk0 hC17)⟩
/-! ### (*formulary/source.squeezer).constant (143) -/
noncomputable def g_source_squeezer_constant.b0 (p0_1 : List UInt8) (p2_0 : Int) (x1 : Int × List UInt8 × List Int × List Bool) : Option ((Int × List UInt8 × List Int × List Bool) ⊕ (Int × List UInt8 × List Int × List Bool)) :=
  (if (decide (x1.1 < p2_0)) then (if 0 ≤ x1.1 ∧ x1.1 < (p0_1.length : Int) then Option.bind (g_source_squeezer_put.f x1.2.1 x1.2.2.1 x1.2.2.2 (gt p0_1 x1.1) x1.1 true) fun y31 => some (.inl ((w64 (x1.1 + 1)), y31.1, y31.2.1, y31.2.2)) else none) else some (.inr (x1.1, x1.2.1, x1.2.2.1, x1.2.2.2)))
noncomputable def g_source_squeezer_constant.f (p0_1 : List UInt8) (p0_2 : List UInt8) (p0_7 : List Int) (p0_12 : List Bool) (p1_0 : Int) (p2_0 : Int) : Option (List UInt8 × List Int × List Bool) :=
  Option.bind (iter (g_source_squeezer_constant.b0 p0_1 p2_0) (p1_0, p0_2, p0_7, p0_12)) fun o14 => some (o14.2.1, o14.2.2.1, o14.2.2.2)
set_option maxHeartbeats 4000000 in
theorem g_source_squeezer_constant.ok {ip0_1 : Nat} {ap0_4 : Option Addr} {zp0_5 : Nat} {Bp0_7 : Seg} {ap0_9 : Option Addr} {zp0_10 : Nat} {Bp0_12 : Seg} {ap0_14 : Option Addr} {zp0_15 : Nat} {Bp0_17 : Seg} {ap0_19 : Option Addr} {zp0_20 : Nat} {Bp0_22 : Seg} {p0_1 : List UInt8} {p0_2 : List UInt8} {p0_7 : List Int} {p0_12 : List Bool} {p0_17 : List (Int × Int)} {p1_0 : Int} {p2_0 : Int} {F : FZ} {r : List UInt8 × List Int × List Bool} (h : g_source_squeezer_constant.f p0_1 p0_2 p0_7 p0_12 p1_0 p2_0 = some r) (hp0_6 : Own (elB 5) F ap0_4 zp0_5 p0_2 Bp0_7) (hp0_11 : Own (elI .i64 3) F ap0_9 zp0_10 p0_7 Bp0_12) (hp0_16 : Own (elBool 4) F ap0_14 zp0_15 p0_12 Bp0_17) :
    Cl EV 143 [.pointer (some ⟨ip0_1, 0, none⟩), .int .i64 p1_0, .int .i64 p2_0] [[(ip0_1, .row [strV p0_1, .slice ap0_4 p0_2.length zp0_5, .slice ap0_9 p0_7.length zp0_10, .slice ap0_14 p0_12.length zp0_15, .slice ap0_19 p0_17.length zp0_20] 86 0 true)], Bp0_7, Bp0_12, Bp0_17, Bp0_22] F (fun v S' F' => ∃ (ra1 : Option Addr) (rz2 : Nat) (rB4 : Seg) (ra5 : Option Addr) (rz6 : Nat) (rB8 : Seg) (ra9 : Option Addr) (rz10 : Nat) (rB12 : Seg), F = F' ∧ v = .tuple #[] ∧ S' = [[(ip0_1, .row [strV p0_1, .slice ra1 r.1.length rz2, .slice ra5 r.2.1.length rz6, .slice ra9 r.2.2.length rz10, .slice ap0_19 p0_17.length zp0_20] 86 0 true)], rB4, rB8, rB12, Bp0_22] ∧ Own (elB 5) F' ra1 rz2 r.1 rB4 ∧ Own (elI .i64 3) F' ra5 rz6 r.2.1 rB8 ∧ Own (elBool 4) F' ra9 rz10 r.2.2 rB12) := by
  refine Cl.of Tryz.func143 rfl (fun _ _ => rfl) (by kernel_rfl) fun s L nx0 hS => ?_
  unfold g_source_squeezer_constant.f at h
  refine WW.seq ?_
  refine WW.region ?_
  refine q_pu hS (wn rfl) rfl rfl rfl (v := .int .i64 p1_0) (aop_move (hS.lk rfl)) fun s hS => ?_
  refine q_pu hS (wn rfl) rfl rfl rfl (v := .int .i64 p1_0) (aop_assign (hS.lk rfl)) fun s hS => ?_
  refine KW.nil ?_
  refine WW.block ?_
  obtain ⟨o14, ho14, h⟩ := bind_some h
  refine WW.loop (LW.iter ho14 (fun (x1 : Int × List UInt8 × List Int × List Bool) s => ∃ (a2 : Option Addr) (z3 : Nat) (B5 : Seg) (a6 : Option Addr) (z7 : Nat) (B9 : Seg) (a10 : Option Addr) (z11 : Nat) (B13 : Seg), Stt EV s [(0, .pointer (some ⟨ip0_1, 0, none⟩)), (2, .int .i64 p2_0), (6, .int .i64 x1.1)] [[(ip0_1, .row [strV p0_1, .slice a2 x1.2.1.length z3, .slice a6 x1.2.2.1.length z7, .slice a10 x1.2.2.2.length z11, .slice ap0_19 p0_17.length zp0_20] 86 0 true)], B5, B9, B13, Bp0_22] F L F nx0 ∧ Own (elB 5) F a2 z3 x1.2.1 B5 ∧ Own (elI .i64 3) F a6 z7 x1.2.2.1 B9 ∧ Own (elBool 4) F a10 z11 x1.2.2.2 B13) (fun (y15 : Int × List UInt8 × List Int × List Bool) e s => (e = .exit 0 ∧ ∃ (a16 : Option Addr) (z17 : Nat) (B19 : Seg) (a20 : Option Addr) (z21 : Nat) (B23 : Seg) (a24 : Option Addr) (z25 : Nat) (B27 : Seg), Stt EV s [(0, .pointer (some ⟨ip0_1, 0, none⟩)), (2, .int .i64 p2_0), (6, .int .i64 y15.1)] [[(ip0_1, .row [strV p0_1, .slice a16 y15.2.1.length z17, .slice a20 y15.2.2.1.length z21, .slice a24 y15.2.2.2.length z25, .slice ap0_19 p0_17.length zp0_20] 86 0 true)], B19, B23, B27, Bp0_22] F L F nx0 ∧ Own (elB 5) F a16 z17 y15.2.1 B19 ∧ Own (elI .i64 3) F a20 z21 y15.2.2.1 B23 ∧ Own (elBool 4) F a24 z25 y15.2.2.2 B27)) ⟨_, _, _, _, _, _, _, _, _, (hS.sub (.c rfl (.c rfl (.c rfl .n)))), hp0_6, hp0_11, hp0_16⟩ ?_ ?_)
  · clear hS
    rintro x1 s ⟨a2, z3, B5, a6, z7, B9, a10, z11, B13, hS, h4, h8, h12⟩ o14' h28
    unfold g_source_squeezer_constant.b0 at h28
    refine WW.seq ?_
    refine WW.seq ?_
    refine WW.region ?_
    refine q_pu hS (wn rfl) rfl rfl rfl (v := .int .i64 x1.1) (aop_move (hS.lk rfl)) fun s hS => ?_
    refine q_pu hS (wn rfl) rfl rfl rfl (v := .int .i64 p2_0) (aop_move (hS.lk rfl)) fun s hS => ?_
    refine q_pu hS (wn rfl) rfl rfl rfl (v := .bool (decide (x1.1 < p2_0))) (aop_int (hS.lk rfl) (hS.lk rfl) rfl) fun s hS => ?_
    refine KW.nil ?_
    rcases bool_cases ((decide (x1.1 < p2_0))) with hc29 | hc29
    · rw [ite_t hc29] at h28
      replace hS := hS.know (t := 10) rfl (congrArg Value.bool hc29)
      refine WW.condK hS rfl rfl ?_
      refine WW.skip ?_
      refine WW.seq ?_
      refine WW.block ?_
      refine WW.region ?_
      refine q_pu hS (wn rfl) rfl rfl rfl (v := .pointer (some ⟨ip0_1, 0, none⟩)) (aop_move (hS.lk rfl)) fun s hS => ?_
      refine q_pu hS (wn rfl) rfl rfl rfl (v := .pointer (some ⟨ip0_1, 0, none⟩)) (aop_move (hS.lk rfl)) fun s hS => ?_
      refine q_pu hS (wn rfl) rfl rfl rfl (v := .pointer (some ⟨ip0_1, 0, none⟩)) (aop_nilp (hS.lk rfl)) fun s hS => ?_
      refine q_pu hS (wn rfl) rfl rfl rfl (v := .pointer (some ⟨ip0_1, 0, none⟩)) (aop_fa (hS.lk rfl) tf86_0 rfl rfl) fun s hS => ?_
      refine q_ld hS (wn rfl) rfl rfl rfl (hS.at (k := 0) rfl) tg9 (v := strV p0_1) rfl fun s hS => ?_
      refine q_pu hS (wn rfl) rfl rfl rfl (v := .int .i64 x1.1) (aop_move (hS.lk rfl)) fun s hS => ?_
      obtain ⟨hk30, h28⟩ := ite_some h28
      refine q_pu hS (wn rfl) rfl rfl rfl (v := vB (gt p0_1 x1.1)) (aop_idxS tu9 (hS.lk rfl) (hS.lk rfl) hk30) fun s hS => ?_
      refine q_pu hS (wn rfl) rfl rfl rfl (v := .int .i64 x1.1) (aop_move (hS.lk rfl)) fun s hS => ?_
      obtain ⟨y31, hy31, h28⟩ := bind_some h28
      refine q_cl hS (wn rfl) (vs := [.pointer (some ⟨ip0_1, 0, none⟩), vB (gt p0_1 x1.1), .int .i64 x1.1, .bool true]) (ws := [.pointer (some ⟨ip0_1, 0, none⟩), vB (gt p0_1 x1.1), .int .i64 x1.1, .bool true]) rfl rfl rfl rfl rfl 5 rfl (g_source_squeezer_put.ok hy31 h4 h8 h12) fun s v S' F' hp32 hF hS => ?_
      obtain ⟨a33, z34, B36, a37, z38, B40, a41, z42, B44, rfl, rfl, rfl, h35, h39, h43⟩ := hp32
      refine KW.nil ?_
      refine WW.region ?_
      refine q_pu hS (wn rfl) rfl rfl rfl (v := .int .i64 x1.1) (aop_move (hS.lk rfl)) fun s hS => ?_
      refine q_pu hS (wn rfl) rfl rfl rfl (v := .int .i64 (w64 (x1.1 + 1))) (aop_int (hS.lk rfl) (hS.lk rfl) rfl) fun s hS => ?_
      refine q_pu hS (wn rfl) rfl rfl rfl (v := .int .i64 (w64 (x1.1 + 1))) (aop_assign (hS.lk rfl)) fun s hS => ?_
      refine KW.nil ?_
      obtain rfl := Option.some.inj h28
      exact ⟨_, rfl, _, _, _, _, _, _, _, _, _, (hS.sub (.c rfl (.c rfl (.c rfl .n)))), h35, h39, h43⟩
    · rw [ite_f hc29] at h28
      replace hS := hS.know (t := 10) rfl (congrArg Value.bool hc29)
      refine WW.condF hS rfl rfl ?_
      refine WW.exit ?_
      refine thenQ_exit ?_
      obtain rfl := Option.some.inj h28
      exact ⟨_, rfl, rfl, _, _, _, _, _, _, _, _, _, (hS.sub (.c rfl (.c rfl (.c rfl .n)))), h4, h8, h12⟩
  · clear hS
    rintro e s ⟨rfl, a45, z46, B48, a49, z50, B52, a53, z54, B56, hS, h47, h51, h55⟩
    refine blockQ_exit ?_
    have hres := (res_nil (E := EV) (s := s))
    obtain rfl := Option.some.inj h
    exact fin hS (.inl rfl) hres (v := .tuple #[]) rfl ⟨_, _, _, _, _, _, _, _, _, rfl, rfl, rfl, h47, h51, h55⟩
/-! ### (*formulary/source.squeezer).character (115) -/
noncomputable def g_source_squeezer_character.f (p0_1 : List UInt8) (p0_2 : List UInt8) (p0_7 : List Int) (p0_12 : List Bool) (p0_17 : List (Int × Int)) (p1_0 : Int) : Option (Int × Int × List UInt8 × List Int × List Bool × (List (Int × Int))) :=
  (if 0 ≤ (w64 (p1_0 + 1)) ∧ (w64 (p1_0 + 1)) ≤ (p0_1.length : Int) ∧ (p0_1.length : Int) ≤ (p0_1.length : Int) then (if 0 ≤ p1_0 ∧ p1_0 < (p0_1.length : Int) then Option.bind (g_strings_IndexByte.f (mid p0_1 (w64 (p1_0 + 1)) (p0_1.length : Int)) (gt p0_1 p1_0)) fun y3 => (if (decide (y3 < 0)) then some (0, 21, p0_2, p0_7, p0_12, p0_17) else (if p0_17.length + ([(p1_0, (w64 ((w64 (p1_0 + y3)) + 2)))] : List (Int × Int)).length < 1000000000 then Option.bind (g_source_squeezer_constant.f p0_1 p0_2 p0_7 p0_12 p1_0 (w64 ((w64 (p1_0 + y3)) + 2))) fun y12 => some ((w64 ((w64 (p1_0 + y3)) + 2)), 0, y12.1, y12.2.1, y12.2.2, (p0_17 ++ ([(p1_0, (w64 ((w64 (p1_0 + y3)) + 2)))] : List (Int × Int)))) else none)) else none) else none)
set_option maxHeartbeats 4000000 in
theorem g_source_squeezer_character.ok {ip0_1 : Nat} {ap0_4 : Option Addr} {zp0_5 : Nat} {Bp0_7 : Seg} {ap0_9 : Option Addr} {zp0_10 : Nat} {Bp0_12 : Seg} {ap0_14 : Option Addr} {zp0_15 : Nat} {Bp0_17 : Seg} {ap0_19 : Option Addr} {zp0_20 : Nat} {Bp0_22 : Seg} {p0_1 : List UInt8} {p0_2 : List UInt8} {p0_7 : List Int} {p0_12 : List Bool} {p0_17 : List (Int × Int)} {p1_0 : Int} {F : FZ} {r : Int × Int × List UInt8 × List Int × List Bool × (List (Int × Int))} (h : g_source_squeezer_character.f p0_1 p0_2 p0_7 p0_12 p0_17 p1_0 = some r) (hp0_6 : Own (elB 5) F ap0_4 zp0_5 p0_2 Bp0_7) (hp0_11 : Own (elI .i64 3) F ap0_9 zp0_10 p0_7 Bp0_12) (hp0_16 : Own (elBool 4) F ap0_14 zp0_15 p0_12 Bp0_17) (hp0_21 : Own el34 F ap0_19 zp0_20 p0_17 Bp0_22) :
    Cl EV 115 [.pointer (some ⟨ip0_1, 0, none⟩), .int .i64 p1_0] [[(ip0_1, .row [strV p0_1, .slice ap0_4 p0_2.length zp0_5, .slice ap0_9 p0_7.length zp0_10, .slice ap0_14 p0_12.length zp0_15, .slice ap0_19 p0_17.length zp0_20] 86 0 true)], Bp0_7, Bp0_12, Bp0_17, Bp0_22] F (fun v S' F' => ∃ (ra1 : Option Addr) (rz2 : Nat) (rB4 : Seg) (ra5 : Option Addr) (rz6 : Nat) (rB8 : Seg) (ra9 : Option Addr) (rz10 : Nat) (rB12 : Seg) (ra13 : Option Addr) (rz14 : Nat) (rB16 : Seg), F = F' ∧ v = .tuple #[.int .i64 r.1, .int .i64 r.2.1] ∧ S' = [[(ip0_1, .row [strV p0_1, .slice ra1 r.2.2.1.length rz2, .slice ra5 r.2.2.2.1.length rz6, .slice ra9 r.2.2.2.2.1.length rz10, .slice ra13 r.2.2.2.2.2.length rz14] 86 0 true)], rB4, rB8, rB12, rB16] ∧ Own (elB 5) F' ra1 rz2 r.2.2.1 rB4 ∧ Own (elI .i64 3) F' ra5 rz6 r.2.2.2.1 rB8 ∧ Own (elBool 4) F' ra9 rz10 r.2.2.2.2.1 rB12 ∧ Own el34 F' ra13 rz14 r.2.2.2.2.2 rB16) := by
  refine Cl.of Tryz.func115 rfl (fun _ _ => rfl) (by kernel_rfl) fun s L nx0 hS => ?_
  unfold g_source_squeezer_character.f at h
  refine WW.seq ?_
  refine WW.region ?_
  refine q_pu hS (wn rfl) rfl rfl rfl (v := .int .i64 0) (aop_assign (hS.lk rfl)) fun s hS => ?_
  refine q_pu hS (wn rfl) rfl rfl rfl (v := .int .i64 0) (aop_assign (hS.lk rfl)) fun s hS => ?_
  refine KW.nil ?_
  refine WW.seq ?_
  refine WW.regionD (i := [[], [], [], [], [3, 2, 1, 0], [3, 2, 1, 0], [], [6, 5, 4, 3, 2, 1, 0], [6, 5, 4, 3, 2, 1, 0], [6, 5, 4, 3, 2, 1, 0], [6, 5, 4, 3, 2, 1, 0], [10, 9, 8, 7, 6, 5, 4, 3, 2, 1, 0], [6, 5, 4, 3, 2, 1, 0], [], []]) (by kernel_rfl) ?_
  have hq := RS.start [ip0_1]
  refine K.pu hS hq rfl (wn rfl) rfl rfl rfl (v := .pointer (some ⟨ip0_1, 0, none⟩)) (aop_move (hS.lk rfl)) fun s rs hS hq => ?_
  refine K.pu hS hq rfl (wn rfl) rfl rfl rfl (v := .pointer (some ⟨ip0_1, 0, none⟩)) (aop_nilp (hS.lk rfl)) fun s rs hS hq => ?_
  refine K.pu hS hq rfl (wn rfl) rfl rfl rfl (v := .pointer (some ⟨ip0_1, 0, none⟩)) (aop_fa (hS.lk rfl) tf86_0 rfl rfl) fun s rs hS hq => ?_
  refine K.ld hS hq rfl (wn rfl) rfl rfl rfl (hS.at (k := 0) rfl) tg9 (v := strV p0_1) rfl 0 rfl rfl fun s rs hS hq => ?_
  refine K.pu hS hq rfl (wn rfl) rfl rfl rfl (v := .int .i64 p1_0) (aop_move (hS.lk rfl)) fun s rs hS hq => ?_
  refine K.pu hS hq rfl (wn rfl) rfl rfl rfl (v := .int .i64 (w64 (p1_0 + 1))) (aop_int (hS.lk rfl) (hS.lk rfl) rfl) fun s rs hS hq => ?_
  obtain ⟨hk1, h⟩ := ite_some h
  refine K.pu hS hq rfl (wn rfl) rfl rfl rfl (v := strV (mid p0_1 (w64 (p1_0 + 1)) (p0_1.length : Int))) (aop_slS tu9 (hS.lk rfl) (i := (w64 (p1_0 + 1))) (j := (p0_1.length : Int)) (bnd_eq hS rfl) rfl hk1) fun s rs hS hq => ?_
  refine K.pu hS hq rfl (wn rfl) rfl rfl rfl (v := .pointer (some ⟨ip0_1, 0, none⟩)) (aop_move (hS.lk rfl)) fun s rs hS hq => ?_
  refine K.pu hS hq rfl (wn rfl) rfl rfl rfl (v := .pointer (some ⟨ip0_1, 0, none⟩)) (aop_nilp (hS.lk rfl)) fun s rs hS hq => ?_
  refine K.pu hS hq rfl (wn rfl) rfl rfl rfl (v := .pointer (some ⟨ip0_1, 0, none⟩)) (aop_fa (hS.lk rfl) tf86_0 rfl rfl) fun s rs hS hq => ?_
  refine K.ld hS hq rfl (wn rfl) rfl rfl rfl (hS.at (k := 0) rfl) tg9 (v := strV p0_1) rfl 0 rfl rfl fun s rs hS hq => ?_
  refine K.pu hS hq rfl (wn rfl) rfl rfl rfl (v := .int .i64 p1_0) (aop_move (hS.lk rfl)) fun s rs hS hq => ?_
  obtain ⟨hk2, h⟩ := ite_some h
  refine K.pu hS hq rfl (wn rfl) rfl rfl rfl (v := vB (gt p0_1 p1_0)) (aop_idxS tu9 (hS.lk rfl) (hS.lk rfl) hk2) fun s rs hS hq => ?_
  obtain ⟨y3, hy3, h⟩ := bind_some h
  refine K.cl hS hq rfl (wn rfl) (vs := [strV (mid p0_1 (w64 (p1_0 + 1)) (p0_1.length : Int)), vB (gt p0_1 p1_0)]) (ws := [strV (mid p0_1 (w64 (p1_0 + 1)) (p0_1.length : Int)), vB (gt p0_1 p1_0)]) rfl rfl rfl rfl rfl 0 rfl (g_strings_IndexByte.ok hy3)  [0] rfl rfl (aw_c rfl mm0 aw_n) fun s rs v S' F' hp4 hF hS hq => ?_
  obtain ⟨rfl, rfl, rfl⟩ := hp4
  refine K.pu hS hq rfl (wn rfl) rfl rfl rfl (v := .int .i64 y3) (aop_assign (hS.lk rfl)) fun s rs hS hq => ?_
  refine KW.nil ?_
  refine WW.seq ?_
  refine WW.seq ?_
  refine WW.region ?_
  refine q_pu hS (wn rfl) rfl rfl rfl (v := .int .i64 y3) (aop_move (hS.lk rfl)) fun s hS => ?_
  refine q_pu hS (wn rfl) rfl rfl rfl (v := .bool (decide (y3 < 0))) (aop_int (hS.lk rfl) (hS.lk rfl) rfl) fun s hS => ?_
  refine KW.nil ?_
  rcases bool_cases ((decide (y3 < 0))) with hc5 | hc5
  · rw [ite_t hc5] at h
    replace hS := hS.know (t := 23) rfl (congrArg Value.bool hc5)
    refine WW.condK hS rfl rfl ?_
    refine WW.seq ?_
    refine WW.region ?_
    refine q_pu hS (wn rfl) rfl rfl rfl (v := .int .i64 0) (aop_assign (hS.lk rfl)) fun s hS => ?_
    refine q_pu hS (wn rfl) rfl rfl rfl (v := .int .i64 21) (aop_assign (hS.lk rfl)) fun s hS => ?_
    refine KW.nil ?_
    refine WW.ret ?_
    have hres := (res_tmp hS (t := 4) (v := .int .i64 0) rfl (res_tmp hS (t := 5) (v := .int .i64 21) rfl (res_nil (E := EV) (s := s))))
    obtain rfl := Option.some.inj h
    exact fin hS (.inr rfl) hres (v := .tuple #[.int .i64 0, .int .i64 21]) rfl ⟨_, _, _, _, _, _, _, _, _, _, _, _, rfl, rfl, rfl, hp0_6, hp0_11, hp0_16, hp0_21⟩
  · rw [ite_f hc5] at h
    replace hS := hS.know (t := 23) rfl (congrArg Value.bool hc5)
    refine WW.condF hS rfl rfl ?_
    refine WW.skip ?_
    refine WW.seq ?_
    refine WW.region ?_
    refine q_pu hS (wn rfl) rfl rfl rfl (v := .int .i64 p1_0) (aop_move (hS.lk rfl)) fun s hS => ?_
    refine q_pu hS (wn rfl) rfl rfl rfl (v := .int .i64 y3) (aop_move (hS.lk rfl)) fun s hS => ?_
    refine q_pu hS (wn rfl) rfl rfl rfl (v := .int .i64 (w64 (p1_0 + y3))) (aop_int (hS.lk rfl) (hS.lk rfl) rfl) fun s hS => ?_
    refine q_pu hS (wn rfl) rfl rfl rfl (v := .int .i64 (w64 ((w64 (p1_0 + y3)) + 2))) (aop_int (hS.lk rfl) (hS.lk rfl) rfl) fun s hS => ?_
    refine q_pu hS (wn rfl) rfl rfl rfl (v := .int .i64 (w64 ((w64 (p1_0 + y3)) + 2))) (aop_assign (hS.lk rfl)) fun s hS => ?_
    refine KW.nil ?_
    refine WW.seq ?_
    refine WW.region ?_
    refine q_pu hS (wn rfl) rfl rfl rfl (v := .pointer (some ⟨ip0_1, 0, none⟩)) (aop_move (hS.lk rfl)) fun s hS => ?_
    refine q_pu hS (wn rfl) rfl rfl rfl (v := .pointer (some ⟨ip0_1, 0, none⟩)) (aop_move (hS.lk rfl)) fun s hS => ?_
    refine q_pu hS (wn rfl) rfl rfl rfl (v := .pointer (some ⟨ip0_1, 0, none⟩)) (aop_nilp (hS.lk rfl)) fun s hS => ?_
    refine q_pu hS (wn rfl) rfl rfl rfl (v := .pointer (some ⟨ip0_1, 4, none⟩)) (aop_fa (hS.lk rfl) tf86_4 rfl rfl) fun s hS => ?_
    refine q_ld hS (wn rfl) rfl rfl rfl (hS.at (k := 0) rfl) tg27 (v := .slice ap0_19 p0_17.length zp0_20) rfl fun s hS => ?_
    refine q_pu hS (wn rfl) rfl rfl rfl (v := .int .i64 p1_0) (aop_move (hS.lk rfl)) fun s hS => ?_
    refine q_pu hS (wn rfl) rfl rfl rfl (v := .int .i64 (w64 ((w64 (p1_0 + y3)) + 2))) (aop_move (hS.lk rfl)) fun s hS => ?_
    refine q_pu hS (wn rfl) rfl rfl rfl (v := .agg #[.int .i64 p1_0, .int .i64 (w64 ((w64 (p1_0 + y3)) + 2))]) (aop_bldA t0_34 tu34 tz3 [(0, .int .i64 p1_0), (1, .int .i64 (w64 ((w64 (p1_0 + y3)) + 2)))] (parts_eq hS rfl) (cs := [.int .i64 p1_0, .int .i64 (w64 ((w64 (p1_0 + y3)) + 2))]) rfl) fun s hS => ?_
    refine q_nw hS (wn rfl) rfl rfl rfl (v := fun i => .slice (some ⟨i, 0, none⟩) 1 2) (b := .row [.int .i64 p1_0, .int .i64 (w64 ((w64 (p1_0 + y3)) + 2))] 34 2 true) (aop_bsl tu27 tz34 t0_34 rfl [(0, .agg #[.int .i64 p1_0, .int .i64 (w64 ((w64 (p1_0 + y3)) + 2))])] (parts_eq hS rfl) rfl) fun s i6 hS => ?_
    have hC7 : Cells el34 F ([(p1_0, (w64 ((w64 (p1_0 + y3)) + 2)))] : List (Int × Int)) [.int .i64 p1_0, .int .i64 (w64 ((w64 (p1_0 + y3)) + 2))] := ⟨[.int .i64 p1_0, .int .i64 (w64 ((w64 (p1_0 + y3)) + 2))], [], rfl, rfl, rfl⟩
    obtain ⟨hk11, h⟩ := ite_some h
    replace hS := hS.pull 5
    replace hS := hS.pull 1
    refine q_app hS (wn rfl) (dd := el34) (lst := p0_17) (m := ([(p1_0, (w64 ((w64 (p1_0 + y3)) + 2)))] : List (Int × Int))) rfl rfl ta27_27 rfl rfl hp0_21 (Nat.succ_pos _) hC7 hk11 fun s i8 cs9 hC10 hS => ?_
    refine q_pu hS (wn rfl) rfl rfl rfl (v := .pointer (some ⟨ip0_1, 0, none⟩)) (aop_nilp (hS.lk rfl)) fun s hS => ?_
    refine q_pu hS (wn rfl) rfl rfl rfl (v := .pointer (some ⟨ip0_1, 4, none⟩)) (aop_fa (hS.lk rfl) tf86_4 rfl rfl) fun s hS => ?_
    refine q_sto hS (wn rfl) rfl rfl rfl rfl (p := 1) rfl tz27 rfl [strV p0_1, .slice ap0_4 p0_2.length zp0_5, .slice ap0_9 p0_7.length zp0_10, .slice ap0_14 p0_12.length zp0_15, .slice (some ⟨i8, 0, none⟩) (p0_17 ++ ([(p1_0, (w64 ((w64 (p1_0 + y3)) + 2)))] : List (Int × Int))).length 2] rfl fun s hS => ?_
    refine KW.nil ?_
    refine WW.seq ?_
    refine WW.region ?_
    refine q_pu hS (wn rfl) rfl rfl rfl (v := .pointer (some ⟨ip0_1, 0, none⟩)) (aop_move (hS.lk rfl)) fun s hS => ?_
    refine q_pu hS (wn rfl) rfl rfl rfl (v := .int .i64 p1_0) (aop_move (hS.lk rfl)) fun s hS => ?_
    refine q_pu hS (wn rfl) rfl rfl rfl (v := .int .i64 (w64 ((w64 (p1_0 + y3)) + 2))) (aop_move (hS.lk rfl)) fun s hS => ?_
    obtain ⟨y12, hy12, h⟩ := bind_some h
    replace hS := hS.pull 4
    replace hS := hS.pull 4
    replace hS := hS.pull 4
    replace hS := hS.pull 4
    refine q_cl hS (wn rfl) (vs := [.pointer (some ⟨ip0_1, 0, none⟩), .int .i64 p1_0, .int .i64 (w64 ((w64 (p1_0 + y3)) + 2))]) (ws := [.pointer (some ⟨ip0_1, 0, none⟩), .int .i64 p1_0, .int .i64 (w64 ((w64 (p1_0 + y3)) + 2))]) rfl rfl rfl rfl rfl 5 rfl (g_source_squeezer_constant.ok hy12 hp0_6 hp0_11 hp0_16) fun s v S' F' hp13 hF hS => ?_
    obtain ⟨a14, z15, B17, a18, z19, B21, a22, z23, B25, rfl, rfl, rfl, h16, h20, h24⟩ := hp13
    refine KW.nil ?_
    refine WW.seq ?_
    refine WW.region ?_
    refine q_pu hS (wn rfl) rfl rfl rfl (v := .int .i64 (w64 ((w64 (p1_0 + y3)) + 2))) (aop_move (hS.lk rfl)) fun s hS => ?_
    refine q_pu hS (wn rfl) rfl rfl rfl (v := .int .i64 (w64 ((w64 (p1_0 + y3)) + 2))) (aop_assign (hS.lk rfl)) fun s hS => ?_
    refine q_pu hS (wn rfl) rfl rfl rfl (v := .int .i64 0) (aop_assign (hS.lk rfl)) fun s hS => ?_
    refine KW.nil ?_
    refine WW.ret ?_
    have hres := (res_tmp hS (t := 4) (v := .int .i64 (w64 ((w64 (p1_0 + y3)) + 2))) rfl (res_tmp hS (t := 5) (v := .int .i64 0) rfl (res_nil (E := EV) (s := s))))
    obtain rfl := Option.some.inj h
    exact fin hS (.inr rfl) hres (v := .tuple #[.int .i64 (w64 ((w64 (p1_0 + y3)) + 2)), .int .i64 0]) rfl ⟨_, _, _, _, _, _, _, _, _, _, _, _, rfl, rfl, rfl, h16, h20, h24, (Own.blk0 hC10)⟩
/-! ### formulary/source.isDigit (101) -/
noncomputable def g_source_isDigit.f (p0_0 : UInt8) : Option (Bool) :=
  some ((decide (((48 : UInt8).toNat : Int) ≤ (p0_0.toNat : Int))) && (decide ((p0_0.toNat : Int) ≤ ((57 : UInt8).toNat : Int))))
set_option maxHeartbeats 4000000 in
theorem g_source_isDigit.ok {p0_0 : UInt8} {F : FZ} {r : Bool} (h : g_source_isDigit.f p0_0 = some r) :
    Cl EV 101 [vB p0_0] [] F (fun v S' F' => F = F' ∧ v = .bool r ∧ S' = []) := by
  refine Cl.of Tryz.func101 rfl (fun _ _ => rfl) (by kernel_rfl) fun s L nx0 hS => ?_
  unfold g_source_isDigit.f at h
  refine WW.seq ?_
  refine WW.region ?_
  refine q_pu hS (wn rfl) rfl rfl rfl (v := .bool false) (aop_assign (hS.lk rfl)) fun s hS => ?_
  refine KW.nil ?_
  refine WW.seq ?_
  refine WW.region ?_
  refine q_pu hS (wn rfl) rfl rfl rfl (v := vB p0_0) (aop_move (hS.lk rfl)) fun s hS => ?_
  refine q_pu hS (wn rfl) rfl rfl rfl (v := .bool (decide (((48 : UInt8).toNat : Int) ≤ (p0_0.toNat : Int)))) (aop_int (hS.lk rfl) (hS.lk rfl) rfl) fun s hS => ?_
  refine q_pu hS (wn rfl) rfl rfl rfl (v := .bool (decide (((48 : UInt8).toNat : Int) ≤ (p0_0.toNat : Int)))) (aop_move (hS.lk rfl)) fun s hS => ?_
  refine q_cut 3 (fun s => Stt EV s [(8, .bool ((decide (((48 : UInt8).toNat : Int) ≤ (p0_0.toNat : Int))) && (decide ((p0_0.toNat : Int) ≤ ((57 : UInt8).toNat : Int))))), (2, .bool false)] [] F L F nx0) ?_ fun s hS => ?_
  ·
    rcases bool_cases ((decide (((48 : UInt8).toNat : Int) ≤ (p0_0.toNat : Int)))) with hcj | hcj
    ·
      replace hS := hS.know (t := 4) rfl (congrArg Value.bool hcj)
      replace hS := hS.know (t := 5) rfl (congrArg Value.bool hcj)
      refine q_pu hS (wt hS rfl rfl rfl rfl) rfl rfl rfl (v := vB p0_0) (aop_move (hS.lk rfl)) fun s hS => ?_
      refine q_pu hS (wt hS rfl rfl rfl rfl) rfl rfl rfl (v := .bool (decide ((p0_0.toNat : Int) ≤ ((57 : UInt8).toNat : Int)))) (aop_int (hS.lk rfl) (hS.lk rfl) rfl) fun s hS => ?_
      refine q_pu hS (wn rfl) rfl rfl rfl (v := .bool (decide ((p0_0.toNat : Int) ≤ ((57 : UInt8).toNat : Int)))) (aop_pickT (hS.lk rfl) (hS.lk rfl)) fun s hS => ?_
      refine KW.nil ?_
      exact (hS.know (t := 8) (u' := .bool ((decide (((48 : UInt8).toNat : Int) ≤ (p0_0.toNat : Int))) && (decide ((p0_0.toNat : Int) ≤ ((57 : UInt8).toNat : Int))))) rfl (jn_and_t hcj)).sub (.c rfl (.c rfl .n))
    ·
      replace hS := hS.know (t := 4) rfl (congrArg Value.bool hcj)
      replace hS := hS.know (t := 5) rfl (congrArg Value.bool hcj)
      refine q_no hS (wf hS rfl rfl rfl rfl) rfl fun s hS => ?_
      refine q_no hS (wf hS rfl rfl rfl rfl) rfl fun s hS => ?_
      refine q_pu hS (wn rfl) rfl rfl rfl (v := .bool false) (aop_pickF (hS.lk rfl) (hS.lk rfl)) fun s hS => ?_
      refine KW.nil ?_
      exact (hS.know (t := 8) (u' := .bool ((decide (((48 : UInt8).toNat : Int) ≤ (p0_0.toNat : Int))) && (decide ((p0_0.toNat : Int) ≤ ((57 : UInt8).toNat : Int))))) rfl (jn_and_f hcj)).sub (.c rfl (.c rfl .n))
  refine q_pu hS (wn rfl) rfl rfl rfl (v := .bool ((decide (((48 : UInt8).toNat : Int) ≤ (p0_0.toNat : Int))) && (decide ((p0_0.toNat : Int) ≤ ((57 : UInt8).toNat : Int))))) (aop_assign (hS.lk rfl)) fun s hS => ?_
  refine KW.nil ?_
  refine WW.ret ?_
  have hres := (res_tmp hS (t := 2) (v := .bool ((decide (((48 : UInt8).toNat : Int) ≤ (p0_0.toNat : Int))) && (decide ((p0_0.toNat : Int) ≤ ((57 : UInt8).toNat : Int))))) rfl (res_nil (E := EV) (s := s)))
  obtain rfl := Option.some.inj h
  exact fin hS (.inr rfl) hres (v := .bool ((decide (((48 : UInt8).toNat : Int) ≤ (p0_0.toNat : Int))) && (decide ((p0_0.toNat : Int) ≤ ((57 : UInt8).toNat : Int))))) rfl ⟨rfl, rfl, rfl⟩
/-! ### (*formulary/source.squeezer).digits (144) -/
noncomputable def g_source_squeezer_digits.b0 (p0_2 : List UInt8) (p0_12 : List Bool) (x1 : Int) : Option ((Int) ⊕ (Int)) :=
  Option.bind ((if (decide (x1 > 0)) then (if 0 ≤ (w64 (x1 - 1)) ∧ (w64 (x1 - 1)) < (p0_12.length : Int) then some (!(gt p0_12 (w64 (x1 - 1)))) else none) else some false)) fun z5 => Option.bind ((if z5 then (if 0 ≤ (w64 (x1 - 1)) ∧ (w64 (x1 - 1)) < (p0_2.length : Int) then Option.bind (g_source_isDigit.f (gt p0_2 (w64 (x1 - 1)))) fun y29 => some y29 else none) else some false)) fun z17 => (if z17 then some (.inl (w64 (x1 - 1))) else some (.inr x1))
noncomputable def g_source_squeezer_digits.f (p0_2 : List UInt8) (p0_12 : List Bool) (p1_0 : Int) : Option (Int) :=
  Option.bind (iter (g_source_squeezer_digits.b0 p0_2 p0_12) p1_0) fun o2 => some o2
set_option maxHeartbeats 4000000 in
theorem g_source_squeezer_digits.ok {ip0_1 : Nat} {ap0_4 : Option Addr} {zp0_5 : Nat} {Bp0_7 : Seg} {ap0_9 : Option Addr} {zp0_10 : Nat} {Bp0_12 : Seg} {ap0_14 : Option Addr} {zp0_15 : Nat} {Bp0_17 : Seg} {ap0_19 : Option Addr} {zp0_20 : Nat} {Bp0_22 : Seg} {p0_1 : List UInt8} {p0_2 : List UInt8} {p0_7 : List Int} {p0_12 : List Bool} {p0_17 : List (Int × Int)} {p1_0 : Int} {F : FZ} {r : Int} (h : g_source_squeezer_digits.f p0_2 p0_12 p1_0 = some r) (hp0_6 : Own (elB 5) F ap0_4 zp0_5 p0_2 Bp0_7) (hp0_16 : Own (elBool 4) F ap0_14 zp0_15 p0_12 Bp0_17) :
    Cl EV 144 [.pointer (some ⟨ip0_1, 0, none⟩), .int .i64 p1_0] [[(ip0_1, .row [strV p0_1, .slice ap0_4 p0_2.length zp0_5, .slice ap0_9 p0_7.length zp0_10, .slice ap0_14 p0_12.length zp0_15, .slice ap0_19 p0_17.length zp0_20] 86 0 true)], Bp0_7, Bp0_12, Bp0_17, Bp0_22] F (fun v S' F' => F = F' ∧ v = .int .i64 r ∧ S' = [[(ip0_1, .row [strV p0_1, .slice ap0_4 p0_2.length zp0_5, .slice ap0_9 p0_7.length zp0_10, .slice ap0_14 p0_12.length zp0_15, .slice ap0_19 p0_17.length zp0_20] 86 0 true)], Bp0_7, Bp0_12, Bp0_17, Bp0_22]) := by
  refine Cl.of Tryz.func144 rfl (fun _ _ => rfl) (by kernel_rfl) fun s L nx0 hS => ?_
  unfold g_source_squeezer_digits.f at h
  refine WW.seq ?_
  refine WW.region ?_
  refine q_pu hS (wn rfl) rfl rfl rfl (v := .int .i64 0) (aop_assign (hS.lk rfl)) fun s hS => ?_
  refine KW.nil ?_
  refine WW.seq ?_
  refine WW.block ?_
  obtain ⟨o2, ho2, h⟩ := bind_some h
  refine WW.loop (LW.iter ho2 (fun (x1 : Int) s => Stt EV s [(0, .pointer (some ⟨ip0_1, 0, none⟩)), (1, .int .i64 x1), (4, .int .i64 0)] [[(ip0_1, .row [strV p0_1, .slice ap0_4 p0_2.length zp0_5, .slice ap0_9 p0_7.length zp0_10, .slice ap0_14 p0_12.length zp0_15, .slice ap0_19 p0_17.length zp0_20] 86 0 true)], Bp0_7, Bp0_12, Bp0_17, Bp0_22] F L F nx0) (fun (y3 : Int) e s => (e = .exit 0 ∧ Stt EV s [(0, .pointer (some ⟨ip0_1, 0, none⟩)), (1, .int .i64 y3), (4, .int .i64 0)] [[(ip0_1, .row [strV p0_1, .slice ap0_4 p0_2.length zp0_5, .slice ap0_9 p0_7.length zp0_10, .slice ap0_14 p0_12.length zp0_15, .slice ap0_19 p0_17.length zp0_20] 86 0 true)], Bp0_7, Bp0_12, Bp0_17, Bp0_22] F L F nx0)) (hS.sub (.c rfl (.c rfl (.c rfl .n)))) ?_ ?_)
  · clear hS
    rintro x1 s hS o2' h4
    unfold g_source_squeezer_digits.b0 at h4
    refine WW.seq ?_
    refine WW.seq ?_
    refine WW.region ?_
    refine q_pu hS (wn rfl) rfl rfl rfl (v := .int .i64 x1) (aop_move (hS.lk rfl)) fun s hS => ?_
    refine q_pu hS (wn rfl) rfl rfl rfl (v := .bool (decide (x1 > 0))) (aop_int (hS.lk rfl) (hS.lk rfl) rfl) fun s hS => ?_
    refine q_pu hS (wn rfl) rfl rfl rfl (v := .bool (decide (x1 > 0))) (aop_move (hS.lk rfl)) fun s hS => ?_
    obtain ⟨z5, hz5, h4⟩ := bind_some h4
    refine q_cut 10 (fun s => Stt EV s [(17, .bool z5), (0, .pointer (some ⟨ip0_1, 0, none⟩)), (1, .int .i64 x1), (4, .int .i64 0)] [[(ip0_1, .row [strV p0_1, .slice ap0_4 p0_2.length zp0_5, .slice ap0_9 p0_7.length zp0_10, .slice ap0_14 p0_12.length zp0_15, .slice ap0_19 p0_17.length zp0_20] 86 0 true)], Bp0_7, Bp0_12, Bp0_17, Bp0_22] F L F nx0) ?_ fun s hS => ?_
    ·
      rcases bool_cases ((decide (x1 > 0))) with hc6 | hc6
      · rw [ite_t hc6] at hz5
        replace hS := hS.know (t := 6) rfl (congrArg Value.bool hc6)
        replace hS := hS.know (t := 7) rfl (congrArg Value.bool hc6)
        refine q_pu hS (wt hS rfl rfl rfl rfl) rfl rfl rfl (v := .pointer (some ⟨ip0_1, 0, none⟩)) (aop_move (hS.lk rfl)) fun s hS => ?_
        refine q_pu hS (wt hS rfl rfl rfl rfl) rfl rfl rfl (v := .pointer (some ⟨ip0_1, 0, none⟩)) (aop_nilp (hS.lk rfl)) fun s hS => ?_
        refine q_pu hS (wt hS rfl rfl rfl rfl) rfl rfl rfl (v := .pointer (some ⟨ip0_1, 3, none⟩)) (aop_fa (hS.lk rfl) tf86_3 rfl rfl) fun s hS => ?_
        refine q_ld hS (wt hS rfl rfl rfl rfl) rfl rfl rfl (hS.at (k := 0) rfl) tg84 (v := .slice ap0_14 p0_12.length zp0_15) rfl fun s hS => ?_
        refine q_pu hS (wt hS rfl rfl rfl rfl) rfl rfl rfl (v := .int .i64 x1) (aop_move (hS.lk rfl)) fun s hS => ?_
        refine q_pu hS (wt hS rfl rfl rfl rfl) rfl rfl rfl (v := .int .i64 (w64 (x1 - 1))) (aop_int (hS.lk rfl) (hS.lk rfl) rfl) fun s hS => ?_
        obtain ⟨hk7, hz5⟩ := ite_some hz5
        obtain ⟨i13, cs14, ex15, rfl, rfl, rfl, hC16⟩ := Own.some_ hp0_16 (by omega)
        obtain ⟨c8, hR9, hN11, hN10, hT12⟩ := Cells.loadF hC16 ex15 hk7 (z := 1) rfl
        obtain rfl := hR9
        refine q_pu hS (wt hS rfl rfl rfl rfl) rfl rfl rfl (v := .pointer (some ⟨i13, 0 + ((w64 (x1 - 1))).toNat * 1, none⟩)) (aop_ia (hS.lk rfl) (hS.lk rfl) te84 hk7) fun s hS => ?_
        refine q_ld hS (wt hS rfl rfl rfl rfl) rfl rfl rfl (hS.at (k := 3) rfl) tg4 (v := .bool (gt p0_12 (w64 (x1 - 1)))) hN10 fun s hS => ?_
        refine q_pu hS (wt hS rfl rfl rfl rfl) rfl rfl rfl (v := .bool (!(gt p0_12 (w64 (x1 - 1))))) (aop_not (hS.lk rfl)) fun s hS => ?_
        refine q_pu hS (wn rfl) rfl rfl rfl (v := .bool (!(gt p0_12 (w64 (x1 - 1))))) (aop_pickT (hS.lk rfl) (hS.lk rfl)) fun s hS => ?_
        refine KW.nil ?_
        obtain rfl := Option.some.inj hz5
        exact hS.sub (.c rfl (.c rfl (.c rfl (.c rfl .n))))
      · rw [ite_f hc6] at hz5
        replace hS := hS.know (t := 6) rfl (congrArg Value.bool hc6)
        replace hS := hS.know (t := 7) rfl (congrArg Value.bool hc6)
        refine q_no hS (wf hS rfl rfl rfl rfl) rfl fun s hS => ?_
        refine q_no hS (wf hS rfl rfl rfl rfl) rfl fun s hS => ?_
        refine q_no hS (wf hS rfl rfl rfl rfl) rfl fun s hS => ?_
        refine q_no hS (wf hS rfl rfl rfl rfl) rfl fun s hS => ?_
        refine q_no hS (wf hS rfl rfl rfl rfl) rfl fun s hS => ?_
        refine q_no hS (wf hS rfl rfl rfl rfl) rfl fun s hS => ?_
        refine q_no hS (wf hS rfl rfl rfl rfl) rfl fun s hS => ?_
        refine q_no hS (wf hS rfl rfl rfl rfl) rfl fun s hS => ?_
        refine q_no hS (wf hS rfl rfl rfl rfl) rfl fun s hS => ?_
        refine q_pu hS (wn rfl) rfl rfl rfl (v := .bool false) (aop_pickF (hS.lk rfl) (hS.lk rfl)) fun s hS => ?_
        refine KW.nil ?_
        obtain rfl := Option.some.inj hz5
        exact hS.sub (.c rfl (.c rfl (.c rfl (.c rfl .n))))
    refine q_pu hS (wn rfl) rfl rfl rfl (v := .bool z5) (aop_move (hS.lk rfl)) fun s hS => ?_
    obtain ⟨z17, hz17, h4⟩ := bind_some h4
    refine q_cut 10 (fun s => Stt EV s [(28, .bool z17), (0, .pointer (some ⟨ip0_1, 0, none⟩)), (1, .int .i64 x1), (4, .int .i64 0)] [[(ip0_1, .row [strV p0_1, .slice ap0_4 p0_2.length zp0_5, .slice ap0_9 p0_7.length zp0_10, .slice ap0_14 p0_12.length zp0_15, .slice ap0_19 p0_17.length zp0_20] 86 0 true)], Bp0_7, Bp0_12, Bp0_17, Bp0_22] F L F nx0) ?_ fun s hS => ?_
    ·
      rcases bool_cases (z5) with hc18 | hc18
      · rw [ite_t hc18] at hz17
        replace hS := hS.know (t := 17) rfl (congrArg Value.bool hc18)
        replace hS := hS.know (t := 18) rfl (congrArg Value.bool hc18)
        refine q_pu hS (wt hS rfl rfl rfl rfl) rfl rfl rfl (v := .pointer (some ⟨ip0_1, 0, none⟩)) (aop_move (hS.lk rfl)) fun s hS => ?_
        refine q_pu hS (wt hS rfl rfl rfl rfl) rfl rfl rfl (v := .pointer (some ⟨ip0_1, 0, none⟩)) (aop_nilp (hS.lk rfl)) fun s hS => ?_
        refine q_pu hS (wt hS rfl rfl rfl rfl) rfl rfl rfl (v := .pointer (some ⟨ip0_1, 1, none⟩)) (aop_fa (hS.lk rfl) tf86_1 rfl rfl) fun s hS => ?_
        refine q_ld hS (wt hS rfl rfl rfl rfl) rfl rfl rfl (hS.at (k := 0) rfl) tg83 (v := .slice ap0_4 p0_2.length zp0_5) rfl fun s hS => ?_
        refine q_pu hS (wt hS rfl rfl rfl rfl) rfl rfl rfl (v := .int .i64 x1) (aop_move (hS.lk rfl)) fun s hS => ?_
        refine q_pu hS (wt hS rfl rfl rfl rfl) rfl rfl rfl (v := .int .i64 (w64 (x1 - 1))) (aop_int (hS.lk rfl) (hS.lk rfl) rfl) fun s hS => ?_
        obtain ⟨hk19, hz17⟩ := ite_some hz17
        obtain ⟨i25, cs26, ex27, rfl, rfl, rfl, hC28⟩ := Own.some_ hp0_6 (by omega)
        obtain ⟨c20, hR21, hN23, hN22, hT24⟩ := Cells.loadF hC28 ex27 hk19 (z := 1) rfl
        obtain rfl := hR21
        refine q_pu hS (wt hS rfl rfl rfl rfl) rfl rfl rfl (v := .pointer (some ⟨i25, 0 + ((w64 (x1 - 1))).toNat * 1, none⟩)) (aop_ia (hS.lk rfl) (hS.lk rfl) te83 hk19) fun s hS => ?_
        refine q_ld hS (wt hS rfl rfl rfl rfl) rfl rfl rfl (hS.at (k := 1) rfl) tg5 (v := vB (gt p0_2 (w64 (x1 - 1)))) hN22 fun s hS => ?_
        obtain ⟨y29, hy29, hz17⟩ := bind_some hz17
        refine q_cl hS (wt hS rfl rfl rfl rfl) (vs := [vB (gt p0_2 (w64 (x1 - 1)))]) (ws := [vB (gt p0_2 (w64 (x1 - 1)))]) rfl rfl rfl rfl rfl 0 rfl (g_source_isDigit.ok hy29) fun s v S' F' hp30 hF hS => ?_
        obtain ⟨rfl, rfl, rfl⟩ := hp30
        refine q_pu hS (wn rfl) rfl rfl rfl (v := .bool y29) (aop_pickT (hS.lk rfl) (hS.lk rfl)) fun s hS => ?_
        refine KW.nil ?_
        obtain rfl := Option.some.inj hz17
        exact hS.sub (.c rfl (.c rfl (.c rfl (.c rfl .n))))
      · rw [ite_f hc18] at hz17
        replace hS := hS.know (t := 17) rfl (congrArg Value.bool hc18)
        replace hS := hS.know (t := 18) rfl (congrArg Value.bool hc18)
        refine q_no hS (wf hS rfl rfl rfl rfl) rfl fun s hS => ?_
        refine q_no hS (wf hS rfl rfl rfl rfl) rfl fun s hS => ?_
        refine q_no hS (wf hS rfl rfl rfl rfl) rfl fun s hS => ?_
        refine q_no hS (wf hS rfl rfl rfl rfl) rfl fun s hS => ?_
        refine q_no hS (wf hS rfl rfl rfl rfl) rfl fun s hS => ?_
        refine q_no hS (wf hS rfl rfl rfl rfl) rfl fun s hS => ?_
        refine q_no hS (wf hS rfl rfl rfl rfl) rfl fun s hS => ?_
        refine q_no hS (wf hS rfl rfl rfl rfl) rfl fun s hS => ?_
        refine q_no hS (wf hS rfl rfl rfl rfl) rfl fun s hS => ?_
        refine q_pu hS (wn rfl) rfl rfl rfl (v := .bool false) (aop_pickF (hS.lk rfl) (hS.lk rfl)) fun s hS => ?_
        refine KW.nil ?_
        obtain rfl := Option.some.inj hz17
        exact hS.sub (.c rfl (.c rfl (.c rfl (.c rfl .n))))
    refine KW.nil ?_
    rcases bool_cases (z17) with hc31 | hc31
    · rw [ite_t hc31] at h4
      replace hS := hS.know (t := 28) rfl (congrArg Value.bool hc31)
      refine WW.condK hS rfl rfl ?_
      refine WW.skip ?_
      refine WW.block ?_
      refine WW.region ?_
      refine q_pu hS (wn rfl) rfl rfl rfl (v := .int .i64 x1) (aop_move (hS.lk rfl)) fun s hS => ?_
      refine q_pu hS (wn rfl) rfl rfl rfl (v := .int .i64 (w64 (x1 - 1))) (aop_int (hS.lk rfl) (hS.lk rfl) rfl) fun s hS => ?_
      refine q_pu hS (wn rfl) rfl rfl rfl (v := .int .i64 (w64 (x1 - 1))) (aop_assign (hS.lk rfl)) fun s hS => ?_
      refine KW.nil ?_
      obtain rfl := Option.some.inj h4
      exact ⟨_, rfl, (hS.sub (.c rfl (.c rfl (.c rfl .n))))⟩
    · rw [ite_f hc31] at h4
      replace hS := hS.know (t := 28) rfl (congrArg Value.bool hc31)
      refine WW.condF hS rfl rfl ?_
      refine WW.exit ?_
      refine thenQ_exit ?_
      obtain rfl := Option.some.inj h4
      exact ⟨_, rfl, rfl, (hS.sub (.c rfl (.c rfl (.c rfl .n))))⟩
  · clear hS
    rintro e s ⟨rfl, hS⟩
    refine blockQ_exit ?_
    refine WW.seq ?_
    refine WW.region ?_
    refine q_pu hS (wn rfl) rfl rfl rfl (v := .int .i64 o2) (aop_move (hS.lk rfl)) fun s hS => ?_
    refine q_pu hS (wn rfl) rfl rfl rfl (v := .int .i64 o2) (aop_assign (hS.lk rfl)) fun s hS => ?_
    refine KW.nil ?_
    refine WW.ret ?_
    have hres := (res_tmp hS (t := 4) (v := .int .i64 o2) rfl (res_nil (E := EV) (s := s)))
    obtain rfl := Option.some.inj h
    exact fin hS (.inr rfl) hres (v := .int .i64 o2) rfl ⟨rfl, rfl, rfl⟩
/-! ### (*formulary/source.squeezer).isBefore (145) -/
noncomputable def g_source_squeezer_isBefore.f (p0_2 : List UInt8) (p0_12 : List Bool) (p1_0 : Int) (p2_0 : List UInt8) : Option (Bool) :=
  Option.bind ((if (decide (p1_0 > 0)) then (if 0 ≤ (w64 (p1_0 - 1)) ∧ (w64 (p1_0 - 1)) < (p0_12.length : Int) then some (!(gt p0_12 (w64 (p1_0 - 1)))) else none) else some false)) fun z1 => Option.bind ((if z1 then (if 0 ≤ (w64 (p1_0 - 1)) ∧ (w64 (p1_0 - 1)) < (p0_2.length : Int) then Option.bind (g_strings_IndexByte.f p2_0 (gt p0_2 (w64 (p1_0 - 1)))) fun y25 => some (decide (y25 ≥ 0)) else none) else some false)) fun z13 => some z13
set_option maxHeartbeats 4000000 in
theorem g_source_squeezer_isBefore.ok {ip0_1 : Nat} {ap0_4 : Option Addr} {zp0_5 : Nat} {Bp0_7 : Seg} {ap0_9 : Option Addr} {zp0_10 : Nat} {Bp0_12 : Seg} {ap0_14 : Option Addr} {zp0_15 : Nat} {Bp0_17 : Seg} {ap0_19 : Option Addr} {zp0_20 : Nat} {Bp0_22 : Seg} {p0_1 : List UInt8} {p0_2 : List UInt8} {p0_7 : List Int} {p0_12 : List Bool} {p0_17 : List (Int × Int)} {p1_0 : Int} {p2_0 : List UInt8} {F : FZ} {r : Bool} (h : g_source_squeezer_isBefore.f p0_2 p0_12 p1_0 p2_0 = some r) (hp0_6 : Own (elB 5) F ap0_4 zp0_5 p0_2 Bp0_7) (hp0_16 : Own (elBool 4) F ap0_14 zp0_15 p0_12 Bp0_17) :
    Cl EV 145 [.pointer (some ⟨ip0_1, 0, none⟩), .int .i64 p1_0, strV p2_0] [[(ip0_1, .row [strV p0_1, .slice ap0_4 p0_2.length zp0_5, .slice ap0_9 p0_7.length zp0_10, .slice ap0_14 p0_12.length zp0_15, .slice ap0_19 p0_17.length zp0_20] 86 0 true)], Bp0_7, Bp0_12, Bp0_17, Bp0_22] F (fun v S' F' => F = F' ∧ v = .bool r ∧ S' = [[(ip0_1, .row [strV p0_1, .slice ap0_4 p0_2.length zp0_5, .slice ap0_9 p0_7.length zp0_10, .slice ap0_14 p0_12.length zp0_15, .slice ap0_19 p0_17.length zp0_20] 86 0 true)], Bp0_7, Bp0_12, Bp0_17, Bp0_22]) := by
  refine Cl.of Tryz.func145 rfl (fun _ _ => rfl) (by kernel_rfl) fun s L nx0 hS => ?_
  unfold g_source_squeezer_isBefore.f at h
  refine WW.seq ?_
  refine WW.region ?_
  refine q_pu hS (wn rfl) rfl rfl rfl (v := .bool false) (aop_assign (hS.lk rfl)) fun s hS => ?_
  refine KW.nil ?_
  refine WW.seq ?_
  refine WW.region ?_
  refine q_pu hS (wn rfl) rfl rfl rfl (v := .int .i64 p1_0) (aop_move (hS.lk rfl)) fun s hS => ?_
  refine q_pu hS (wn rfl) rfl rfl rfl (v := .bool (decide (p1_0 > 0))) (aop_int (hS.lk rfl) (hS.lk rfl) rfl) fun s hS => ?_
  refine q_pu hS (wn rfl) rfl rfl rfl (v := .bool (decide (p1_0 > 0))) (aop_move (hS.lk rfl)) fun s hS => ?_
  obtain ⟨z1, hz1, h⟩ := bind_some h
  refine q_cut 10 (fun s => Stt EV s [(19, .bool z1), (0, .pointer (some ⟨ip0_1, 0, none⟩)), (1, .int .i64 p1_0), (2, strV p2_0), (6, .bool false)] [[(ip0_1, .row [strV p0_1, .slice ap0_4 p0_2.length zp0_5, .slice ap0_9 p0_7.length zp0_10, .slice ap0_14 p0_12.length zp0_15, .slice ap0_19 p0_17.length zp0_20] 86 0 true)], Bp0_7, Bp0_12, Bp0_17, Bp0_22] F L F nx0) ?_ fun s hS => ?_
  ·
    rcases bool_cases ((decide (p1_0 > 0))) with hc2 | hc2
    · rw [ite_t hc2] at hz1
      replace hS := hS.know (t := 8) rfl (congrArg Value.bool hc2)
      replace hS := hS.know (t := 9) rfl (congrArg Value.bool hc2)
      refine q_pu hS (wt hS rfl rfl rfl rfl) rfl rfl rfl (v := .pointer (some ⟨ip0_1, 0, none⟩)) (aop_move (hS.lk rfl)) fun s hS => ?_
      refine q_pu hS (wt hS rfl rfl rfl rfl) rfl rfl rfl (v := .pointer (some ⟨ip0_1, 0, none⟩)) (aop_nilp (hS.lk rfl)) fun s hS => ?_
      refine q_pu hS (wt hS rfl rfl rfl rfl) rfl rfl rfl (v := .pointer (some ⟨ip0_1, 3, none⟩)) (aop_fa (hS.lk rfl) tf86_3 rfl rfl) fun s hS => ?_
      refine q_ld hS (wt hS rfl rfl rfl rfl) rfl rfl rfl (hS.at (k := 0) rfl) tg84 (v := .slice ap0_14 p0_12.length zp0_15) rfl fun s hS => ?_
      refine q_pu hS (wt hS rfl rfl rfl rfl) rfl rfl rfl (v := .int .i64 p1_0) (aop_move (hS.lk rfl)) fun s hS => ?_
      refine q_pu hS (wt hS rfl rfl rfl rfl) rfl rfl rfl (v := .int .i64 (w64 (p1_0 - 1))) (aop_int (hS.lk rfl) (hS.lk rfl) rfl) fun s hS => ?_
      obtain ⟨hk3, hz1⟩ := ite_some hz1
      obtain ⟨i9, cs10, ex11, rfl, rfl, rfl, hC12⟩ := Own.some_ hp0_16 (by omega)
      obtain ⟨c4, hR5, hN7, hN6, hT8⟩ := Cells.loadF hC12 ex11 hk3 (z := 1) rfl
      obtain rfl := hR5
      refine q_pu hS (wt hS rfl rfl rfl rfl) rfl rfl rfl (v := .pointer (some ⟨i9, 0 + ((w64 (p1_0 - 1))).toNat * 1, none⟩)) (aop_ia (hS.lk rfl) (hS.lk rfl) te84 hk3) fun s hS => ?_
      refine q_ld hS (wt hS rfl rfl rfl rfl) rfl rfl rfl (hS.at (k := 3) rfl) tg4 (v := .bool (gt p0_12 (w64 (p1_0 - 1)))) hN6 fun s hS => ?_
      refine q_pu hS (wt hS rfl rfl rfl rfl) rfl rfl rfl (v := .bool (!(gt p0_12 (w64 (p1_0 - 1))))) (aop_not (hS.lk rfl)) fun s hS => ?_
      refine q_pu hS (wn rfl) rfl rfl rfl (v := .bool (!(gt p0_12 (w64 (p1_0 - 1))))) (aop_pickT (hS.lk rfl) (hS.lk rfl)) fun s hS => ?_
      refine KW.nil ?_
      obtain rfl := Option.some.inj hz1
      exact hS.sub (.c rfl (.c rfl (.c rfl (.c rfl (.c rfl .n)))))
    · rw [ite_f hc2] at hz1
      replace hS := hS.know (t := 8) rfl (congrArg Value.bool hc2)
      replace hS := hS.know (t := 9) rfl (congrArg Value.bool hc2)
      refine q_no hS (wf hS rfl rfl rfl rfl) rfl fun s hS => ?_
      refine q_no hS (wf hS rfl rfl rfl rfl) rfl fun s hS => ?_
      refine q_no hS (wf hS rfl rfl rfl rfl) rfl fun s hS => ?_
      refine q_no hS (wf hS rfl rfl rfl rfl) rfl fun s hS => ?_
      refine q_no hS (wf hS rfl rfl rfl rfl) rfl fun s hS => ?_
      refine q_no hS (wf hS rfl rfl rfl rfl) rfl fun s hS => ?_
      refine q_no hS (wf hS rfl rfl rfl rfl) rfl fun s hS => ?_
      refine q_no hS (wf hS rfl rfl rfl rfl) rfl fun s hS => ?_
      refine q_no hS (wf hS rfl rfl rfl rfl) rfl fun s hS => ?_
      refine q_pu hS (wn rfl) rfl rfl rfl (v := .bool false) (aop_pickF (hS.lk rfl) (hS.lk rfl)) fun s hS => ?_
      refine KW.nil ?_
      obtain rfl := Option.some.inj hz1
      exact hS.sub (.c rfl (.c rfl (.c rfl (.c rfl (.c rfl .n)))))
  refine q_pu hS (wn rfl) rfl rfl rfl (v := .bool z1) (aop_move (hS.lk rfl)) fun s hS => ?_
  obtain ⟨z13, hz13, h⟩ := bind_some h
  refine q_cut 12 (fun s => Stt EV s [(32, .bool z13), (6, .bool false)] [[(ip0_1, .row [strV p0_1, .slice ap0_4 p0_2.length zp0_5, .slice ap0_9 p0_7.length zp0_10, .slice ap0_14 p0_12.length zp0_15, .slice ap0_19 p0_17.length zp0_20] 86 0 true)], Bp0_7, Bp0_12, Bp0_17, Bp0_22] F L F nx0) ?_ fun s hS => ?_
  ·
    rcases bool_cases (z1) with hc14 | hc14
    · rw [ite_t hc14] at hz13
      replace hS := hS.know (t := 19) rfl (congrArg Value.bool hc14)
      replace hS := hS.know (t := 20) rfl (congrArg Value.bool hc14)
      refine q_pu hS (wt hS rfl rfl rfl rfl) rfl rfl rfl (v := strV p2_0) (aop_move (hS.lk rfl)) fun s hS => ?_
      refine q_pu hS (wt hS rfl rfl rfl rfl) rfl rfl rfl (v := .pointer (some ⟨ip0_1, 0, none⟩)) (aop_move (hS.lk rfl)) fun s hS => ?_
      refine q_pu hS (wt hS rfl rfl rfl rfl) rfl rfl rfl (v := .pointer (some ⟨ip0_1, 0, none⟩)) (aop_nilp (hS.lk rfl)) fun s hS => ?_
      refine q_pu hS (wt hS rfl rfl rfl rfl) rfl rfl rfl (v := .pointer (some ⟨ip0_1, 1, none⟩)) (aop_fa (hS.lk rfl) tf86_1 rfl rfl) fun s hS => ?_
      refine q_ld hS (wt hS rfl rfl rfl rfl) rfl rfl rfl (hS.at (k := 0) rfl) tg83 (v := .slice ap0_4 p0_2.length zp0_5) rfl fun s hS => ?_
      refine q_pu hS (wt hS rfl rfl rfl rfl) rfl rfl rfl (v := .int .i64 p1_0) (aop_move (hS.lk rfl)) fun s hS => ?_
      refine q_pu hS (wt hS rfl rfl rfl rfl) rfl rfl rfl (v := .int .i64 (w64 (p1_0 - 1))) (aop_int (hS.lk rfl) (hS.lk rfl) rfl) fun s hS => ?_
      obtain ⟨hk15, hz13⟩ := ite_some hz13
      obtain ⟨i21, cs22, ex23, rfl, rfl, rfl, hC24⟩ := Own.some_ hp0_6 (by omega)
      obtain ⟨c16, hR17, hN19, hN18, hT20⟩ := Cells.loadF hC24 ex23 hk15 (z := 1) rfl
      obtain rfl := hR17
      refine q_pu hS (wt hS rfl rfl rfl rfl) rfl rfl rfl (v := .pointer (some ⟨i21, 0 + ((w64 (p1_0 - 1))).toNat * 1, none⟩)) (aop_ia (hS.lk rfl) (hS.lk rfl) te83 hk15) fun s hS => ?_
      refine q_ld hS (wt hS rfl rfl rfl rfl) rfl rfl rfl (hS.at (k := 1) rfl) tg5 (v := vB (gt p0_2 (w64 (p1_0 - 1)))) hN18 fun s hS => ?_
      obtain ⟨y25, hy25, hz13⟩ := bind_some hz13
      refine q_cl hS (wt hS rfl rfl rfl rfl) (vs := [strV p2_0, vB (gt p0_2 (w64 (p1_0 - 1)))]) (ws := [strV p2_0, vB (gt p0_2 (w64 (p1_0 - 1)))]) rfl rfl rfl rfl rfl 0 rfl (g_strings_IndexByte.ok hy25) fun s v S' F' hp26 hF hS => ?_
      obtain ⟨rfl, rfl, rfl⟩ := hp26
      refine q_pu hS (wt hS rfl rfl rfl rfl) rfl rfl rfl (v := .bool (decide (y25 ≥ 0))) (aop_int (hS.lk rfl) (hS.lk rfl) rfl) fun s hS => ?_
      refine q_pu hS (wn rfl) rfl rfl rfl (v := .bool (decide (y25 ≥ 0))) (aop_pickT (hS.lk rfl) (hS.lk rfl)) fun s hS => ?_
      refine KW.nil ?_
      obtain rfl := Option.some.inj hz13
      exact hS.sub (.c rfl (.c rfl .n))
    · rw [ite_f hc14] at hz13
      replace hS := hS.know (t := 19) rfl (congrArg Value.bool hc14)
      replace hS := hS.know (t := 20) rfl (congrArg Value.bool hc14)
      refine q_no hS (wf hS rfl rfl rfl rfl) rfl fun s hS => ?_
      refine q_no hS (wf hS rfl rfl rfl rfl) rfl fun s hS => ?_
      refine q_no hS (wf hS rfl rfl rfl rfl) rfl fun s hS => ?_
      refine q_no hS (wf hS rfl rfl rfl rfl) rfl fun s hS => ?_
      refine q_no hS (wf hS rfl rfl rfl rfl) rfl fun s hS => ?_
      refine q_no hS (wf hS rfl rfl rfl rfl) rfl fun s hS => ?_
      refine q_no hS (wf hS rfl rfl rfl rfl) rfl fun s hS => ?_
      refine q_no hS (wf hS rfl rfl rfl rfl) rfl fun s hS => ?_
      refine q_no hS (wf hS rfl rfl rfl rfl) rfl fun s hS => ?_
      refine q_no hS (wf hS rfl rfl rfl rfl) rfl fun s hS => ?_
      refine q_no hS (wf hS rfl rfl rfl rfl) rfl fun s hS => ?_
      refine q_pu hS (wn rfl) rfl rfl rfl (v := .bool false) (aop_pickF (hS.lk rfl) (hS.lk rfl)) fun s hS => ?_
      refine KW.nil ?_
      obtain rfl := Option.some.inj hz13
      exact hS.sub (.c rfl (.c rfl .n))
  refine q_pu hS (wn rfl) rfl rfl rfl (v := .bool z13) (aop_assign (hS.lk rfl)) fun s hS => ?_
  refine KW.nil ?_
  refine WW.ret ?_
  have hres := (res_tmp hS (t := 6) (v := .bool z13) rfl (res_nil (E := EV) (s := s)))
  obtain rfl := Option.some.inj h
  exact fin hS (.inr rfl) hres (v := .bool z13) rfl ⟨rfl, rfl, rfl⟩
/-! ### (*formulary/source.squeezer).hollerith (116) -/
noncomputable def g_source_squeezer_hollerith.f (p0_2 : List UInt8) (p0_12 : List Bool) : Option (Int × Bool) :=
  Option.bind (g_source_squeezer_digits.f p0_2 p0_12 (p0_2.length : Int)) fun y1 => (if (y1 == (p0_2.length : Int)) then some (0, false) else Option.bind (g_source_squeezer_isBefore.f p0_2 p0_12 y1 ([40, 44, 47, 61])) fun y4 => (if y4 then some (y1, true) else Option.bind (g_source_squeezer_isBefore.f p0_2 p0_12 y1 ([42])) fun y7 => (if (!y7) then some (0, false) else Option.bind (g_source_squeezer_digits.f p0_2 p0_12 (w64 (y1 - 1))) fun y10 => Option.bind ((if (decide (y10 < (w64 (y1 - 1)))) then Option.bind (g_source_squeezer_isBefore.f p0_2 p0_12 y10 ([40, 44, 47, 61])) fun y14 => some y14 else some false)) fun z12 => some (y1, z12))))
set_option maxHeartbeats 4000000 in
theorem g_source_squeezer_hollerith.ok {ip0_1 : Nat} {ap0_4 : Option Addr} {zp0_5 : Nat} {Bp0_7 : Seg} {ap0_9 : Option Addr} {zp0_10 : Nat} {Bp0_12 : Seg} {ap0_14 : Option Addr} {zp0_15 : Nat} {Bp0_17 : Seg} {ap0_19 : Option Addr} {zp0_20 : Nat} {Bp0_22 : Seg} {p0_1 : List UInt8} {p0_2 : List UInt8} {p0_7 : List Int} {p0_12 : List Bool} {p0_17 : List (Int × Int)} {F : FZ} {r : Int × Bool} (h : g_source_squeezer_hollerith.f p0_2 p0_12 = some r) (hp0_6 : Own (elB 5) F ap0_4 zp0_5 p0_2 Bp0_7) (hp0_16 : Own (elBool 4) F ap0_14 zp0_15 p0_12 Bp0_17) :
    Cl EV 116 [.pointer (some ⟨ip0_1, 0, none⟩)] [[(ip0_1, .row [strV p0_1, .slice ap0_4 p0_2.length zp0_5, .slice ap0_9 p0_7.length zp0_10, .slice ap0_14 p0_12.length zp0_15, .slice ap0_19 p0_17.length zp0_20] 86 0 true)], Bp0_7, Bp0_12, Bp0_17, Bp0_22] F (fun v S' F' => F = F' ∧ v = .tuple #[.int .i64 r.1, .bool r.2] ∧ S' = [[(ip0_1, .row [strV p0_1, .slice ap0_4 p0_2.length zp0_5, .slice ap0_9 p0_7.length zp0_10, .slice ap0_14 p0_12.length zp0_15, .slice ap0_19 p0_17.length zp0_20] 86 0 true)], Bp0_7, Bp0_12, Bp0_17, Bp0_22]) := by
  refine Cl.of Tryz.func116 rfl (fun _ _ => rfl) (by kernel_rfl) fun s L nx0 hS => ?_
  unfold g_source_squeezer_hollerith.f at h
  refine WW.seq ?_
  refine WW.region ?_
  refine q_pu hS (wn rfl) rfl rfl rfl (v := .int .i64 0) (aop_assign (hS.lk rfl)) fun s hS => ?_
  refine q_pu hS (wn rfl) rfl rfl rfl (v := .bool false) (aop_assign (hS.lk rfl)) fun s hS => ?_
  refine KW.nil ?_
  refine WW.seq ?_
  refine WW.region ?_
  refine q_pu hS (wn rfl) rfl rfl rfl (v := .pointer (some ⟨ip0_1, 0, none⟩)) (aop_move (hS.lk rfl)) fun s hS => ?_
  refine q_pu hS (wn rfl) rfl rfl rfl (v := .pointer (some ⟨ip0_1, 0, none⟩)) (aop_nilp (hS.lk rfl)) fun s hS => ?_
  refine q_pu hS (wn rfl) rfl rfl rfl (v := .pointer (some ⟨ip0_1, 1, none⟩)) (aop_fa (hS.lk rfl) tf86_1 rfl rfl) fun s hS => ?_
  refine q_ld hS (wn rfl) rfl rfl rfl (hS.at (k := 0) rfl) tg83 (v := .slice ap0_4 p0_2.length zp0_5) rfl fun s hS => ?_
  refine q_pu hS (wn rfl) rfl rfl rfl (v := .int .i64 (p0_2.length : Int)) (aop_lenSl rfl rfl tu83 (hS.lk rfl)) fun s hS => ?_
  refine q_pu hS (wn rfl) rfl rfl rfl (v := .int .i64 (p0_2.length : Int)) (aop_assign (hS.lk rfl)) fun s hS => ?_
  refine KW.nil ?_
  refine WW.seq ?_
  refine WW.region ?_
  refine q_pu hS (wn rfl) rfl rfl rfl (v := .pointer (some ⟨ip0_1, 0, none⟩)) (aop_move (hS.lk rfl)) fun s hS => ?_
  refine q_pu hS (wn rfl) rfl rfl rfl (v := .int .i64 (p0_2.length : Int)) (aop_move (hS.lk rfl)) fun s hS => ?_
  obtain ⟨y1, hy1, h⟩ := bind_some h
  refine q_cl hS (wn rfl) (vs := [.pointer (some ⟨ip0_1, 0, none⟩), .int .i64 (p0_2.length : Int)]) (ws := [.pointer (some ⟨ip0_1, 0, none⟩), .int .i64 (p0_2.length : Int)]) rfl rfl rfl rfl rfl 5 rfl (g_source_squeezer_digits.ok hy1 hp0_6 hp0_16) fun s v S' F' hp2 hF hS => ?_
  obtain ⟨rfl, rfl, rfl⟩ := hp2
  refine q_pu hS (wn rfl) rfl rfl rfl (v := .int .i64 y1) (aop_assign (hS.lk rfl)) fun s hS => ?_
  refine KW.nil ?_
  refine WW.seq ?_
  refine WW.seq ?_
  refine WW.region ?_
  refine q_pu hS (wn rfl) rfl rfl rfl (v := .int .i64 y1) (aop_move (hS.lk rfl)) fun s hS => ?_
  refine q_pu hS (wn rfl) rfl rfl rfl (v := .int .i64 (p0_2.length : Int)) (aop_move (hS.lk rfl)) fun s hS => ?_
  refine q_pu hS (wn rfl) rfl rfl rfl (v := .bool (y1 == (p0_2.length : Int))) (aop_int (hS.lk rfl) (hS.lk rfl) rfl) fun s hS => ?_
  refine KW.nil ?_
  rcases bool_cases ((y1 == (p0_2.length : Int))) with hc3 | hc3
  · rw [ite_t hc3] at h
    replace hS := hS.know (t := 17) rfl (congrArg Value.bool hc3)
    refine WW.condK hS rfl rfl ?_
    refine WW.seq ?_
    refine WW.region ?_
    refine q_pu hS (wn rfl) rfl rfl rfl (v := .int .i64 0) (aop_assign (hS.lk rfl)) fun s hS => ?_
    refine q_pu hS (wn rfl) rfl rfl rfl (v := .bool false) (aop_assign (hS.lk rfl)) fun s hS => ?_
    refine KW.nil ?_
    refine WW.ret ?_
    have hres := (res_tmp hS (t := 2) (v := .int .i64 0) rfl (res_tmp hS (t := 3) (v := .bool false) rfl (res_nil (E := EV) (s := s))))
    obtain rfl := Option.some.inj h
    exact fin hS (.inr rfl) hres (v := .tuple #[.int .i64 0, .bool false]) rfl ⟨rfl, rfl, rfl⟩
  · rw [ite_f hc3] at h
    replace hS := hS.know (t := 17) rfl (congrArg Value.bool hc3)
    refine WW.condF hS rfl rfl ?_
    refine WW.skip ?_
    refine WW.seq ?_
    refine WW.seq ?_
    refine WW.region ?_
    refine q_pu hS (wn rfl) rfl rfl rfl (v := .pointer (some ⟨ip0_1, 0, none⟩)) (aop_move (hS.lk rfl)) fun s hS => ?_
    refine q_pu hS (wn rfl) rfl rfl rfl (v := .int .i64 y1) (aop_move (hS.lk rfl)) fun s hS => ?_
    obtain ⟨y4, hy4, h⟩ := bind_some h
    refine q_cl hS (wn rfl) (vs := [.pointer (some ⟨ip0_1, 0, none⟩), .int .i64 y1, strV ([40, 44, 47, 61])]) (ws := [.pointer (some ⟨ip0_1, 0, none⟩), .int .i64 y1, strV ([40, 44, 47, 61])]) rfl rfl rfl rfl rfl 5 rfl (g_source_squeezer_isBefore.ok hy4 hp0_6 hp0_16) fun s v S' F' hp5 hF hS => ?_
    obtain ⟨rfl, rfl, rfl⟩ := hp5
    refine KW.nil ?_
    rcases bool_cases (y4) with hc6 | hc6
    · rw [ite_t hc6] at h
      replace hS := hS.know (t := 20) rfl (congrArg Value.bool hc6)
      refine WW.condK hS rfl rfl ?_
      refine WW.seq ?_
      refine WW.region ?_
      refine q_pu hS (wn rfl) rfl rfl rfl (v := .int .i64 y1) (aop_move (hS.lk rfl)) fun s hS => ?_
      refine q_pu hS (wn rfl) rfl rfl rfl (v := .int .i64 y1) (aop_assign (hS.lk rfl)) fun s hS => ?_
      refine q_pu hS (wn rfl) rfl rfl rfl (v := .bool true) (aop_assign (hS.lk rfl)) fun s hS => ?_
      refine KW.nil ?_
      refine WW.ret ?_
      have hres := (res_tmp hS (t := 2) (v := .int .i64 y1) rfl (res_tmp hS (t := 3) (v := .bool true) rfl (res_nil (E := EV) (s := s))))
      obtain rfl := Option.some.inj h
      exact fin hS (.inr rfl) hres (v := .tuple #[.int .i64 y1, .bool true]) rfl ⟨rfl, rfl, rfl⟩
    · rw [ite_f hc6] at h
      replace hS := hS.know (t := 20) rfl (congrArg Value.bool hc6)
      refine WW.condF hS rfl rfl ?_
      refine WW.skip ?_
      refine WW.seq ?_
      refine WW.seq ?_
      refine WW.region ?_
      refine q_pu hS (wn rfl) rfl rfl rfl (v := .pointer (some ⟨ip0_1, 0, none⟩)) (aop_move (hS.lk rfl)) fun s hS => ?_
      refine q_pu hS (wn rfl) rfl rfl rfl (v := .int .i64 y1) (aop_move (hS.lk rfl)) fun s hS => ?_
      obtain ⟨y7, hy7, h⟩ := bind_some h
      refine q_cl hS (wn rfl) (vs := [.pointer (some ⟨ip0_1, 0, none⟩), .int .i64 y1, strV ([42])]) (ws := [.pointer (some ⟨ip0_1, 0, none⟩), .int .i64 y1, strV ([42])]) rfl rfl rfl rfl rfl 5 rfl (g_source_squeezer_isBefore.ok hy7 hp0_6 hp0_16) fun s v S' F' hp8 hF hS => ?_
      obtain ⟨rfl, rfl, rfl⟩ := hp8
      refine q_pu hS (wn rfl) rfl rfl rfl (v := .bool (!y7)) (aop_not (hS.lk rfl)) fun s hS => ?_
      refine KW.nil ?_
      rcases bool_cases ((!y7)) with hc9 | hc9
      · rw [ite_t hc9] at h
        replace hS := hS.know (t := 25) rfl (congrArg Value.bool hc9)
        refine WW.condK hS rfl rfl ?_
        refine WW.seq ?_
        refine WW.region ?_
        refine q_pu hS (wn rfl) rfl rfl rfl (v := .int .i64 0) (aop_assign (hS.lk rfl)) fun s hS => ?_
        refine q_pu hS (wn rfl) rfl rfl rfl (v := .bool false) (aop_assign (hS.lk rfl)) fun s hS => ?_
        refine KW.nil ?_
        refine WW.ret ?_
        have hres := (res_tmp hS (t := 2) (v := .int .i64 0) rfl (res_tmp hS (t := 3) (v := .bool false) rfl (res_nil (E := EV) (s := s))))
        obtain rfl := Option.some.inj h
        exact fin hS (.inr rfl) hres (v := .tuple #[.int .i64 0, .bool false]) rfl ⟨rfl, rfl, rfl⟩
      · rw [ite_f hc9] at h
        replace hS := hS.know (t := 25) rfl (congrArg Value.bool hc9)
        refine WW.condF hS rfl rfl ?_
        refine WW.skip ?_
        refine WW.seq ?_
        refine WW.region ?_
        refine q_pu hS (wn rfl) rfl rfl rfl (v := .pointer (some ⟨ip0_1, 0, none⟩)) (aop_move (hS.lk rfl)) fun s hS => ?_
        refine q_pu hS (wn rfl) rfl rfl rfl (v := .int .i64 y1) (aop_move (hS.lk rfl)) fun s hS => ?_
        refine q_pu hS (wn rfl) rfl rfl rfl (v := .int .i64 (w64 (y1 - 1))) (aop_int (hS.lk rfl) (hS.lk rfl) rfl) fun s hS => ?_
        obtain ⟨y10, hy10, h⟩ := bind_some h
        refine q_cl hS (wn rfl) (vs := [.pointer (some ⟨ip0_1, 0, none⟩), .int .i64 (w64 (y1 - 1))]) (ws := [.pointer (some ⟨ip0_1, 0, none⟩), .int .i64 (w64 (y1 - 1))]) rfl rfl rfl rfl rfl 5 rfl (g_source_squeezer_digits.ok hy10 hp0_6 hp0_16) fun s v S' F' hp11 hF hS => ?_
        obtain ⟨rfl, rfl, rfl⟩ := hp11
        refine q_pu hS (wn rfl) rfl rfl rfl (v := .int .i64 y10) (aop_assign (hS.lk rfl)) fun s hS => ?_
        refine KW.nil ?_
        refine WW.seq ?_
        refine WW.region ?_
        refine q_pu hS (wn rfl) rfl rfl rfl (v := .int .i64 y1) (aop_move (hS.lk rfl)) fun s hS => ?_
        refine q_pu hS (wn rfl) rfl rfl rfl (v := .int .i64 y10) (aop_move (hS.lk rfl)) fun s hS => ?_
        refine q_pu hS (wn rfl) rfl rfl rfl (v := .int .i64 y1) (aop_move (hS.lk rfl)) fun s hS => ?_
        refine q_pu hS (wn rfl) rfl rfl rfl (v := .int .i64 (w64 (y1 - 1))) (aop_int (hS.lk rfl) (hS.lk rfl) rfl) fun s hS => ?_
        refine q_pu hS (wn rfl) rfl rfl rfl (v := .bool (decide (y10 < (w64 (y1 - 1))))) (aop_int (hS.lk rfl) (hS.lk rfl) rfl) fun s hS => ?_
        refine q_pu hS (wn rfl) rfl rfl rfl (v := .bool (decide (y10 < (w64 (y1 - 1))))) (aop_move (hS.lk rfl)) fun s hS => ?_
        obtain ⟨z12, hz12, h⟩ := bind_some h
        refine q_cut 4 (fun s => Stt EV s [(39, .bool z12), (2, .int .i64 0), (3, .bool false), (30, .int .i64 y1)] [[(ip0_1, .row [strV p0_1, .slice ap0_4 p0_2.length zp0_5, .slice ap0_9 p0_7.length zp0_10, .slice ap0_14 p0_12.length zp0_15, .slice ap0_19 p0_17.length zp0_20] 86 0 true)], Bp0_7, Bp0_12, Bp0_17, Bp0_22] F L F nx0) ?_ fun s hS => ?_
        ·
          rcases bool_cases ((decide (y10 < (w64 (y1 - 1))))) with hc13 | hc13
          · rw [ite_t hc13] at hz12
            replace hS := hS.know (t := 34) rfl (congrArg Value.bool hc13)
            replace hS := hS.know (t := 35) rfl (congrArg Value.bool hc13)
            refine q_pu hS (wt hS rfl rfl rfl rfl) rfl rfl rfl (v := .pointer (some ⟨ip0_1, 0, none⟩)) (aop_move (hS.lk rfl)) fun s hS => ?_
            refine q_pu hS (wt hS rfl rfl rfl rfl) rfl rfl rfl (v := .int .i64 y10) (aop_move (hS.lk rfl)) fun s hS => ?_
            obtain ⟨y14, hy14, hz12⟩ := bind_some hz12
            refine q_cl hS (wt hS rfl rfl rfl rfl) (vs := [.pointer (some ⟨ip0_1, 0, none⟩), .int .i64 y10, strV ([40, 44, 47, 61])]) (ws := [.pointer (some ⟨ip0_1, 0, none⟩), .int .i64 y10, strV ([40, 44, 47, 61])]) rfl rfl rfl rfl rfl 5 rfl (g_source_squeezer_isBefore.ok hy14 hp0_6 hp0_16) fun s v S' F' hp15 hF hS => ?_
            obtain ⟨rfl, rfl, rfl⟩ := hp15
            refine q_pu hS (wn rfl) rfl rfl rfl (v := .bool y14) (aop_pickT (hS.lk rfl) (hS.lk rfl)) fun s hS => ?_
            refine KW.nil ?_
            obtain rfl := Option.some.inj hz12
            exact hS.sub (.c rfl (.c rfl (.c rfl (.c rfl .n))))
          · rw [ite_f hc13] at hz12
            replace hS := hS.know (t := 34) rfl (congrArg Value.bool hc13)
            replace hS := hS.know (t := 35) rfl (congrArg Value.bool hc13)
            refine q_no hS (wf hS rfl rfl rfl rfl) rfl fun s hS => ?_
            refine q_no hS (wf hS rfl rfl rfl rfl) rfl fun s hS => ?_
            refine q_no hS (wf hS rfl rfl rfl rfl) rfl fun s hS => ?_
            refine q_pu hS (wn rfl) rfl rfl rfl (v := .bool false) (aop_pickF (hS.lk rfl) (hS.lk rfl)) fun s hS => ?_
            refine KW.nil ?_
            obtain rfl := Option.some.inj hz12
            exact hS.sub (.c rfl (.c rfl (.c rfl (.c rfl .n))))
        refine q_pu hS (wn rfl) rfl rfl rfl (v := .int .i64 y1) (aop_assign (hS.lk rfl)) fun s hS => ?_
        refine q_pu hS (wn rfl) rfl rfl rfl (v := .bool z12) (aop_assign (hS.lk rfl)) fun s hS => ?_
        refine KW.nil ?_
        refine WW.ret ?_
        have hres := (res_tmp hS (t := 2) (v := .int .i64 y1) rfl (res_tmp hS (t := 3) (v := .bool z12) rfl (res_nil (E := EV) (s := s))))
        obtain rfl := Option.some.inj h
        exact fin hS (.inr rfl) hres (v := .tuple #[.int .i64 y1, .bool z12]) rfl ⟨rfl, rfl, rfl⟩
/-! ### (*formulary/source.squeezer).count (117) -/
noncomputable def g_source_squeezer_count.f (p0_1 : List UInt8) (p0_2 : List UInt8) (p0_7 : List Int) (p0_12 : List Bool) (p0_17 : List (Int × Int)) (p1_0 : Int) (p2_0 : Int) : Option (Int × Int × List UInt8 × List Int × List Bool × (List (Int × Int))) :=
  (if 0 ≤ p1_0 ∧ p1_0 ≤ (p0_2.length : Int) ∧ (p0_2.length : Int) ≤ (p0_2.length : Int) then Option.bind (g_atoi.f (mid p0_2 p1_0 (p0_2.length : Int))) fun y5 => (if (y5.2 || (decide (y5.1 > (w64 ((w64 ((p0_1.length : Int) - p2_0)) - 1))))) then some (0, 21, p0_2, p0_7, p0_12, p0_17) else (if (y5.1 == 0) then some (0, 11, p0_2, p0_7, p0_12, p0_17) else (if 0 ≤ p1_0 ∧ p1_0 < (p0_7.length : Int) then (if p0_17.length + ([((gt p0_7 p1_0), (w64 ((w64 (p2_0 + 1)) + y5.1)))] : List (Int × Int)).length < 1000000000 then Option.bind (g_source_squeezer_put.f p0_2 p0_7 p0_12 72 p2_0 false) fun y25 => Option.bind (g_source_squeezer_constant.f p0_1 y25.1 y25.2.1 y25.2.2 (w64 (p2_0 + 1)) (w64 ((w64 (p2_0 + 1)) + y5.1))) fun y39 => some ((w64 ((w64 (p2_0 + 1)) + y5.1)), 0, y39.1, y39.2.1, y39.2.2, (p0_17 ++ ([((gt p0_7 p1_0), (w64 ((w64 (p2_0 + 1)) + y5.1)))] : List (Int × Int)))) else none) else none))) else none)
set_option maxHeartbeats 4000000 in
theorem g_source_squeezer_count.ok {ip0_1 : Nat} {ap0_4 : Option Addr} {zp0_5 : Nat} {Bp0_7 : Seg} {ap0_9 : Option Addr} {zp0_10 : Nat} {Bp0_12 : Seg} {ap0_14 : Option Addr} {zp0_15 : Nat} {Bp0_17 : Seg} {ap0_19 : Option Addr} {zp0_20 : Nat} {Bp0_22 : Seg} {p0_1 : List UInt8} {p0_2 : List UInt8} {p0_7 : List Int} {p0_12 : List Bool} {p0_17 : List (Int × Int)} {p1_0 : Int} {p2_0 : Int} {F : FZ} {r : Int × Int × List UInt8 × List Int × List Bool × (List (Int × Int))} (h : g_source_squeezer_count.f p0_1 p0_2 p0_7 p0_12 p0_17 p1_0 p2_0 = some r) (hp0_6 : Own (elB 5) F ap0_4 zp0_5 p0_2 Bp0_7) (hp0_11 : Own (elI .i64 3) F ap0_9 zp0_10 p0_7 Bp0_12) (hp0_16 : Own (elBool 4) F ap0_14 zp0_15 p0_12 Bp0_17) (hp0_21 : Own el34 F ap0_19 zp0_20 p0_17 Bp0_22) (hG : Gl F) :
    Cl EV 117 [.pointer (some ⟨ip0_1, 0, none⟩), .int .i64 p1_0, .int .i64 p2_0] [[(ip0_1, .row [strV p0_1, .slice ap0_4 p0_2.length zp0_5, .slice ap0_9 p0_7.length zp0_10, .slice ap0_14 p0_12.length zp0_15, .slice ap0_19 p0_17.length zp0_20] 86 0 true)], Bp0_7, Bp0_12, Bp0_17, Bp0_22] F (fun v S' F' => ∃ (ra1 : Option Addr) (rz2 : Nat) (rB4 : Seg) (ra5 : Option Addr) (rz6 : Nat) (rB8 : Seg) (ra9 : Option Addr) (rz10 : Nat) (rB12 : Seg) (ra13 : Option Addr) (rz14 : Nat) (rB16 : Seg), F = F' ∧ v = .tuple #[.int .i64 r.1, .int .i64 r.2.1] ∧ S' = [[(ip0_1, .row [strV p0_1, .slice ra1 r.2.2.1.length rz2, .slice ra5 r.2.2.2.1.length rz6, .slice ra9 r.2.2.2.2.1.length rz10, .slice ra13 r.2.2.2.2.2.length rz14] 86 0 true)], rB4, rB8, rB12, rB16] ∧ Own (elB 5) F' ra1 rz2 r.2.2.1 rB4 ∧ Own (elI .i64 3) F' ra5 rz6 r.2.2.2.1 rB8 ∧ Own (elBool 4) F' ra9 rz10 r.2.2.2.2.1 rB12 ∧ Own el34 F' ra13 rz14 r.2.2.2.2.2 rB16) := by
  refine Cl.of Tryz.func117 rfl (fun _ _ => rfl) (by kernel_rfl) fun s L nx0 hS => ?_
  unfold g_source_squeezer_count.f at h
  refine WW.seq ?_
  refine WW.region ?_
  refine q_pu hS (wn rfl) rfl rfl rfl (v := .int .i64 0) (aop_assign (hS.lk rfl)) fun s hS => ?_
  refine q_pu hS (wn rfl) rfl rfl rfl (v := .int .i64 0) (aop_assign (hS.lk rfl)) fun s hS => ?_
  refine KW.nil ?_
  refine WW.seq ?_
  refine WW.region ?_
  refine q_pu hS (wn rfl) rfl rfl rfl (v := .pointer (some ⟨ip0_1, 0, none⟩)) (aop_move (hS.lk rfl)) fun s hS => ?_
  refine q_pu hS (wn rfl) rfl rfl rfl (v := .pointer (some ⟨ip0_1, 0, none⟩)) (aop_nilp (hS.lk rfl)) fun s hS => ?_
  refine q_pu hS (wn rfl) rfl rfl rfl (v := .pointer (some ⟨ip0_1, 1, none⟩)) (aop_fa (hS.lk rfl) tf86_1 rfl rfl) fun s hS => ?_
  refine q_ld hS (wn rfl) rfl rfl rfl (hS.at (k := 0) rfl) tg83 (v := .slice ap0_4 p0_2.length zp0_5) rfl fun s hS => ?_
  refine q_pu hS (wn rfl) rfl rfl rfl (v := .int .i64 p1_0) (aop_move (hS.lk rfl)) fun s hS => ?_
  obtain ⟨hk1, h⟩ := ite_some h
  obtain ⟨a2, he3, hz4⟩ := Own.view hp0_6 hk1 (m := 1) rfl
  refine q_pu hS (wn rfl) rfl rfl rfl (v := .slice a2 (mid p0_2 p1_0 (p0_2.length : Int)).length zp0_5) (aop_slSl te83 (hS.lk rfl) (i := p1_0) (h := (p0_2.length : Int)) (bnd_eq hS rfl) rfl he3) fun s hS => ?_
  refine q_cvV hS (wn rfl) rfl rfl (lst := (mid p0_2 p1_0 (p0_2.length : Int))) rfl hz4 (p := 1) rfl (cf0 tu83 tb5 tu9) (cf1 tu83 tb5 tu9) fun s hS => ?_
  obtain ⟨y5, hy5, h⟩ := bind_some h
  refine q_cl hS (wn rfl) (vs := [strV (mid p0_2 p1_0 (p0_2.length : Int))]) (ws := [strV (mid p0_2 p1_0 (p0_2.length : Int))]) rfl rfl rfl rfl rfl 0 rfl (g_atoi.ok hy5 hG) fun s v S' F' hp6 hF hS => ?_
  obtain ⟨rfl, rfl, rfl⟩ := hp6
  refine q_pu hS (wn rfl) rfl rfl rfl (v := .tuple #[.int .i64 y5.1, errV 235 y5.2]) (aop_move (hS.lk rfl)) fun s hS => ?_
  refine q_pu hS (wn rfl) rfl rfl rfl (v := .int .i64 y5.1) (aop_ext (hS.lk rfl) rfl) fun s hS => ?_
  refine q_pu hS (wn rfl) rfl rfl rfl (v := errV 235 y5.2) (aop_ext (hS.lk rfl) rfl) fun s hS => ?_
  refine q_pu hS (wn rfl) rfl rfl rfl (v := .int .i64 y5.1) (aop_assign (hS.lk rfl)) fun s hS => ?_
  refine q_pu hS (wn rfl) rfl rfl rfl (v := errV 235 y5.2) (aop_assign (hS.lk rfl)) fun s hS => ?_
  refine KW.nil ?_
  refine WW.seq ?_
  refine WW.seq ?_
  refine WW.region ?_
  refine q_pu hS (wn rfl) rfl rfl rfl (v := errV 235 y5.2) (aop_move (hS.lk rfl)) fun s hS => ?_
  refine q_pu hS (wn rfl) rfl rfl rfl (v := .bool y5.2) (tn156neq (hS.lk rfl) (hS.lk rfl)) fun s hS => ?_
  refine q_pu hS (wn rfl) rfl rfl rfl (v := .bool y5.2) (aop_move (hS.lk rfl)) fun s hS => ?_
  refine q_cut 11 (fun s => Stt EV s [(35, .bool (y5.2 || (decide (y5.1 > (w64 ((w64 ((p0_1.length : Int) - p2_0)) - 1)))))), (0, .pointer (some ⟨ip0_1, 0, none⟩)), (1, .int .i64 p1_0), (2, .int .i64 p2_0), (6, .int .i64 0), (7, .int .i64 0), (8, .int .i64 y5.1)] [[(ip0_1, .row [strV p0_1, .slice ap0_4 p0_2.length zp0_5, .slice ap0_9 p0_7.length zp0_10, .slice ap0_14 p0_12.length zp0_15, .slice ap0_19 p0_17.length zp0_20] 86 0 true)], Bp0_7, Bp0_12, Bp0_17, Bp0_22] F L F nx0) ?_ fun s hS => ?_
  ·
    rcases bool_cases (y5.2) with hcj | hcj
    ·
      replace hS := hS.know (t := 23) rfl (congrArg Value.bool hcj)
      replace hS := hS.know (t := 24) rfl (congrArg Value.bool hcj)
      refine q_no hS (wf hS rfl rfl rfl rfl) rfl fun s hS => ?_
      refine q_no hS (wf hS rfl rfl rfl rfl) rfl fun s hS => ?_
      refine q_no hS (wf hS rfl rfl rfl rfl) rfl fun s hS => ?_
      refine q_no hS (wf hS rfl rfl rfl rfl) rfl fun s hS => ?_
      refine q_no hS (wf hS rfl rfl rfl rfl) rfl fun s hS => ?_
      refine q_no hS (wf hS rfl rfl rfl rfl) rfl fun s hS => ?_
      refine q_no hS (wf hS rfl rfl rfl rfl) rfl fun s hS => ?_
      refine q_no hS (wf hS rfl rfl rfl rfl) rfl fun s hS => ?_
      refine q_no hS (wf hS rfl rfl rfl rfl) rfl fun s hS => ?_
      refine q_no hS (wf hS rfl rfl rfl rfl) rfl fun s hS => ?_
      refine q_pu hS (wn rfl) rfl rfl rfl (v := .bool true) (aop_pickT (hS.lk rfl) (hS.lk rfl)) fun s hS => ?_
      refine KW.nil ?_
      exact (hS.know (t := 35) (u' := .bool (y5.2 || (decide (y5.1 > (w64 ((w64 ((p0_1.length : Int) - p2_0)) - 1)))))) rfl (jn_or_t hcj)).sub (.c rfl (.c rfl (.c rfl (.c rfl (.c rfl (.c rfl (.c rfl .n)))))))
    ·
      replace hS := hS.know (t := 23) rfl (congrArg Value.bool hcj)
      replace hS := hS.know (t := 24) rfl (congrArg Value.bool hcj)
      refine q_pu hS (wt hS rfl rfl rfl rfl) rfl rfl rfl (v := .int .i64 y5.1) (aop_move (hS.lk rfl)) fun s hS => ?_
      refine q_pu hS (wt hS rfl rfl rfl rfl) rfl rfl rfl (v := .pointer (some ⟨ip0_1, 0, none⟩)) (aop_move (hS.lk rfl)) fun s hS => ?_
      refine q_pu hS (wt hS rfl rfl rfl rfl) rfl rfl rfl (v := .pointer (some ⟨ip0_1, 0, none⟩)) (aop_nilp (hS.lk rfl)) fun s hS => ?_
      refine q_pu hS (wt hS rfl rfl rfl rfl) rfl rfl rfl (v := .pointer (some ⟨ip0_1, 0, none⟩)) (aop_fa (hS.lk rfl) tf86_0 rfl rfl) fun s hS => ?_
      refine q_ld hS (wt hS rfl rfl rfl rfl) rfl rfl rfl (hS.at (k := 0) rfl) tg9 (v := strV p0_1) rfl fun s hS => ?_
      refine q_pu hS (wt hS rfl rfl rfl rfl) rfl rfl rfl (v := .int .i64 (p0_1.length : Int)) (aop_lenS rfl rfl tu9 (hS.lk rfl)) fun s hS => ?_
      refine q_pu hS (wt hS rfl rfl rfl rfl) rfl rfl rfl (v := .int .i64 p2_0) (aop_move (hS.lk rfl)) fun s hS => ?_
      refine q_pu hS (wt hS rfl rfl rfl rfl) rfl rfl rfl (v := .int .i64 (w64 ((p0_1.length : Int) - p2_0))) (aop_int (hS.lk rfl) (hS.lk rfl) rfl) fun s hS => ?_
      refine q_pu hS (wt hS rfl rfl rfl rfl) rfl rfl rfl (v := .int .i64 (w64 ((w64 ((p0_1.length : Int) - p2_0)) - 1))) (aop_int (hS.lk rfl) (hS.lk rfl) rfl) fun s hS => ?_
      refine q_pu hS (wt hS rfl rfl rfl rfl) rfl rfl rfl (v := .bool (decide (y5.1 > (w64 ((w64 ((p0_1.length : Int) - p2_0)) - 1))))) (aop_int (hS.lk rfl) (hS.lk rfl) rfl) fun s hS => ?_
      refine q_pu hS (wn rfl) rfl rfl rfl (v := .bool (decide (y5.1 > (w64 ((w64 ((p0_1.length : Int) - p2_0)) - 1))))) (aop_pickF (hS.lk rfl) (hS.lk rfl)) fun s hS => ?_
      refine KW.nil ?_
      exact (hS.know (t := 35) (u' := .bool (y5.2 || (decide (y5.1 > (w64 ((w64 ((p0_1.length : Int) - p2_0)) - 1)))))) rfl (jn_or_f hcj)).sub (.c rfl (.c rfl (.c rfl (.c rfl (.c rfl (.c rfl (.c rfl .n)))))))
  refine KW.nil ?_
  rcases bool_cases ((y5.2 || (decide (y5.1 > (w64 ((w64 ((p0_1.length : Int) - p2_0)) - 1)))))) with hc7 | hc7
  · rw [ite_t hc7] at h
    replace hS := hS.know (t := 35) rfl (congrArg Value.bool hc7)
    refine WW.condK hS rfl rfl ?_
    refine WW.seq ?_
    refine WW.region ?_
    refine q_pu hS (wn rfl) rfl rfl rfl (v := .int .i64 0) (aop_assign (hS.lk rfl)) fun s hS => ?_
    refine q_pu hS (wn rfl) rfl rfl rfl (v := .int .i64 21) (aop_assign (hS.lk rfl)) fun s hS => ?_
    refine KW.nil ?_
    refine WW.ret ?_
    have hres := (res_tmp hS (t := 6) (v := .int .i64 0) rfl (res_tmp hS (t := 7) (v := .int .i64 21) rfl (res_nil (E := EV) (s := s))))
    obtain rfl := Option.some.inj h
    exact fin hS (.inr rfl) hres (v := .tuple #[.int .i64 0, .int .i64 21]) rfl ⟨_, _, _, _, _, _, _, _, _, _, _, _, rfl, rfl, rfl, hp0_6, hp0_11, hp0_16, hp0_21⟩
  · rw [ite_f hc7] at h
    replace hS := hS.know (t := 35) rfl (congrArg Value.bool hc7)
    refine WW.condF hS rfl rfl ?_
    refine WW.skip ?_
    refine WW.seq ?_
    refine WW.seq ?_
    refine WW.region ?_
    refine q_pu hS (wn rfl) rfl rfl rfl (v := .int .i64 y5.1) (aop_move (hS.lk rfl)) fun s hS => ?_
    refine q_pu hS (wn rfl) rfl rfl rfl (v := .bool (y5.1 == 0)) (aop_int (hS.lk rfl) (hS.lk rfl) rfl) fun s hS => ?_
    refine KW.nil ?_
    rcases bool_cases ((y5.1 == 0)) with hc8 | hc8
    · rw [ite_t hc8] at h
      replace hS := hS.know (t := 37) rfl (congrArg Value.bool hc8)
      refine WW.condK hS rfl rfl ?_
      refine WW.seq ?_
      refine WW.region ?_
      refine q_pu hS (wn rfl) rfl rfl rfl (v := .int .i64 0) (aop_assign (hS.lk rfl)) fun s hS => ?_
      refine q_pu hS (wn rfl) rfl rfl rfl (v := .int .i64 11) (aop_assign (hS.lk rfl)) fun s hS => ?_
      refine KW.nil ?_
      refine WW.ret ?_
      have hres := (res_tmp hS (t := 6) (v := .int .i64 0) rfl (res_tmp hS (t := 7) (v := .int .i64 11) rfl (res_nil (E := EV) (s := s))))
      obtain rfl := Option.some.inj h
      exact fin hS (.inr rfl) hres (v := .tuple #[.int .i64 0, .int .i64 11]) rfl ⟨_, _, _, _, _, _, _, _, _, _, _, _, rfl, rfl, rfl, hp0_6, hp0_11, hp0_16, hp0_21⟩
    · rw [ite_f hc8] at h
      replace hS := hS.know (t := 37) rfl (congrArg Value.bool hc8)
      refine WW.condF hS rfl rfl ?_
      refine WW.skip ?_
      refine WW.seq ?_
      refine WW.region ?_
      refine q_pu hS (wn rfl) rfl rfl rfl (v := .int .i64 p2_0) (aop_move (hS.lk rfl)) fun s hS => ?_
      refine q_pu hS (wn rfl) rfl rfl rfl (v := .int .i64 (w64 (p2_0 + 1))) (aop_int (hS.lk rfl) (hS.lk rfl) rfl) fun s hS => ?_
      refine q_pu hS (wn rfl) rfl rfl rfl (v := .int .i64 y5.1) (aop_move (hS.lk rfl)) fun s hS => ?_
      refine q_pu hS (wn rfl) rfl rfl rfl (v := .int .i64 (w64 ((w64 (p2_0 + 1)) + y5.1))) (aop_int (hS.lk rfl) (hS.lk rfl) rfl) fun s hS => ?_
      refine q_pu hS (wn rfl) rfl rfl rfl (v := .int .i64 (w64 ((w64 (p2_0 + 1)) + y5.1))) (aop_assign (hS.lk rfl)) fun s hS => ?_
      refine KW.nil ?_
      refine WW.seq ?_
      refine WW.regionD (i := [[], [0], [0], [0], [0], [4, 3, 2, 1, 0], [4, 3, 2, 1, 0], [4, 3, 2, 1, 0], [4, 3, 2, 1, 0], [8, 7, 6, 5, 4, 3, 2, 1, 0], [4, 3, 2, 1, 0], [4, 3, 2, 1, 0], [11, 10, 9, 8, 7, 6, 5, 4, 3, 2, 1, 0], [4, 3, 2, 1, 0], [4, 3, 2, 1, 0], [0], [], [], []]) (by kernel_rfl) ?_
      have hq := RS.start [ip0_1]
      refine K.pu hS hq rfl (wn rfl) rfl rfl rfl (v := .pointer (some ⟨ip0_1, 0, none⟩)) (aop_move (hS.lk rfl)) fun s rs hS hq => ?_
      refine K.pu hS hq rfl (wn rfl) rfl rfl rfl (v := .pointer (some ⟨ip0_1, 0, none⟩)) (aop_move (hS.lk rfl)) fun s rs hS hq => ?_
      refine K.pu hS hq rfl (wn rfl) rfl rfl rfl (v := .pointer (some ⟨ip0_1, 0, none⟩)) (aop_nilp (hS.lk rfl)) fun s rs hS hq => ?_
      refine K.pu hS hq rfl (wn rfl) rfl rfl rfl (v := .pointer (some ⟨ip0_1, 4, none⟩)) (aop_fa (hS.lk rfl) tf86_4 rfl rfl) fun s rs hS hq => ?_
      refine K.ld hS hq rfl (wn rfl) rfl rfl rfl (hS.at (k := 0) rfl) tg27 (v := .slice ap0_19 p0_17.length zp0_20) rfl 0 rfl rfl fun s rs hS hq => ?_
      refine K.pu hS hq rfl (wn rfl) rfl rfl rfl (v := .pointer (some ⟨ip0_1, 0, none⟩)) (aop_move (hS.lk rfl)) fun s rs hS hq => ?_
      refine K.pu hS hq rfl (wn rfl) rfl rfl rfl (v := .pointer (some ⟨ip0_1, 0, none⟩)) (aop_nilp (hS.lk rfl)) fun s rs hS hq => ?_
      refine K.pu hS hq rfl (wn rfl) rfl rfl rfl (v := .pointer (some ⟨ip0_1, 2, none⟩)) (aop_fa (hS.lk rfl) tf86_2 rfl rfl) fun s rs hS hq => ?_
      refine K.ld hS hq rfl (wn rfl) rfl rfl rfl (hS.at (k := 0) rfl) tg23 (v := .slice ap0_9 p0_7.length zp0_10) rfl 0 rfl rfl fun s rs hS hq => ?_
      refine K.pu hS hq rfl (wn rfl) rfl rfl rfl (v := .int .i64 p1_0) (aop_move (hS.lk rfl)) fun s rs hS hq => ?_
      obtain ⟨hk9, h⟩ := ite_some h
      obtain ⟨i15, cs16, ex17, rfl, rfl, rfl, hC18⟩ := Own.some_ hp0_11 (by omega)
      obtain ⟨c10, hR11, hN13, hN12, hT14⟩ := Cells.loadF hC18 ex17 hk9 (z := 1) rfl
      obtain rfl := hR11
      refine K.pu hS hq rfl (wn rfl) rfl rfl rfl (v := .pointer (some ⟨i15, 0 + (p1_0).toNat * 1, none⟩)) (aop_ia (hS.lk rfl) (hS.lk rfl) te23 hk9) fun s rs hS hq => ?_
      replace hq := hq.more i15 rfl rfl rfl
      refine K.ld hS hq rfl (wn rfl) rfl rfl rfl (hS.at (k := 2) rfl) tg3 (v := .int .i64 (gt p0_7 p1_0)) hN12 1 rfl rfl fun s rs hS hq => ?_
      refine K.pu hS hq rfl (wn rfl) rfl rfl rfl (v := .int .i64 (w64 ((w64 (p2_0 + 1)) + y5.1))) (aop_move (hS.lk rfl)) fun s rs hS hq => ?_
      refine K.pu hS hq rfl (wn rfl) rfl rfl rfl (v := .agg #[.int .i64 (gt p0_7 p1_0), .int .i64 (w64 ((w64 (p2_0 + 1)) + y5.1))]) (aop_bldA t0_34 tu34 tz3 [(0, .int .i64 (gt p0_7 p1_0)), (1, .int .i64 (w64 ((w64 (p2_0 + 1)) + y5.1)))] (parts_eq hS rfl) (cs := [.int .i64 (gt p0_7 p1_0), .int .i64 (w64 ((w64 (p2_0 + 1)) + y5.1))]) rfl) fun s rs hS hq => ?_
      refine K.nw hS hq rfl (wn rfl) rfl rfl rfl (v := fun i => .slice (some ⟨i, 0, none⟩) 1 2) (b := .row [.int .i64 (gt p0_7 p1_0), .int .i64 (w64 ((w64 (p2_0 + 1)) + y5.1))] 34 2 true) (aop_bsl tu27 tz34 t0_34 rfl [(0, .agg #[.int .i64 (gt p0_7 p1_0), .int .i64 (w64 ((w64 (p2_0 + 1)) + y5.1))])] (parts_eq hS rfl) rfl) [0, 1] (aw_c rfl mm0 (aw_c rfl (mm1 (mm1 mm0)) aw_n)) rfl rfl rfl fun s rs i19 hS hq => ?_
      have hC20 : Cells el34 F ([((gt p0_7 p1_0), (w64 ((w64 (p2_0 + 1)) + y5.1)))] : List (Int × Int)) [.int .i64 (gt p0_7 p1_0), .int .i64 (w64 ((w64 (p2_0 + 1)) + y5.1))] := ⟨[.int .i64 (gt p0_7 p1_0), .int .i64 (w64 ((w64 (p2_0 + 1)) + y5.1))], [], rfl, rfl, rfl⟩
      obtain ⟨hk24, h⟩ := ite_some h
      replace hS := hS.pull 5
      replace hS := hS.pull 1
      refine K.app [] hS hq rfl (wn rfl) (dd := el34) (lst := p0_17) (m := ([((gt p0_7 p1_0), (w64 ((w64 (p2_0 + 1)) + y5.1)))] : List (Int × Int))) rfl rfl ta27_27 rfl rfl hp0_21 (Nat.succ_pos _) hC20 hk24 [0, 1] rfl rfl (aw_c rfl mm0 (aw_c rfl (mm1 (mm1 mm0)) aw_n)) fun s rs i21 cs22 hC23 hS hq => ?_
      refine K.pu hS hq rfl (wn rfl) rfl rfl rfl (v := .pointer (some ⟨ip0_1, 0, none⟩)) (aop_nilp (hS.lk rfl)) fun s rs hS hq => ?_
      refine K.pu hS hq rfl (wn rfl) rfl rfl rfl (v := .pointer (some ⟨ip0_1, 4, none⟩)) (aop_fa (hS.lk rfl) tf86_4 rfl rfl) fun s rs hS hq => ?_
      refine K.sto hS hq rfl (wn rfl) rfl rfl rfl rfl (p := 1) rfl tz27 rfl [strV p0_1, .slice ap0_4 p0_2.length zp0_5, .slice (some ⟨i15, 0, none⟩) p0_7.length 1, .slice ap0_14 p0_12.length zp0_15, .slice (some ⟨i21, 0, none⟩) (p0_17 ++ ([((gt p0_7 p1_0), (w64 ((w64 (p2_0 + 1)) + y5.1)))] : List (Int × Int))).length 2] rfl [1] rfl (aw_c rfl (mm1 (mm1 mm0)) aw_n) fun s rs hS hq => ?_
      refine KW.nil ?_
      refine WW.seq ?_
      refine WW.region ?_
      refine q_pu hS (wn rfl) rfl rfl rfl (v := .pointer (some ⟨ip0_1, 0, none⟩)) (aop_move (hS.lk rfl)) fun s hS => ?_
      refine q_pu hS (wn rfl) rfl rfl rfl (v := .int .i64 p2_0) (aop_move (hS.lk rfl)) fun s hS => ?_
      obtain ⟨y25, hy25, h⟩ := bind_some h
      replace hS := hS.pull 4
      replace hS := hS.pull 4
      replace hS := hS.pull 4
      replace hS := hS.pull 4
      refine q_cl hS (wn rfl) (vs := [.pointer (some ⟨ip0_1, 0, none⟩), vB 72, .int .i64 p2_0, .bool false]) (ws := [.pointer (some ⟨ip0_1, 0, none⟩), vB 72, .int .i64 p2_0, .bool false]) rfl rfl rfl rfl rfl 5 rfl (g_source_squeezer_put.ok hy25 hp0_6 (Own.blk ex17 hC18) hp0_16) fun s v S' F' hp26 hF hS => ?_
      obtain ⟨a27, z28, B30, a31, z32, B34, a35, z36, B38, rfl, rfl, rfl, h29, h33, h37⟩ := hp26
      refine KW.nil ?_
      refine WW.seq ?_
      refine WW.region ?_
      refine q_pu hS (wn rfl) rfl rfl rfl (v := .pointer (some ⟨ip0_1, 0, none⟩)) (aop_move (hS.lk rfl)) fun s hS => ?_
      refine q_pu hS (wn rfl) rfl rfl rfl (v := .int .i64 p2_0) (aop_move (hS.lk rfl)) fun s hS => ?_
      refine q_pu hS (wn rfl) rfl rfl rfl (v := .int .i64 (w64 (p2_0 + 1))) (aop_int (hS.lk rfl) (hS.lk rfl) rfl) fun s hS => ?_
      refine q_pu hS (wn rfl) rfl rfl rfl (v := .int .i64 (w64 ((w64 (p2_0 + 1)) + y5.1))) (aop_move (hS.lk rfl)) fun s hS => ?_
      obtain ⟨y39, hy39, h⟩ := bind_some h
      refine q_cl hS (wn rfl) (vs := [.pointer (some ⟨ip0_1, 0, none⟩), .int .i64 (w64 (p2_0 + 1)), .int .i64 (w64 ((w64 (p2_0 + 1)) + y5.1))]) (ws := [.pointer (some ⟨ip0_1, 0, none⟩), .int .i64 (w64 (p2_0 + 1)), .int .i64 (w64 ((w64 (p2_0 + 1)) + y5.1))]) rfl rfl rfl rfl rfl 5 rfl (g_source_squeezer_constant.ok hy39 h29 h33 h37) fun s v S' F' hp40 hF hS => ?_
      obtain ⟨a41, z42, B44, a45, z46, B48, a49, z50, B52, rfl, rfl, rfl, h43, h47, h51⟩ := hp40
      refine KW.nil ?_
      refine WW.seq ?_
      refine WW.region ?_
      refine q_pu hS (wn rfl) rfl rfl rfl (v := .int .i64 (w64 ((w64 (p2_0 + 1)) + y5.1))) (aop_move (hS.lk rfl)) fun s hS => ?_
      refine q_pu hS (wn rfl) rfl rfl rfl (v := .int .i64 (w64 ((w64 (p2_0 + 1)) + y5.1))) (aop_assign (hS.lk rfl)) fun s hS => ?_
      refine q_pu hS (wn rfl) rfl rfl rfl (v := .int .i64 0) (aop_assign (hS.lk rfl)) fun s hS => ?_
      refine KW.nil ?_
      refine WW.ret ?_
      have hres := (res_tmp hS (t := 6) (v := .int .i64 (w64 ((w64 (p2_0 + 1)) + y5.1))) rfl (res_tmp hS (t := 7) (v := .int .i64 0) rfl (res_nil (E := EV) (s := s))))
      obtain rfl := Option.some.inj h
      exact fin hS (.inr rfl) hres (v := .tuple #[.int .i64 (w64 ((w64 (p2_0 + 1)) + y5.1)), .int .i64 0]) rfl ⟨_, _, _, _, _, _, _, _, _, _, _, _, rfl, rfl, rfl, h43, h47, h51, (Own.blk0 hC23)⟩
/-! ### (*formulary/source.squeezer).next (78) -/
noncomputable def g_source_squeezer_next.f (p0_1 : List UInt8) (p0_2 : List UInt8) (p0_7 : List Int) (p0_12 : List Bool) (p0_17 : List (Int × Int)) (p1_0 : Int) : Option (Int × Int × List UInt8 × List Int × List Bool × (List (Int × Int))) :=
  (if 0 ≤ p1_0 ∧ p1_0 < (p0_1.length : Int) then Option.bind (g_source_isQuote.f (gt p0_1 p1_0)) fun y2 => (if y2 then Option.bind (g_source_squeezer_character.f p0_1 p0_2 p0_7 p0_12 p0_17 p1_0) fun y5 => some (y5.1, y5.2.1, y5.2.2.1, y5.2.2.2.1, y5.2.2.2.2.1, y5.2.2.2.2.2) else Option.bind ((if ((decide (((97 : UInt8).toNat : Int) ≤ ((gt p0_1 p1_0).toNat : Int))) && (decide (((gt p0_1 p1_0).toNat : Int) ≤ ((122 : UInt8).toNat : Int)))) then some ((gt p0_1 p1_0) - 32) else some (gt p0_1 p1_0))) fun z23 => (if ((z23.toNat : Int) == ((72 : UInt8).toNat : Int)) then Option.bind (g_source_squeezer_hollerith.f p0_2 p0_12) fun y26 => (if y26.2 then Option.bind (g_source_squeezer_count.f p0_1 p0_2 p0_7 p0_12 p0_17 y26.1 p1_0) fun y29 => some (y29.1, y29.2.1, y29.2.2.1, y29.2.2.2.1, y29.2.2.2.2.1, y29.2.2.2.2.2) else Option.bind ((if ((z23.toNat : Int) != ((32 : UInt8).toNat : Int)) then Option.bind (g_source_squeezer_put.f p0_2 p0_7 p0_12 z23 p1_0 false) fun y61 => some (y61.1, y61.2.1, y61.2.2) else some (p0_2, p0_7, p0_12))) fun z47 => some ((w64 (p1_0 + 1)), 0, z47.1, z47.2.1, z47.2.2, p0_17)) else Option.bind ((if ((z23.toNat : Int) != ((32 : UInt8).toNat : Int)) then Option.bind (g_source_squeezer_put.f p0_2 p0_7 p0_12 z23 p1_0 false) fun y89 => some (y89.1, y89.2.1, y89.2.2) else some (p0_2, p0_7, p0_12))) fun z75 => some ((w64 (p1_0 + 1)), 0, z75.1, z75.2.1, z75.2.2, p0_17))) else none)
set_option maxHeartbeats 4000000 in
theorem g_source_squeezer_next.ok {ip0_1 : Nat} {ap0_4 : Option Addr} {zp0_5 : Nat} {Bp0_7 : Seg} {ap0_9 : Option Addr} {zp0_10 : Nat} {Bp0_12 : Seg} {ap0_14 : Option Addr} {zp0_15 : Nat} {Bp0_17 : Seg} {ap0_19 : Option Addr} {zp0_20 : Nat} {Bp0_22 : Seg} {p0_1 : List UInt8} {p0_2 : List UInt8} {p0_7 : List Int} {p0_12 : List Bool} {p0_17 : List (Int × Int)} {p1_0 : Int} {F : FZ} {r : Int × Int × List UInt8 × List Int × List Bool × (List (Int × Int))} (h : g_source_squeezer_next.f p0_1 p0_2 p0_7 p0_12 p0_17 p1_0 = some r) (hp0_6 : Own (elB 5) F ap0_4 zp0_5 p0_2 Bp0_7) (hp0_11 : Own (elI .i64 3) F ap0_9 zp0_10 p0_7 Bp0_12) (hp0_16 : Own (elBool 4) F ap0_14 zp0_15 p0_12 Bp0_17) (hp0_21 : Own el34 F ap0_19 zp0_20 p0_17 Bp0_22) (hG : Gl F) :
    Cl EV 78 [.pointer (some ⟨ip0_1, 0, none⟩), .int .i64 p1_0] [[(ip0_1, .row [strV p0_1, .slice ap0_4 p0_2.length zp0_5, .slice ap0_9 p0_7.length zp0_10, .slice ap0_14 p0_12.length zp0_15, .slice ap0_19 p0_17.length zp0_20] 86 0 true)], Bp0_7, Bp0_12, Bp0_17, Bp0_22] F (fun v S' F' => ∃ (ra1 : Option Addr) (rz2 : Nat) (rB4 : Seg) (ra5 : Option Addr) (rz6 : Nat) (rB8 : Seg) (ra9 : Option Addr) (rz10 : Nat) (rB12 : Seg) (ra13 : Option Addr) (rz14 : Nat) (rB16 : Seg), F = F' ∧ v = .tuple #[.int .i64 r.1, .int .i64 r.2.1] ∧ S' = [[(ip0_1, .row [strV p0_1, .slice ra1 r.2.2.1.length rz2, .slice ra5 r.2.2.2.1.length rz6, .slice ra9 r.2.2.2.2.1.length rz10, .slice ra13 r.2.2.2.2.2.length rz14] 86 0 true)], rB4, rB8, rB12, rB16] ∧ Own (elB 5) F' ra1 rz2 r.2.2.1 rB4 ∧ Own (elI .i64 3) F' ra5 rz6 r.2.2.2.1 rB8 ∧ Own (elBool 4) F' ra9 rz10 r.2.2.2.2.1 rB12 ∧ Own el34 F' ra13 rz14 r.2.2.2.2.2 rB16) := by
  refine Cl.of Tryz.func78 rfl (fun _ _ => rfl) (by kernel_rfl) fun s L nx0 hS => ?_
  unfold g_source_squeezer_next.f at h
  refine WW.seq ?_
  refine WW.region ?_
  refine q_pu hS (wn rfl) rfl rfl rfl (v := .int .i64 0) (aop_assign (hS.lk rfl)) fun s hS => ?_
  refine q_pu hS (wn rfl) rfl rfl rfl (v := .int .i64 0) (aop_assign (hS.lk rfl)) fun s hS => ?_
  refine KW.nil ?_
  refine WW.seq ?_
  refine WW.region ?_
  refine q_pu hS (wn rfl) rfl rfl rfl (v := .pointer (some ⟨ip0_1, 0, none⟩)) (aop_move (hS.lk rfl)) fun s hS => ?_
  refine q_pu hS (wn rfl) rfl rfl rfl (v := .pointer (some ⟨ip0_1, 0, none⟩)) (aop_nilp (hS.lk rfl)) fun s hS => ?_
  refine q_pu hS (wn rfl) rfl rfl rfl (v := .pointer (some ⟨ip0_1, 0, none⟩)) (aop_fa (hS.lk rfl) tf86_0 rfl rfl) fun s hS => ?_
  refine q_ld hS (wn rfl) rfl rfl rfl (hS.at (k := 0) rfl) tg9 (v := strV p0_1) rfl fun s hS => ?_
  refine q_pu hS (wn rfl) rfl rfl rfl (v := .int .i64 p1_0) (aop_move (hS.lk rfl)) fun s hS => ?_
  obtain ⟨hk1, h⟩ := ite_some h
  refine q_pu hS (wn rfl) rfl rfl rfl (v := vB (gt p0_1 p1_0)) (aop_idxS tu9 (hS.lk rfl) (hS.lk rfl) hk1) fun s hS => ?_
  refine q_pu hS (wn rfl) rfl rfl rfl (v := vB (gt p0_1 p1_0)) (aop_assign (hS.lk rfl)) fun s hS => ?_
  refine KW.nil ?_
  refine WW.seq ?_
  refine WW.seq ?_
  refine WW.region ?_
  refine q_pu hS (wn rfl) rfl rfl rfl (v := vB (gt p0_1 p1_0)) (aop_move (hS.lk rfl)) fun s hS => ?_
  obtain ⟨y2, hy2, h⟩ := bind_some h
  refine q_cl hS (wn rfl) (vs := [vB (gt p0_1 p1_0)]) (ws := [vB (gt p0_1 p1_0)]) rfl rfl rfl rfl rfl 0 rfl (g_source_isQuote.ok hy2) fun s v S' F' hp3 hF hS => ?_
  obtain ⟨rfl, rfl, rfl⟩ := hp3
  refine KW.nil ?_
  rcases bool_cases (y2) with hc4 | hc4
  · rw [ite_t hc4] at h
    replace hS := hS.know (t := 16) rfl (congrArg Value.bool hc4)
    refine WW.condK hS rfl rfl ?_
    refine WW.seq ?_
    refine WW.region ?_
    refine q_pu hS (wn rfl) rfl rfl rfl (v := .pointer (some ⟨ip0_1, 0, none⟩)) (aop_move (hS.lk rfl)) fun s hS => ?_
    refine q_pu hS (wn rfl) rfl rfl rfl (v := .int .i64 p1_0) (aop_move (hS.lk rfl)) fun s hS => ?_
    obtain ⟨y5, hy5, h⟩ := bind_some h
    refine q_cl hS (wn rfl) (vs := [.pointer (some ⟨ip0_1, 0, none⟩), .int .i64 p1_0]) (ws := [.pointer (some ⟨ip0_1, 0, none⟩), .int .i64 p1_0]) rfl rfl rfl rfl rfl 5 rfl (g_source_squeezer_character.ok hy5 hp0_6 hp0_11 hp0_16 hp0_21) fun s v S' F' hp6 hF hS => ?_
    obtain ⟨a7, z8, B10, a11, z12, B14, a15, z16, B18, a19, z20, B22, rfl, rfl, rfl, h9, h13, h17, h21⟩ := hp6
    refine q_pu hS (wn rfl) rfl rfl rfl (v := .int .i64 y5.1) (aop_ext (hS.lk rfl) rfl) fun s hS => ?_
    refine q_pu hS (wn rfl) rfl rfl rfl (v := .int .i64 y5.2.1) (aop_ext (hS.lk rfl) rfl) fun s hS => ?_
    refine q_pu hS (wn rfl) rfl rfl rfl (v := .int .i64 y5.1) (aop_assign (hS.lk rfl)) fun s hS => ?_
    refine q_pu hS (wn rfl) rfl rfl rfl (v := .int .i64 y5.2.1) (aop_assign (hS.lk rfl)) fun s hS => ?_
    refine KW.nil ?_
    refine WW.ret ?_
    have hres := (res_tmp hS (t := 4) (v := .int .i64 y5.1) rfl (res_tmp hS (t := 5) (v := .int .i64 y5.2.1) rfl (res_nil (E := EV) (s := s))))
    obtain rfl := Option.some.inj h
    exact fin hS (.inr rfl) hres (v := .tuple #[.int .i64 y5.1, .int .i64 y5.2.1]) rfl ⟨_, _, _, _, _, _, _, _, _, _, _, _, rfl, rfl, rfl, h9, h13, h17, h21⟩
  · rw [ite_f hc4] at h
    replace hS := hS.know (t := 16) rfl (congrArg Value.bool hc4)
    refine WW.condF hS rfl rfl ?_
    refine WW.skip ?_
    obtain ⟨z23, hz23, h⟩ := bind_some h
    refine WW.seqJ (fun s => Stt EV s [(0, .pointer (some ⟨ip0_1, 0, none⟩)), (1, .int .i64 p1_0), (4, .int .i64 0), (5, .int .i64 0), (6, vB z23)] [[(ip0_1, .row [strV p0_1, .slice ap0_4 p0_2.length zp0_5, .slice ap0_9 p0_7.length zp0_10, .slice ap0_14 p0_12.length zp0_15, .slice ap0_19 p0_17.length zp0_20] 86 0 true)], Bp0_7, Bp0_12, Bp0_17, Bp0_22] F L F nx0) ?_ ?_
    ·
      refine WW.seq ?_
      refine WW.region ?_
      refine q_pu hS (wn rfl) rfl rfl rfl (v := vB (gt p0_1 p1_0)) (aop_move (hS.lk rfl)) fun s hS => ?_
      refine q_pu hS (wn rfl) rfl rfl rfl (v := .bool (decide (((97 : UInt8).toNat : Int) ≤ ((gt p0_1 p1_0).toNat : Int)))) (aop_int (hS.lk rfl) (hS.lk rfl) rfl) fun s hS => ?_
      refine q_pu hS (wn rfl) rfl rfl rfl (v := .bool (decide (((97 : UInt8).toNat : Int) ≤ ((gt p0_1 p1_0).toNat : Int)))) (aop_move (hS.lk rfl)) fun s hS => ?_
      refine q_cut 3 (fun s => Stt EV s [(27, .bool ((decide (((97 : UInt8).toNat : Int) ≤ ((gt p0_1 p1_0).toNat : Int))) && (decide (((gt p0_1 p1_0).toNat : Int) ≤ ((122 : UInt8).toNat : Int))))), (0, .pointer (some ⟨ip0_1, 0, none⟩)), (1, .int .i64 p1_0), (4, .int .i64 0), (5, .int .i64 0), (6, vB (gt p0_1 p1_0))] [[(ip0_1, .row [strV p0_1, .slice ap0_4 p0_2.length zp0_5, .slice ap0_9 p0_7.length zp0_10, .slice ap0_14 p0_12.length zp0_15, .slice ap0_19 p0_17.length zp0_20] 86 0 true)], Bp0_7, Bp0_12, Bp0_17, Bp0_22] F L F nx0) ?_ fun s hS => ?_
      ·
        rcases bool_cases ((decide (((97 : UInt8).toNat : Int) ≤ ((gt p0_1 p1_0).toNat : Int)))) with hcj | hcj
        ·
          replace hS := hS.know (t := 23) rfl (congrArg Value.bool hcj)
          replace hS := hS.know (t := 24) rfl (congrArg Value.bool hcj)
          refine q_pu hS (wt hS rfl rfl rfl rfl) rfl rfl rfl (v := vB (gt p0_1 p1_0)) (aop_move (hS.lk rfl)) fun s hS => ?_
          refine q_pu hS (wt hS rfl rfl rfl rfl) rfl rfl rfl (v := .bool (decide (((gt p0_1 p1_0).toNat : Int) ≤ ((122 : UInt8).toNat : Int)))) (aop_int (hS.lk rfl) (hS.lk rfl) rfl) fun s hS => ?_
          refine q_pu hS (wn rfl) rfl rfl rfl (v := .bool (decide (((gt p0_1 p1_0).toNat : Int) ≤ ((122 : UInt8).toNat : Int)))) (aop_pickT (hS.lk rfl) (hS.lk rfl)) fun s hS => ?_
          refine KW.nil ?_
          exact (hS.know (t := 27) (u' := .bool ((decide (((97 : UInt8).toNat : Int) ≤ ((gt p0_1 p1_0).toNat : Int))) && (decide (((gt p0_1 p1_0).toNat : Int) ≤ ((122 : UInt8).toNat : Int))))) rfl (jn_and_t hcj)).sub (.c rfl (.c rfl (.c rfl (.c rfl (.c rfl (.c rfl .n))))))
        ·
          replace hS := hS.know (t := 23) rfl (congrArg Value.bool hcj)
          replace hS := hS.know (t := 24) rfl (congrArg Value.bool hcj)
          refine q_no hS (wf hS rfl rfl rfl rfl) rfl fun s hS => ?_
          refine q_no hS (wf hS rfl rfl rfl rfl) rfl fun s hS => ?_
          refine q_pu hS (wn rfl) rfl rfl rfl (v := .bool false) (aop_pickF (hS.lk rfl) (hS.lk rfl)) fun s hS => ?_
          refine KW.nil ?_
          exact (hS.know (t := 27) (u' := .bool ((decide (((97 : UInt8).toNat : Int) ≤ ((gt p0_1 p1_0).toNat : Int))) && (decide (((gt p0_1 p1_0).toNat : Int) ≤ ((122 : UInt8).toNat : Int))))) rfl (jn_and_f hcj)).sub (.c rfl (.c rfl (.c rfl (.c rfl (.c rfl (.c rfl .n))))))
      refine KW.nil ?_
      rcases bool_cases (((decide (((97 : UInt8).toNat : Int) ≤ ((gt p0_1 p1_0).toNat : Int))) && (decide (((gt p0_1 p1_0).toNat : Int) ≤ ((122 : UInt8).toNat : Int))))) with hc24 | hc24
      · rw [ite_t hc24] at hz23
        replace hS := hS.know (t := 27) rfl (congrArg Value.bool hc24)
        refine WW.condK hS rfl rfl ?_
        refine WW.region ?_
        refine q_pu hS (wn rfl) rfl rfl rfl (v := vB (gt p0_1 p1_0)) (aop_move (hS.lk rfl)) fun s hS => ?_
        refine q_pu hS (wn rfl) rfl rfl rfl (v := vB ((gt p0_1 p1_0) - 32)) (aop_u8sub (hS.lk rfl) (hS.lk rfl)) fun s hS => ?_
        refine q_pu hS (wn rfl) rfl rfl rfl (v := vB ((gt p0_1 p1_0) - 32)) (aop_assign (hS.lk rfl)) fun s hS => ?_
        refine KW.nil ?_
        obtain rfl := Option.some.inj hz23
        exact (hS.sub (.c rfl (.c rfl (.c rfl (.c rfl (.c rfl .n))))))
      · rw [ite_f hc24] at hz23
        replace hS := hS.know (t := 27) rfl (congrArg Value.bool hc24)
        refine WW.condF hS rfl rfl ?_
        refine WW.skip ?_
        obtain rfl := Option.some.inj hz23
        exact (hS.sub (.c rfl (.c rfl (.c rfl (.c rfl (.c rfl .n))))))
    ·
      rintro s hS
      refine WW.seq ?_
      refine WW.seq ?_
      refine WW.region ?_
      refine q_pu hS (wn rfl) rfl rfl rfl (v := vB z23) (aop_move (hS.lk rfl)) fun s hS => ?_
      refine q_pu hS (wn rfl) rfl rfl rfl (v := .bool ((z23.toNat : Int) == ((72 : UInt8).toNat : Int))) (aop_int (hS.lk rfl) (hS.lk rfl) rfl) fun s hS => ?_
      refine KW.nil ?_
      rcases bool_cases (((z23.toNat : Int) == ((72 : UInt8).toNat : Int))) with hc25 | hc25
      · rw [ite_t hc25] at h
        replace hS := hS.know (t := 31) rfl (congrArg Value.bool hc25)
        refine WW.condK hS rfl rfl ?_
        refine WW.seq ?_
        refine WW.region ?_
        refine q_pu hS (wn rfl) rfl rfl rfl (v := .pointer (some ⟨ip0_1, 0, none⟩)) (aop_move (hS.lk rfl)) fun s hS => ?_
        obtain ⟨y26, hy26, h⟩ := bind_some h
        refine q_cl hS (wn rfl) (vs := [.pointer (some ⟨ip0_1, 0, none⟩)]) (ws := [.pointer (some ⟨ip0_1, 0, none⟩)]) rfl rfl rfl rfl rfl 5 rfl (g_source_squeezer_hollerith.ok hy26 hp0_6 hp0_16) fun s v S' F' hp27 hF hS => ?_
        obtain ⟨rfl, rfl, rfl⟩ := hp27
        refine q_pu hS (wn rfl) rfl rfl rfl (v := .tuple #[.int .i64 y26.1, .bool y26.2]) (aop_move (hS.lk rfl)) fun s hS => ?_
        refine q_pu hS (wn rfl) rfl rfl rfl (v := .int .i64 y26.1) (aop_ext (hS.lk rfl) rfl) fun s hS => ?_
        refine q_pu hS (wn rfl) rfl rfl rfl (v := .bool y26.2) (aop_ext (hS.lk rfl) rfl) fun s hS => ?_
        refine q_pu hS (wn rfl) rfl rfl rfl (v := .int .i64 y26.1) (aop_assign (hS.lk rfl)) fun s hS => ?_
        refine q_pu hS (wn rfl) rfl rfl rfl (v := .bool y26.2) (aop_assign (hS.lk rfl)) fun s hS => ?_
        refine KW.nil ?_
        refine WW.seq ?_
        refine WW.region ?_
        refine q_pu hS (wn rfl) rfl rfl rfl (v := .bool y26.2) (aop_move (hS.lk rfl)) fun s hS => ?_
        refine KW.nil ?_
        rcases bool_cases (y26.2) with hc28 | hc28
        · rw [ite_t hc28] at h
          replace hS := hS.know (t := 36) rfl (congrArg Value.bool hc28)
          replace hS := hS.know (t := 8) rfl (congrArg Value.bool hc28)
          replace hS := hS.know (t := 37) rfl (congrArg Value.bool hc28)
          refine WW.condK hS rfl rfl ?_
          refine WW.seq ?_
          refine WW.region ?_
          refine q_pu hS (wn rfl) rfl rfl rfl (v := .pointer (some ⟨ip0_1, 0, none⟩)) (aop_move (hS.lk rfl)) fun s hS => ?_
          refine q_pu hS (wn rfl) rfl rfl rfl (v := .int .i64 y26.1) (aop_move (hS.lk rfl)) fun s hS => ?_
          refine q_pu hS (wn rfl) rfl rfl rfl (v := .int .i64 p1_0) (aop_move (hS.lk rfl)) fun s hS => ?_
          obtain ⟨y29, hy29, h⟩ := bind_some h
          refine q_cl hS (wn rfl) (vs := [.pointer (some ⟨ip0_1, 0, none⟩), .int .i64 y26.1, .int .i64 p1_0]) (ws := [.pointer (some ⟨ip0_1, 0, none⟩), .int .i64 y26.1, .int .i64 p1_0]) rfl rfl rfl rfl rfl 5 rfl (g_source_squeezer_count.ok hy29 hp0_6 hp0_11 hp0_16 hp0_21 hG) fun s v S' F' hp30 hF hS => ?_
          obtain ⟨a31, z32, B34, a35, z36, B38, a39, z40, B42, a43, z44, B46, rfl, rfl, rfl, h33, h37, h41, h45⟩ := hp30
          refine q_pu hS (wn rfl) rfl rfl rfl (v := .int .i64 y29.1) (aop_ext (hS.lk rfl) rfl) fun s hS => ?_
          refine q_pu hS (wn rfl) rfl rfl rfl (v := .int .i64 y29.2.1) (aop_ext (hS.lk rfl) rfl) fun s hS => ?_
          refine q_pu hS (wn rfl) rfl rfl rfl (v := .int .i64 y29.1) (aop_assign (hS.lk rfl)) fun s hS => ?_
          refine q_pu hS (wn rfl) rfl rfl rfl (v := .int .i64 y29.2.1) (aop_assign (hS.lk rfl)) fun s hS => ?_
          refine KW.nil ?_
          refine WW.ret ?_
          have hres := (res_tmp hS (t := 4) (v := .int .i64 y29.1) rfl (res_tmp hS (t := 5) (v := .int .i64 y29.2.1) rfl (res_nil (E := EV) (s := s))))
          obtain rfl := Option.some.inj h
          exact fin hS (.inr rfl) hres (v := .tuple #[.int .i64 y29.1, .int .i64 y29.2.1]) rfl ⟨_, _, _, _, _, _, _, _, _, _, _, _, rfl, rfl, rfl, h33, h37, h41, h45⟩
        · rw [ite_f hc28] at h
          replace hS := hS.know (t := 36) rfl (congrArg Value.bool hc28)
          replace hS := hS.know (t := 8) rfl (congrArg Value.bool hc28)
          replace hS := hS.know (t := 37) rfl (congrArg Value.bool hc28)
          refine WW.condF hS rfl rfl ?_
          refine WW.skip ?_
          obtain ⟨z47, hz47, h⟩ := bind_some h
          refine WW.seqJ (fun s => ∃ (a48 : Option Addr) (z49 : Nat) (B51 : Seg) (a52 : Option Addr) (z53 : Nat) (B55 : Seg) (a56 : Option Addr) (z57 : Nat) (B59 : Seg), Stt EV s [(1, .int .i64 p1_0), (4, .int .i64 0), (5, .int .i64 0)] [[(ip0_1, .row [strV p0_1, .slice a48 z47.1.length z49, .slice a52 z47.2.1.length z53, .slice a56 z47.2.2.length z57, .slice ap0_19 p0_17.length zp0_20] 86 0 true)], B51, B55, B59, Bp0_22] F L F nx0 ∧ Own (elB 5) F a48 z49 z47.1 B51 ∧ Own (elI .i64 3) F a52 z53 z47.2.1 B55 ∧ Own (elBool 4) F a56 z57 z47.2.2 B59) ?_ ?_
          ·
            refine WW.seq ?_
            refine WW.region ?_
            refine q_pu hS (wn rfl) rfl rfl rfl (v := vB z23) (aop_move (hS.lk rfl)) fun s hS => ?_
            refine q_pu hS (wn rfl) rfl rfl rfl (v := .bool ((z23.toNat : Int) != ((32 : UInt8).toNat : Int))) (aop_int (hS.lk rfl) (hS.lk rfl) rfl) fun s hS => ?_
            refine KW.nil ?_
            rcases bool_cases (((z23.toNat : Int) != ((32 : UInt8).toNat : Int))) with hc60 | hc60
            · rw [ite_t hc60] at hz47
              replace hS := hS.know (t := 45) rfl (congrArg Value.bool hc60)
              refine WW.condK hS rfl rfl ?_
              refine WW.region ?_
              refine q_pu hS (wn rfl) rfl rfl rfl (v := .pointer (some ⟨ip0_1, 0, none⟩)) (aop_move (hS.lk rfl)) fun s hS => ?_
              refine q_pu hS (wn rfl) rfl rfl rfl (v := vB z23) (aop_move (hS.lk rfl)) fun s hS => ?_
              refine q_pu hS (wn rfl) rfl rfl rfl (v := .int .i64 p1_0) (aop_move (hS.lk rfl)) fun s hS => ?_
              obtain ⟨y61, hy61, hz47⟩ := bind_some hz47
              refine q_cl hS (wn rfl) (vs := [.pointer (some ⟨ip0_1, 0, none⟩), vB z23, .int .i64 p1_0, .bool false]) (ws := [.pointer (some ⟨ip0_1, 0, none⟩), vB z23, .int .i64 p1_0, .bool false]) rfl rfl rfl rfl rfl 5 rfl (g_source_squeezer_put.ok hy61 hp0_6 hp0_11 hp0_16) fun s v S' F' hp62 hF hS => ?_
              obtain ⟨a63, z64, B66, a67, z68, B70, a71, z72, B74, rfl, rfl, rfl, h65, h69, h73⟩ := hp62
              refine KW.nil ?_
              obtain rfl := Option.some.inj hz47
              exact ⟨_, _, _, _, _, _, _, _, _, (hS.sub (.c rfl (.c rfl (.c rfl .n)))), h65, h69, h73⟩
            · rw [ite_f hc60] at hz47
              replace hS := hS.know (t := 45) rfl (congrArg Value.bool hc60)
              refine WW.condF hS rfl rfl ?_
              refine WW.skip ?_
              obtain rfl := Option.some.inj hz47
              exact ⟨_, _, _, _, _, _, _, _, _, (hS.sub (.c rfl (.c rfl (.c rfl .n)))), hp0_6, hp0_11, hp0_16⟩
          ·
            rintro s ⟨a48, z49, B51, a52, z53, B55, a56, z57, B59, hS, h50, h54, h58⟩
            refine WW.seq ?_
            refine WW.region ?_
            refine q_pu hS (wn rfl) rfl rfl rfl (v := .int .i64 p1_0) (aop_move (hS.lk rfl)) fun s hS => ?_
            refine q_pu hS (wn rfl) rfl rfl rfl (v := .int .i64 (w64 (p1_0 + 1))) (aop_int (hS.lk rfl) (hS.lk rfl) rfl) fun s hS => ?_
            refine q_pu hS (wn rfl) rfl rfl rfl (v := .int .i64 (w64 (p1_0 + 1))) (aop_assign (hS.lk rfl)) fun s hS => ?_
            refine q_pu hS (wn rfl) rfl rfl rfl (v := .int .i64 0) (aop_assign (hS.lk rfl)) fun s hS => ?_
            refine KW.nil ?_
            refine WW.ret ?_
            have hres := (res_tmp hS (t := 4) (v := .int .i64 (w64 (p1_0 + 1))) rfl (res_tmp hS (t := 5) (v := .int .i64 0) rfl (res_nil (E := EV) (s := s))))
            obtain rfl := Option.some.inj h
            exact fin hS (.inr rfl) hres (v := .tuple #[.int .i64 (w64 (p1_0 + 1)), .int .i64 0]) rfl ⟨_, _, _, _, _, _, _, _, _, _, _, _, rfl, rfl, rfl, h50, h54, h58, hp0_21⟩
      · rw [ite_f hc25] at h
        replace hS := hS.know (t := 31) rfl (congrArg Value.bool hc25)
        refine WW.condF hS rfl rfl ?_
        refine WW.skip ?_
        obtain ⟨z75, hz75, h⟩ := bind_some h
        refine WW.seqJ (fun s => ∃ (a76 : Option Addr) (z77 : Nat) (B79 : Seg) (a80 : Option Addr) (z81 : Nat) (B83 : Seg) (a84 : Option Addr) (z85 : Nat) (B87 : Seg), Stt EV s [(1, .int .i64 p1_0), (4, .int .i64 0), (5, .int .i64 0)] [[(ip0_1, .row [strV p0_1, .slice a76 z75.1.length z77, .slice a80 z75.2.1.length z81, .slice a84 z75.2.2.length z85, .slice ap0_19 p0_17.length zp0_20] 86 0 true)], B79, B83, B87, Bp0_22] F L F nx0 ∧ Own (elB 5) F a76 z77 z75.1 B79 ∧ Own (elI .i64 3) F a80 z81 z75.2.1 B83 ∧ Own (elBool 4) F a84 z85 z75.2.2 B87) ?_ ?_
        ·
          refine WW.seq ?_
          refine WW.region ?_
          refine q_pu hS (wn rfl) rfl rfl rfl (v := vB z23) (aop_move (hS.lk rfl)) fun s hS => ?_
          refine q_pu hS (wn rfl) rfl rfl rfl (v := .bool ((z23.toNat : Int) != ((32 : UInt8).toNat : Int))) (aop_int (hS.lk rfl) (hS.lk rfl) rfl) fun s hS => ?_
          refine KW.nil ?_
          rcases bool_cases (((z23.toNat : Int) != ((32 : UInt8).toNat : Int))) with hc88 | hc88
          · rw [ite_t hc88] at hz75
            replace hS := hS.know (t := 45) rfl (congrArg Value.bool hc88)
            refine WW.condK hS rfl rfl ?_
            refine WW.region ?_
            refine q_pu hS (wn rfl) rfl rfl rfl (v := .pointer (some ⟨ip0_1, 0, none⟩)) (aop_move (hS.lk rfl)) fun s hS => ?_
            refine q_pu hS (wn rfl) rfl rfl rfl (v := vB z23) (aop_move (hS.lk rfl)) fun s hS => ?_
            refine q_pu hS (wn rfl) rfl rfl rfl (v := .int .i64 p1_0) (aop_move (hS.lk rfl)) fun s hS => ?_
            obtain ⟨y89, hy89, hz75⟩ := bind_some hz75
            refine q_cl hS (wn rfl) (vs := [.pointer (some ⟨ip0_1, 0, none⟩), vB z23, .int .i64 p1_0, .bool false]) (ws := [.pointer (some ⟨ip0_1, 0, none⟩), vB z23, .int .i64 p1_0, .bool false]) rfl rfl rfl rfl rfl 5 rfl (g_source_squeezer_put.ok hy89 hp0_6 hp0_11 hp0_16) fun s v S' F' hp90 hF hS => ?_
            obtain ⟨a91, z92, B94, a95, z96, B98, a99, z100, B102, rfl, rfl, rfl, h93, h97, h101⟩ := hp90
            refine KW.nil ?_
            obtain rfl := Option.some.inj hz75
            exact ⟨_, _, _, _, _, _, _, _, _, (hS.sub (.c rfl (.c rfl (.c rfl .n)))), h93, h97, h101⟩
          · rw [ite_f hc88] at hz75
            replace hS := hS.know (t := 45) rfl (congrArg Value.bool hc88)
            refine WW.condF hS rfl rfl ?_
            refine WW.skip ?_
            obtain rfl := Option.some.inj hz75
            exact ⟨_, _, _, _, _, _, _, _, _, (hS.sub (.c rfl (.c rfl (.c rfl .n)))), hp0_6, hp0_11, hp0_16⟩
        ·
          rintro s ⟨a76, z77, B79, a80, z81, B83, a84, z85, B87, hS, h78, h82, h86⟩
          refine WW.seq ?_
          refine WW.region ?_
          refine q_pu hS (wn rfl) rfl rfl rfl (v := .int .i64 p1_0) (aop_move (hS.lk rfl)) fun s hS => ?_
          refine q_pu hS (wn rfl) rfl rfl rfl (v := .int .i64 (w64 (p1_0 + 1))) (aop_int (hS.lk rfl) (hS.lk rfl) rfl) fun s hS => ?_
          refine q_pu hS (wn rfl) rfl rfl rfl (v := .int .i64 (w64 (p1_0 + 1))) (aop_assign (hS.lk rfl)) fun s hS => ?_
          refine q_pu hS (wn rfl) rfl rfl rfl (v := .int .i64 0) (aop_assign (hS.lk rfl)) fun s hS => ?_
          refine KW.nil ?_
          refine WW.ret ?_
          have hres := (res_tmp hS (t := 4) (v := .int .i64 (w64 (p1_0 + 1))) rfl (res_tmp hS (t := 5) (v := .int .i64 0) rfl (res_nil (E := EV) (s := s))))
          obtain rfl := Option.some.inj h
          exact fin hS (.inr rfl) hres (v := .tuple #[.int .i64 (w64 (p1_0 + 1)), .int .i64 0]) rfl ⟨_, _, _, _, _, _, _, _, _, _, _, _, rfl, rfl, rfl, h78, h82, h86, hp0_21⟩
/-! ### formulary/source.squeeze (40) -/
noncomputable def g_source_squeeze.b0 (p0_0 : List UInt8) (x7 : Int × List UInt8 × List Int × List Bool × (List (Int × Int))) : Option ((Int × List UInt8 × List Int × List Bool × (List (Int × Int))) ⊕ ((Int × List UInt8 × List Int × List Bool × (List (Int × Int))) ⊕ ((Option (List UInt8 × List UInt8 × List Int × List Bool × (List (Int × Int)))) × Int))) :=
  (if (decide (x7.1 < (p0_0.length : Int))) then Option.bind (g_source_squeezer_next.f p0_0 x7.2.1 x7.2.2.1 x7.2.2.2.1 x7.2.2.2.2 x7.1) fun y44 => (if (y44.2.1 != 0) then some (.inr (.inr (none, y44.2.1))) else some (.inl (y44.1, y44.2.2.1, y44.2.2.2.1, y44.2.2.2.2.1, y44.2.2.2.2.2))) else some (.inr (.inl (x7.1, x7.2.1, x7.2.2.1, x7.2.2.2.1, x7.2.2.2.2))))
noncomputable def g_source_squeeze.f (p0_0 : List UInt8) : Option ((Option (List UInt8 × List UInt8 × List Int × List Bool × (List (Int × Int)))) × Int) :=
  Option.bind (g_source_textErr.f p0_0) fun y1 => (if (y1 != 0) then some (none, y1) else Option.bind (iter (g_source_squeeze.b0 p0_0) (0, ([] : List UInt8), ([] : List Int), ([] : List Bool), ([] : List (Int × Int)))) fun o24 => onSum o24 fun y63 => some ((some (p0_0, y63.2.1, y63.2.2.1, y63.2.2.2.1, y63.2.2.2.2)), 0))
set_option maxHeartbeats 4000000 in
theorem g_source_squeeze.ok {p0_0 : List UInt8} {F : FZ} {r : (Option (List UInt8 × List UInt8 × List Int × List Bool × (List (Int × Int)))) × Int} (h : g_source_squeeze.f p0_0 = some r) (hG : Gl F) :
    Cl EV 40 [strV p0_0] [] F (fun v S' F' => ∃ (rv : Value) (rS : List Seg), FLe F F' ∧ v = .tuple #[rv, .int .i64 r.2] ∧ S' = [] ++ rS ∧ ((r.1 = none ∧ rv = .pointer none ∧ rS = []) ∨ (∃ (rq : List UInt8 × List UInt8 × List Int × List Bool × (List (Int × Int))) (ri1 : Nat) (ra2 : Option Addr) (rz3 : Nat) (rB5 : Seg) (ra6 : Option Addr) (rz7 : Nat) (rB9 : Seg) (ra10 : Option Addr) (rz11 : Nat) (rB13 : Seg) (ra14 : Option Addr) (rz15 : Nat) (rB17 : Seg), r.1 = some rq ∧ rv = .pointer (some ⟨ri1, 0, none⟩) ∧ rS = [[(ri1, .row [strV rq.1, .slice ra2 rq.2.1.length rz3, .slice ra6 rq.2.2.1.length rz7, .slice ra10 rq.2.2.2.1.length rz11, .slice ra14 rq.2.2.2.2.length rz15] 86 0 true)], rB5, rB9, rB13, rB17] ∧ Own (elB 5) F' ra2 rz3 rq.2.1 rB5 ∧ Own (elI .i64 3) F' ra6 rz7 rq.2.2.1 rB9 ∧ Own (elBool 4) F' ra10 rz11 rq.2.2.2.1 rB13 ∧ Own el34 F' ra14 rz15 rq.2.2.2.2 rB17))) := by
  refine Cl.of Tryz.func40 rfl (fun _ _ => rfl) (by kernel_rfl) fun s L nx0 hS => ?_
  unfold g_source_squeeze.f at h
  refine WW.seq ?_
  refine WW.region ?_
  refine q_pu hS (wn rfl) rfl rfl rfl (v := .pointer none) (aop_assign (hS.lk rfl)) fun s hS => ?_
  refine q_pu hS (wn rfl) rfl rfl rfl (v := .int .i64 0) (aop_assign (hS.lk rfl)) fun s hS => ?_
  refine KW.nil ?_
  refine WW.seq ?_
  refine WW.seq ?_
  refine WW.region ?_
  refine q_pu hS (wn rfl) rfl rfl rfl (v := strV p0_0) (aop_move (hS.lk rfl)) fun s hS => ?_
  obtain ⟨y1, hy1, h⟩ := bind_some h
  refine q_cl hS (wn rfl) (vs := [strV p0_0]) (ws := [strV p0_0]) rfl rfl rfl rfl rfl 0 rfl (g_source_textErr.ok hy1) fun s v S' F3 hp2 hF hS => ?_
  obtain ⟨hF4, rfl, rfl⟩ := hp2
  refine q_pu hS (wn rfl) rfl rfl rfl (v := .int .i64 y1) (aop_assign (hS.lk rfl)) fun s hS => ?_
  refine KW.nil ?_
  refine WW.seq ?_
  refine WW.region ?_
  refine q_pu hS (wn rfl) rfl rfl rfl (v := .int .i64 y1) (aop_move (hS.lk rfl)) fun s hS => ?_
  refine q_pu hS (wn rfl) rfl rfl rfl (v := .bool (y1 != 0)) (aop_int (hS.lk rfl) (hS.lk rfl) rfl) fun s hS => ?_
  refine KW.nil ?_
  rcases bool_cases ((y1 != 0)) with hc5 | hc5
  · rw [ite_t hc5] at h
    replace hS := hS.know (t := 12) rfl (congrArg Value.bool hc5)
    refine WW.condK hS rfl rfl ?_
    refine WW.seq ?_
    refine WW.region ?_
    refine q_pu hS (wn rfl) rfl rfl rfl (v := .int .i64 y1) (aop_move (hS.lk rfl)) fun s hS => ?_
    refine q_pu hS (wn rfl) rfl rfl rfl (v := .pointer none) (aop_assign (hS.lk rfl)) fun s hS => ?_
    refine q_pu hS (wn rfl) rfl rfl rfl (v := .int .i64 y1) (aop_assign (hS.lk rfl)) fun s hS => ?_
    refine KW.nil ?_
    refine WW.ret ?_
    have hres := (res_tmp hS (t := 2) (v := .pointer none) rfl (res_tmp hS (t := 3) (v := .int .i64 y1) rfl (res_nil (E := EV) (s := s))))
    obtain rfl := Option.some.inj h
    exact fin hS (.inr rfl) hres (v := .tuple #[.pointer none, .int .i64 y1]) rfl ⟨_, _, (hF4), rfl, rfl, .inl ⟨rfl, rfl, rfl⟩⟩
  · rw [ite_f hc5] at h
    replace hS := hS.know (t := 12) rfl (congrArg Value.bool hc5)
    refine WW.condF hS rfl rfl ?_
    refine WW.skip ?_
    refine WW.seq ?_
    refine WW.region ?_
    refine q_pu hS (wn rfl) rfl rfl rfl (v := strV p0_0) (aop_move (hS.lk rfl)) fun s hS => ?_
    refine q_pu hS (wn rfl) rfl rfl rfl (v := .agg #[strV p0_0, .slice none 0 0, .slice none 0 0, .slice none 0 0, .slice none 0 0]) (aop_bld t0_86 tp86 [(0, strV p0_0)] (parts_eq hS rfl) (cs := [strV p0_0, .slice none 0 0, .slice none 0 0, .slice none 0 0, .slice none 0 0]) rfl) fun s hS => ?_
    refine q_nw hS (wn rfl) rfl rfl rfl (v := fun i => .pointer (some ⟨i, 0, none⟩)) (b := .row [strV p0_0, .slice none 0 0, .slice none 0 0, .slice none 0 0, .slice none 0 0] 86 0 true) (aop_box (hS.lk rfl) rfl [strV p0_0, .slice none 0 0, .slice none 0 0, .slice none 0 0, .slice none 0 0] rfl) fun s i6 hS => ?_
    refine q_pu hS (wn rfl) rfl rfl rfl (v := .pointer (some ⟨i6, 0, none⟩)) (aop_assign (hS.lk rfl)) fun s hS => ?_
    refine KW.nil ?_
    refine WW.seq ?_
    refine WW.seq ?_
    refine WW.region ?_
    refine q_pu hS (wn rfl) rfl rfl rfl (v := .int .i64 0) (aop_assign (hS.lk rfl)) fun s hS => ?_
    refine KW.nil ?_
    refine WW.block ?_
    replace hS := hS.gap0
    replace hS := hS.gap0
    replace hS := hS.gap0
    replace hS := hS.gap0
    obtain ⟨o24, ho24, h⟩ := bind_some h
    refine WW.loop (LW.iter ho24 (fun (x7 : Int × List UInt8 × List Int × List Bool × (List (Int × Int))) s => ∃ (a8 : Option Addr) (z9 : Nat) (B11 : Seg) (a12 : Option Addr) (z13 : Nat) (B15 : Seg) (a16 : Option Addr) (z17 : Nat) (B19 : Seg) (a20 : Option Addr) (z21 : Nat) (B23 : Seg), Stt EV s [(0, strV p0_0), (2, .pointer none), (3, .int .i64 0), (5, .pointer (some ⟨i6, 0, none⟩)), (6, .int .i64 x7.1)] [B23, B19, B15, B11, [(i6, .row [strV p0_0, .slice a8 x7.2.1.length z9, .slice a12 x7.2.2.1.length z13, .slice a16 x7.2.2.2.1.length z17, .slice a20 x7.2.2.2.2.length z21] 86 0 true)]] F3 L F nx0 ∧ Own (elB 5) F3 a8 z9 x7.2.1 B11 ∧ Own (elI .i64 3) F3 a12 z13 x7.2.2.1 B15 ∧ Own (elBool 4) F3 a16 z17 x7.2.2.2.1 B19 ∧ Own el34 F3 a20 z21 x7.2.2.2.2 B23) (fun (o : (Int × List UInt8 × List Int × List Bool × (List (Int × Int))) ⊕ ((Option (List UInt8 × List UInt8 × List Int × List Bool × (List (Int × Int)))) × Int)) e s => match o with | .inl y25 => (e = .exit 0 ∧ ∃ (a26 : Option Addr) (z27 : Nat) (B29 : Seg) (a30 : Option Addr) (z31 : Nat) (B33 : Seg) (a34 : Option Addr) (z35 : Nat) (B37 : Seg) (a38 : Option Addr) (z39 : Nat) (B41 : Seg), Stt EV s [(0, strV p0_0), (2, .pointer none), (3, .int .i64 0), (5, .pointer (some ⟨i6, 0, none⟩)), (6, .int .i64 y25.1)] [B41, B37, B33, B29, [(i6, .row [strV p0_0, .slice a26 y25.2.1.length z27, .slice a30 y25.2.2.1.length z31, .slice a34 y25.2.2.2.1.length z35, .slice a38 y25.2.2.2.2.length z39] 86 0 true)]] F3 L F nx0 ∧ Own (elB 5) F3 a26 z27 y25.2.1 B29 ∧ Own (elI .i64 3) F3 a30 z31 y25.2.2.1 B33 ∧ Own (elBool 4) F3 a34 z35 y25.2.2.2.1 B37 ∧ Own el34 F3 a38 z39 y25.2.2.2.2 B41) | .inr r => (e = .ret ∧ FinQ EV Tryz.f40 L F nx0 (fun v S' F' => ∃ (rv : Value) (rS : List Seg), FLe F F' ∧ v = .tuple #[rv, .int .i64 r.2] ∧ S' = [] ++ rS ∧ ((r.1 = none ∧ rv = .pointer none ∧ rS = []) ∨ (∃ (rq : List UInt8 × List UInt8 × List Int × List Bool × (List (Int × Int))) (ri1 : Nat) (ra2 : Option Addr) (rz3 : Nat) (rB5 : Seg) (ra6 : Option Addr) (rz7 : Nat) (rB9 : Seg) (ra10 : Option Addr) (rz11 : Nat) (rB13 : Seg) (ra14 : Option Addr) (rz15 : Nat) (rB17 : Seg), r.1 = some rq ∧ rv = .pointer (some ⟨ri1, 0, none⟩) ∧ rS = [[(ri1, .row [strV rq.1, .slice ra2 rq.2.1.length rz3, .slice ra6 rq.2.2.1.length rz7, .slice ra10 rq.2.2.2.1.length rz11, .slice ra14 rq.2.2.2.2.length rz15] 86 0 true)], rB5, rB9, rB13, rB17] ∧ Own (elB 5) F' ra2 rz3 rq.2.1 rB5 ∧ Own (elI .i64 3) F' ra6 rz7 rq.2.2.1 rB9 ∧ Own (elBool 4) F' ra10 rz11 rq.2.2.2.1 rB13 ∧ Own el34 F' ra14 rz15 rq.2.2.2.2 rB17))) e s)) ⟨_, _, _, _, _, _, _, _, _, _, _, _, (hS.sub (.c rfl (.c rfl (.c rfl (.c rfl (.c rfl .n)))))), Own.nil, Own.nil, Own.nil, Own.nil⟩ ?_ ?_)
    · clear hS
      rintro x7 s ⟨a8, z9, B11, a12, z13, B15, a16, z17, B19, a20, z21, B23, hS, h10, h14, h18, h22⟩ o24' h42
      unfold g_source_squeeze.b0 at h42
      refine WW.seq ?_
      refine WW.seq ?_
      refine WW.region ?_
      refine q_pu hS (wn rfl) rfl rfl rfl (v := .int .i64 x7.1) (aop_move (hS.lk rfl)) fun s hS => ?_
      refine q_pu hS (wn rfl) rfl rfl rfl (v := strV p0_0) (aop_move (hS.lk rfl)) fun s hS => ?_
      refine q_pu hS (wn rfl) rfl rfl rfl (v := .int .i64 (p0_0.length : Int)) (aop_lenS rfl rfl tu9 (hS.lk rfl)) fun s hS => ?_
      refine q_pu hS (wn rfl) rfl rfl rfl (v := .bool (decide (x7.1 < (p0_0.length : Int)))) (aop_int (hS.lk rfl) (hS.lk rfl) rfl) fun s hS => ?_
      refine KW.nil ?_
      rcases bool_cases ((decide (x7.1 < (p0_0.length : Int)))) with hc43 | hc43
      · rw [ite_t hc43] at h42
        replace hS := hS.know (t := 20) rfl (congrArg Value.bool hc43)
        refine WW.condK hS rfl rfl ?_
        refine WW.skip ?_
        refine WW.block ?_
        refine WW.seq ?_
        refine WW.region ?_
        refine q_pu hS (wn rfl) rfl rfl rfl (v := .pointer (some ⟨i6, 0, none⟩)) (aop_move (hS.lk rfl)) fun s hS => ?_
        refine q_pu hS (wn rfl) rfl rfl rfl (v := .int .i64 x7.1) (aop_move (hS.lk rfl)) fun s hS => ?_
        obtain ⟨y44, hy44, h42⟩ := bind_some h42
        replace hS := hS.pull 1
        replace hS := hS.pull 2
        replace hS := hS.pull 3
        replace hS := hS.pull 4
        refine q_cl hS (wn rfl) (vs := [.pointer (some ⟨i6, 0, none⟩), .int .i64 x7.1]) (ws := [.pointer (some ⟨i6, 0, none⟩), .int .i64 x7.1]) rfl rfl rfl rfl rfl 5 rfl (g_source_squeezer_next.ok hy44 h10 h14 h18 h22 (hG.mono hF4)) fun s v S' F' hp45 hF hS => ?_
        obtain ⟨a46, z47, B49, a50, z51, B53, a54, z55, B57, a58, z59, B61, rfl, rfl, rfl, h48, h52, h56, h60⟩ := hp45
        refine q_pu hS (wn rfl) rfl rfl rfl (v := .tuple #[.int .i64 y44.1, .int .i64 y44.2.1]) (aop_move (hS.lk rfl)) fun s hS => ?_
        refine q_pu hS (wn rfl) rfl rfl rfl (v := .int .i64 y44.1) (aop_ext (hS.lk rfl) rfl) fun s hS => ?_
        refine q_pu hS (wn rfl) rfl rfl rfl (v := .int .i64 y44.2.1) (aop_ext (hS.lk rfl) rfl) fun s hS => ?_
        refine q_pu hS (wn rfl) rfl rfl rfl (v := .int .i64 y44.1) (aop_assign (hS.lk rfl)) fun s hS => ?_
        refine q_pu hS (wn rfl) rfl rfl rfl (v := .int .i64 y44.2.1) (aop_assign (hS.lk rfl)) fun s hS => ?_
        refine KW.nil ?_
        refine WW.seq ?_
        refine WW.seq ?_
        refine WW.region ?_
        refine q_pu hS (wn rfl) rfl rfl rfl (v := .int .i64 y44.2.1) (aop_move (hS.lk rfl)) fun s hS => ?_
        refine q_pu hS (wn rfl) rfl rfl rfl (v := .bool (y44.2.1 != 0)) (aop_int (hS.lk rfl) (hS.lk rfl) rfl) fun s hS => ?_
        refine KW.nil ?_
        rcases bool_cases ((y44.2.1 != 0)) with hc62 | hc62
        · rw [ite_t hc62] at h42
          replace hS := hS.know (t := 28) rfl (congrArg Value.bool hc62)
          refine WW.condK hS rfl rfl ?_
          refine WW.seq ?_
          refine WW.region ?_
          refine q_pu hS (wn rfl) rfl rfl rfl (v := .int .i64 y44.2.1) (aop_move (hS.lk rfl)) fun s hS => ?_
          refine q_pu hS (wn rfl) rfl rfl rfl (v := .pointer none) (aop_assign (hS.lk rfl)) fun s hS => ?_
          refine q_pu hS (wn rfl) rfl rfl rfl (v := .int .i64 y44.2.1) (aop_assign (hS.lk rfl)) fun s hS => ?_
          refine KW.nil ?_
          refine WW.ret ?_
          have hres := (res_tmp hS (t := 2) (v := .pointer none) rfl (res_tmp hS (t := 3) (v := .int .i64 y44.2.1) rfl (res_nil (E := EV) (s := s))))
          replace hS := hS.drop
          replace hS := hS.drop
          replace hS := hS.drop
          replace hS := hS.drop
          replace hS := hS.drop
          obtain rfl := Option.some.inj h42
          exact ⟨_, rfl, rfl, fin hS (.inr rfl) hres (v := .tuple #[.pointer none, .int .i64 y44.2.1]) rfl ⟨_, _, (hF4), rfl, rfl, .inl ⟨rfl, rfl, rfl⟩⟩⟩
        · rw [ite_f hc62] at h42
          replace hS := hS.know (t := 28) rfl (congrArg Value.bool hc62)
          refine WW.condF hS rfl rfl ?_
          refine WW.skip ?_
          refine WW.region ?_
          refine q_pu hS (wn rfl) rfl rfl rfl (v := .int .i64 y44.1) (aop_move (hS.lk rfl)) fun s hS => ?_
          refine q_pu hS (wn rfl) rfl rfl rfl (v := .int .i64 y44.1) (aop_assign (hS.lk rfl)) fun s hS => ?_
          refine KW.nil ?_
          replace hS := hS.pull 1
          replace hS := hS.pull 2
          replace hS := hS.pull 3
          replace hS := hS.pull 4
          obtain rfl := Option.some.inj h42
          exact ⟨_, rfl, _, _, _, _, _, _, _, _, _, _, _, _, (hS.sub (.c rfl (.c rfl (.c rfl (.c rfl (.c rfl .n)))))), h48, h52, h56, h60⟩
      · rw [ite_f hc43] at h42
        replace hS := hS.know (t := 20) rfl (congrArg Value.bool hc43)
        refine WW.condF hS rfl rfl ?_
        refine WW.exit ?_
        refine thenQ_exit ?_
        obtain rfl := Option.some.inj h42
        exact ⟨_, rfl, rfl, _, _, _, _, _, _, _, _, _, _, _, _, (hS.sub (.c rfl (.c rfl (.c rfl (.c rfl (.c rfl .n)))))), h10, h14, h18, h22⟩
    · clear hS
      rcases o24 with y63 | y63
      · rintro e s ⟨rfl, a64, z65, B67, a68, z69, B71, a72, z73, B75, a76, z77, B79, hS, h66, h70, h74, h78⟩
        replace h := match_inl h
        refine blockQ_exit ?_
        refine WW.seq ?_
        refine WW.region ?_
        refine q_pu hS (wn rfl) rfl rfl rfl (v := .pointer (some ⟨i6, 0, none⟩)) (aop_move (hS.lk rfl)) fun s hS => ?_
        refine q_pu hS (wn rfl) rfl rfl rfl (v := .pointer (some ⟨i6, 0, none⟩)) (aop_assign (hS.lk rfl)) fun s hS => ?_
        refine q_pu hS (wn rfl) rfl rfl rfl (v := .int .i64 0) (aop_assign (hS.lk rfl)) fun s hS => ?_
        refine KW.nil ?_
        refine WW.ret ?_
        have hres := (res_tmp hS (t := 2) (v := .pointer (some ⟨i6, 0, none⟩)) rfl (res_tmp hS (t := 3) (v := .int .i64 0) rfl (res_nil (E := EV) (s := s))))
        replace hS := hS.pull 1
        replace hS := hS.pull 2
        replace hS := hS.pull 3
        replace hS := hS.pull 4
        obtain rfl := Option.some.inj h
        exact fin hS (.inr rfl) hres (v := .tuple #[.pointer (some ⟨i6, 0, none⟩), .int .i64 0]) rfl ⟨_, _, (hF4), rfl, rfl, .inr ⟨_, _, _, _, _, _, _, _, _, _, _, _, _, _, rfl, rfl, rfl, h66, h70, h74, h78⟩⟩
      · rintro e s ⟨rfl, hfin⟩
        replace h := match_inr h
        obtain rfl := Option.some.inj h
        exact hfin
/-! ### formulary/source.Squeezed (12) -/
noncomputable def g_source_Squeezed.f (p0_0 : List UInt8) : Option (List UInt8 × List Int × Int) :=
  Option.bind (g_source_squeeze.f p0_0) fun y1 => (onOpt y1.1 ((if (y1.2 != 0) then some ([], ([] : List Int), y1.2) else none)) fun x9 => (if (y1.2 != 0) then some ([], ([] : List Int), y1.2) else some (x9.2.1, x9.2.2.1, 0)))
set_option maxHeartbeats 4000000 in
theorem g_source_Squeezed.ok {p0_0 : List UInt8} {F : FZ} {r : List UInt8 × List Int × Int} (h : g_source_Squeezed.f p0_0 = some r) (hG : Gl F) :
    Cl EV 12 [strV p0_0] [] F (fun v S' F' => ∃ (ra1 : Option Addr) (rz2 : Nat) (rB4 : Seg), FLe F F' ∧ v = .tuple #[strV r.1, .slice ra1 r.2.1.length rz2, .int .i64 r.2.2] ∧ S' = [rB4] ∧ Own (elI .i64 3) F' ra1 rz2 r.2.1 rB4) := by
  refine Cl.of Tryz.func12 rfl (fun _ _ => rfl) (by kernel_rfl) fun s L nx0 hS => ?_
  unfold g_source_Squeezed.f at h
  refine WW.seq ?_
  refine WW.region ?_
  refine q_pu hS (wn rfl) rfl rfl rfl (v := strV ([])) (aop_assign (hS.lk rfl)) fun s hS => ?_
  refine q_pu hS (wn rfl) rfl rfl rfl (v := .slice none 0 0) (aop_assign (hS.lk rfl)) fun s hS => ?_
  refine q_pu hS (wn rfl) rfl rfl rfl (v := .int .i64 0) (aop_assign (hS.lk rfl)) fun s hS => ?_
  refine KW.nil ?_
  refine WW.seq ?_
  refine WW.region ?_
  refine q_pu hS (wn rfl) rfl rfl rfl (v := strV p0_0) (aop_move (hS.lk rfl)) fun s hS => ?_
  obtain ⟨y1, hy1, h⟩ := bind_some h
  refine q_cl hS (wn rfl) (vs := [strV p0_0]) (ws := [strV p0_0]) rfl rfl rfl rfl rfl 0 rfl (g_source_squeeze.ok hy1 hG) fun s v S' F3 hp2 hF hS => ?_
  obtain ⟨v5, S6, hF4, rfl, rfl, ho7⟩ := hp2
  rcases ho7 with ⟨hq8, rfl, rfl⟩ | ⟨x9, i10, a11, z12, B14, a15, z16, B18, a19, z20, B22, a23, z24, B26, hq8, rfl, rfl, h13, h17, h21, h25⟩
  · rw [hq8] at h; replace h := match_none h
    refine q_pu hS (wn rfl) rfl rfl rfl (v := .tuple #[.pointer none, .int .i64 y1.2]) (aop_move (hS.lk rfl)) fun s hS => ?_
    refine q_pu hS (wn rfl) rfl rfl rfl (v := .pointer none) (aop_ext (hS.lk rfl) rfl) fun s hS => ?_
    refine q_pu hS (wn rfl) rfl rfl rfl (v := .int .i64 y1.2) (aop_ext (hS.lk rfl) rfl) fun s hS => ?_
    refine q_pu hS (wn rfl) rfl rfl rfl (v := .pointer none) (aop_assign (hS.lk rfl)) fun s hS => ?_
    refine q_pu hS (wn rfl) rfl rfl rfl (v := .int .i64 y1.2) (aop_assign (hS.lk rfl)) fun s hS => ?_
    refine KW.nil ?_
    refine WW.seq ?_
    refine WW.seq ?_
    refine WW.region ?_
    refine q_pu hS (wn rfl) rfl rfl rfl (v := .int .i64 y1.2) (aop_move (hS.lk rfl)) fun s hS => ?_
    refine q_pu hS (wn rfl) rfl rfl rfl (v := .bool (y1.2 != 0)) (aop_int (hS.lk rfl) (hS.lk rfl) rfl) fun s hS => ?_
    refine KW.nil ?_
    rcases bool_cases ((y1.2 != 0)) with hc27 | hc27
    · rw [ite_t hc27] at h
      replace hS := hS.know (t := 13) rfl (congrArg Value.bool hc27)
      refine WW.condK hS rfl rfl ?_
      refine WW.seq ?_
      refine WW.region ?_
      refine q_pu hS (wn rfl) rfl rfl rfl (v := .int .i64 y1.2) (aop_move (hS.lk rfl)) fun s hS => ?_
      refine q_pu hS (wn rfl) rfl rfl rfl (v := strV ([])) (aop_assign (hS.lk rfl)) fun s hS => ?_
      refine q_pu hS (wn rfl) rfl rfl rfl (v := .slice none 0 0) (aop_assign (hS.lk rfl)) fun s hS => ?_
      refine q_pu hS (wn rfl) rfl rfl rfl (v := .int .i64 y1.2) (aop_assign (hS.lk rfl)) fun s hS => ?_
      refine KW.nil ?_
      refine WW.ret ?_
      replace hS := hS.gap0
      have hres := (res_tmp hS (t := 2) (v := strV ([])) rfl (res_tmp hS (t := 3) (v := .slice none ([] : List Int).length 0) rfl (res_tmp hS (t := 4) (v := .int .i64 y1.2) rfl (res_nil (E := EV) (s := s)))))
      obtain rfl := Option.some.inj h
      exact fin hS (.inr rfl) hres (v := .tuple #[strV ([]), .slice none ([] : List Int).length 0, .int .i64 y1.2]) rfl ⟨_, _, _, (hF4), rfl, rfl, Own.nil⟩
    · rw [ite_f hc27] at h
      replace hS := hS.know (t := 13) rfl (congrArg Value.bool hc27)
      refine WW.condF hS rfl rfl ?_
      refine WW.skip ?_
      refine WW.seq ?_
      refine WW.regionD (i := [[], [], [], [], [], [4, 3, 2, 1, 0], [4, 3, 2, 1, 0], [4, 3, 2, 1, 0], [4, 3, 2, 1, 0], [8, 7, 6, 5], [], []]) (by kernel_rfl) ?_
      have hq := RS.start []
      refine K.pu hS hq rfl (wn rfl) rfl rfl rfl (v := .pointer none) (aop_move (hS.lk rfl)) fun s rs hS hq => ?_
      exact nomatch h
  · rw [hq8] at h; replace h := match_some h
    refine q_pu hS (wn rfl) rfl rfl rfl (v := .tuple #[.pointer (some ⟨i10, 0, none⟩), .int .i64 y1.2]) (aop_move (hS.lk rfl)) fun s hS => ?_
    refine q_pu hS (wn rfl) rfl rfl rfl (v := .pointer (some ⟨i10, 0, none⟩)) (aop_ext (hS.lk rfl) rfl) fun s hS => ?_
    refine q_pu hS (wn rfl) rfl rfl rfl (v := .int .i64 y1.2) (aop_ext (hS.lk rfl) rfl) fun s hS => ?_
    refine q_pu hS (wn rfl) rfl rfl rfl (v := .pointer (some ⟨i10, 0, none⟩)) (aop_assign (hS.lk rfl)) fun s hS => ?_
    refine q_pu hS (wn rfl) rfl rfl rfl (v := .int .i64 y1.2) (aop_assign (hS.lk rfl)) fun s hS => ?_
    refine KW.nil ?_
    refine WW.seq ?_
    refine WW.seq ?_
    refine WW.region ?_
    refine q_pu hS (wn rfl) rfl rfl rfl (v := .int .i64 y1.2) (aop_move (hS.lk rfl)) fun s hS => ?_
    refine q_pu hS (wn rfl) rfl rfl rfl (v := .bool (y1.2 != 0)) (aop_int (hS.lk rfl) (hS.lk rfl) rfl) fun s hS => ?_
    refine KW.nil ?_
    rcases bool_cases ((y1.2 != 0)) with hc28 | hc28
    · rw [ite_t hc28] at h
      replace hS := hS.know (t := 13) rfl (congrArg Value.bool hc28)
      refine WW.condK hS rfl rfl ?_
      refine WW.seq ?_
      refine WW.region ?_
      refine q_pu hS (wn rfl) rfl rfl rfl (v := .int .i64 y1.2) (aop_move (hS.lk rfl)) fun s hS => ?_
      refine q_pu hS (wn rfl) rfl rfl rfl (v := strV ([])) (aop_assign (hS.lk rfl)) fun s hS => ?_
      refine q_pu hS (wn rfl) rfl rfl rfl (v := .slice none 0 0) (aop_assign (hS.lk rfl)) fun s hS => ?_
      refine q_pu hS (wn rfl) rfl rfl rfl (v := .int .i64 y1.2) (aop_assign (hS.lk rfl)) fun s hS => ?_
      refine KW.nil ?_
      refine WW.ret ?_
      replace hS := hS.gap0
      have hres := (res_tmp hS (t := 2) (v := strV ([])) rfl (res_tmp hS (t := 3) (v := .slice none ([] : List Int).length 0) rfl (res_tmp hS (t := 4) (v := .int .i64 y1.2) rfl (res_nil (E := EV) (s := s)))))
      replace hS := (hS.pull 1).drop
      replace hS := (hS.pull 1).drop
      replace hS := (hS.pull 1).drop
      replace hS := (hS.pull 1).drop
      replace hS := (hS.pull 1).drop
      obtain rfl := Option.some.inj h
      exact fin hS (.inr rfl) hres (v := .tuple #[strV ([]), .slice none ([] : List Int).length 0, .int .i64 y1.2]) rfl ⟨_, _, _, (hF4), rfl, rfl, Own.nil⟩
    · rw [ite_f hc28] at h
      replace hS := hS.know (t := 13) rfl (congrArg Value.bool hc28)
      refine WW.condF hS rfl rfl ?_
      refine WW.skip ?_
      refine WW.seq ?_
      refine WW.regionD (i := [[], [], [], [], [], [4, 3, 2, 1, 0], [4, 3, 2, 1, 0], [4, 3, 2, 1, 0], [4, 3, 2, 1, 0], [8, 7, 6, 5], [], []]) (by kernel_rfl) ?_
      have hq := RS.start [i10]
      refine K.pu hS hq rfl (wn rfl) rfl rfl rfl (v := .pointer (some ⟨i10, 0, none⟩)) (aop_move (hS.lk rfl)) fun s rs hS hq => ?_
      refine K.pu hS hq rfl (wn rfl) rfl rfl rfl (v := .pointer (some ⟨i10, 0, none⟩)) (aop_nilp (hS.lk rfl)) fun s rs hS hq => ?_
      refine K.pu hS hq rfl (wn rfl) rfl rfl rfl (v := .pointer (some ⟨i10, 1, none⟩)) (aop_fa (hS.lk rfl) tf86_1 rfl rfl) fun s rs hS hq => ?_
      refine K.ld hS hq rfl (wn rfl) rfl rfl rfl (hS.at (k := 0) rfl) tg83 (v := .slice a11 x9.2.1.length z12) rfl 0 rfl rfl fun s rs hS hq => ?_
      refine K.cvO (e := 0) hS hq rfl (wn rfl) rfl rfl (lst := x9.2.1) rfl h13 (p := 1) rfl (cv0 tu83 tb5 tu9) (cv1 tu83 tb5 tu9) rfl fun s rs hS hq => ?_
      refine K.pu hS hq rfl (wn rfl) rfl rfl rfl (v := .pointer (some ⟨i10, 0, none⟩)) (aop_move (hS.lk rfl)) fun s rs hS hq => ?_
      refine K.pu hS hq rfl (wn rfl) rfl rfl rfl (v := .pointer (some ⟨i10, 0, none⟩)) (aop_nilp (hS.lk rfl)) fun s rs hS hq => ?_
      refine K.pu hS hq rfl (wn rfl) rfl rfl rfl (v := .pointer (some ⟨i10, 2, none⟩)) (aop_fa (hS.lk rfl) tf86_2 rfl rfl) fun s rs hS hq => ?_
      refine K.ld hS hq rfl (wn rfl) rfl rfl rfl (hS.at (k := 0) rfl) tg23 (v := .slice a15 x9.2.2.1.length z16) rfl 0 rfl rfl fun s rs hS hq => ?_
      refine K.pu hS hq rfl (wn rfl) rfl rfl rfl (v := strV x9.2.1) (aop_assign (hS.lk rfl)) fun s rs hS hq => ?_
      refine K.pu hS hq rfl (wn rfl) rfl rfl rfl (v := .slice a15 x9.2.2.1.length z16) (aop_assign (hS.lk rfl)) fun s rs hS hq => ?_
      refine K.pu hS hq rfl (wn rfl) rfl rfl rfl (v := .int .i64 0) (aop_assign (hS.lk rfl)) fun s rs hS hq => ?_
      refine KW.nil ?_
      refine WW.ret ?_
      have hres := (res_tmp hS (t := 2) (v := strV x9.2.1) rfl (res_tmp hS (t := 3) (v := .slice a15 x9.2.2.1.length z16) rfl (res_tmp hS (t := 4) (v := .int .i64 0) rfl (res_nil (E := EV) (s := s)))))
      replace hS := hS.drop
      replace hS := hS.drop
      replace hS := (hS.pull 1).drop
      replace hS := (hS.pull 1).drop
      obtain rfl := Option.some.inj h
      exact fin hS (.inr rfl) hres (v := .tuple #[strV x9.2.1, .slice a15 x9.2.2.1.length z16, .int .i64 0]) rfl ⟨_, _, _, (hF4), rfl, rfl, h17⟩
/-! ### formulary/source.ConstantsIn (13) -/
noncomputable def g_source_ConstantsIn.f (p0_0 : List UInt8) : Option ((List (Int × Int)) × Int) :=
  Option.bind (g_source_squeeze.f p0_0) fun y1 => (onOpt y1.1 ((if (y1.2 != 0) then some (([] : List (Int × Int)), y1.2) else none)) fun x9 => (if (y1.2 != 0) then some (([] : List (Int × Int)), y1.2) else some (x9.2.2.2.2, 0)))
set_option maxHeartbeats 4000000 in
theorem g_source_ConstantsIn.ok {p0_0 : List UInt8} {F : FZ} {r : (List (Int × Int)) × Int} (h : g_source_ConstantsIn.f p0_0 = some r) (hG : Gl F) :
    Cl EV 13 [strV p0_0] [] F (fun v S' F' => ∃ (ra1 : Option Addr) (rz2 : Nat) (rB4 : Seg), FLe F F' ∧ v = .tuple #[.slice ra1 r.1.length rz2, .int .i64 r.2] ∧ S' = [rB4] ∧ Own el34 F' ra1 rz2 r.1 rB4) := by
  refine Cl.of Tryz.func13 rfl (fun _ _ => rfl) (by kernel_rfl) fun s L nx0 hS => ?_
  unfold g_source_ConstantsIn.f at h
  refine WW.seq ?_
  refine WW.region ?_
  refine q_pu hS (wn rfl) rfl rfl rfl (v := .slice none 0 0) (aop_assign (hS.lk rfl)) fun s hS => ?_
  refine q_pu hS (wn rfl) rfl rfl rfl (v := .int .i64 0) (aop_assign (hS.lk rfl)) fun s hS => ?_
  refine KW.nil ?_
  refine WW.seq ?_
  refine WW.region ?_
  refine q_pu hS (wn rfl) rfl rfl rfl (v := strV p0_0) (aop_move (hS.lk rfl)) fun s hS => ?_
  obtain ⟨y1, hy1, h⟩ := bind_some h
  refine q_cl hS (wn rfl) (vs := [strV p0_0]) (ws := [strV p0_0]) rfl rfl rfl rfl rfl 0 rfl (g_source_squeeze.ok hy1 hG) fun s v S' F3 hp2 hF hS => ?_
  obtain ⟨v5, S6, hF4, rfl, rfl, ho7⟩ := hp2
  rcases ho7 with ⟨hq8, rfl, rfl⟩ | ⟨x9, i10, a11, z12, B14, a15, z16, B18, a19, z20, B22, a23, z24, B26, hq8, rfl, rfl, h13, h17, h21, h25⟩
  · rw [hq8] at h; replace h := match_none h
    refine q_pu hS (wn rfl) rfl rfl rfl (v := .tuple #[.pointer none, .int .i64 y1.2]) (aop_move (hS.lk rfl)) fun s hS => ?_
    refine q_pu hS (wn rfl) rfl rfl rfl (v := .pointer none) (aop_ext (hS.lk rfl) rfl) fun s hS => ?_
    refine q_pu hS (wn rfl) rfl rfl rfl (v := .int .i64 y1.2) (aop_ext (hS.lk rfl) rfl) fun s hS => ?_
    refine q_pu hS (wn rfl) rfl rfl rfl (v := .pointer none) (aop_assign (hS.lk rfl)) fun s hS => ?_
    refine q_pu hS (wn rfl) rfl rfl rfl (v := .int .i64 y1.2) (aop_assign (hS.lk rfl)) fun s hS => ?_
    refine KW.nil ?_
    refine WW.seq ?_
    refine WW.seq ?_
    refine WW.region ?_
    refine q_pu hS (wn rfl) rfl rfl rfl (v := .int .i64 y1.2) (aop_move (hS.lk rfl)) fun s hS => ?_
    refine q_pu hS (wn rfl) rfl rfl rfl (v := .bool (y1.2 != 0)) (aop_int (hS.lk rfl) (hS.lk rfl) rfl) fun s hS => ?_
    refine KW.nil ?_
    rcases bool_cases ((y1.2 != 0)) with hc27 | hc27
    · rw [ite_t hc27] at h
      replace hS := hS.know (t := 12) rfl (congrArg Value.bool hc27)
      refine WW.condK hS rfl rfl ?_
      refine WW.seq ?_
      refine WW.region ?_
      refine q_pu hS (wn rfl) rfl rfl rfl (v := .int .i64 y1.2) (aop_move (hS.lk rfl)) fun s hS => ?_
      refine q_pu hS (wn rfl) rfl rfl rfl (v := .slice none 0 0) (aop_assign (hS.lk rfl)) fun s hS => ?_
      refine q_pu hS (wn rfl) rfl rfl rfl (v := .int .i64 y1.2) (aop_assign (hS.lk rfl)) fun s hS => ?_
      refine KW.nil ?_
      refine WW.ret ?_
      replace hS := hS.gap0
      have hres := (res_tmp hS (t := 2) (v := .slice none ([] : List (Int × Int)).length 0) rfl (res_tmp hS (t := 3) (v := .int .i64 y1.2) rfl (res_nil (E := EV) (s := s))))
      obtain rfl := Option.some.inj h
      exact fin hS (.inr rfl) hres (v := .tuple #[.slice none ([] : List (Int × Int)).length 0, .int .i64 y1.2]) rfl ⟨_, _, _, (hF4), rfl, rfl, Own.nil⟩
    · rw [ite_f hc27] at h
      replace hS := hS.know (t := 12) rfl (congrArg Value.bool hc27)
      refine WW.condF hS rfl rfl ?_
      refine WW.skip ?_
      refine WW.seq ?_
      refine WW.region ?_
      refine q_pu hS (wn rfl) rfl rfl rfl (v := .pointer none) (aop_move (hS.lk rfl)) fun s hS => ?_
      exact nomatch h
  · rw [hq8] at h; replace h := match_some h
    refine q_pu hS (wn rfl) rfl rfl rfl (v := .tuple #[.pointer (some ⟨i10, 0, none⟩), .int .i64 y1.2]) (aop_move (hS.lk rfl)) fun s hS => ?_
    refine q_pu hS (wn rfl) rfl rfl rfl (v := .pointer (some ⟨i10, 0, none⟩)) (aop_ext (hS.lk rfl) rfl) fun s hS => ?_
    refine q_pu hS (wn rfl) rfl rfl rfl (v := .int .i64 y1.2) (aop_ext (hS.lk rfl) rfl) fun s hS => ?_
    refine q_pu hS (wn rfl) rfl rfl rfl (v := .pointer (some ⟨i10, 0, none⟩)) (aop_assign (hS.lk rfl)) fun s hS => ?_
    refine q_pu hS (wn rfl) rfl rfl rfl (v := .int .i64 y1.2) (aop_assign (hS.lk rfl)) fun s hS => ?_
    refine KW.nil ?_
    refine WW.seq ?_
    refine WW.seq ?_
    refine WW.region ?_
    refine q_pu hS (wn rfl) rfl rfl rfl (v := .int .i64 y1.2) (aop_move (hS.lk rfl)) fun s hS => ?_
    refine q_pu hS (wn rfl) rfl rfl rfl (v := .bool (y1.2 != 0)) (aop_int (hS.lk rfl) (hS.lk rfl) rfl) fun s hS => ?_
    refine KW.nil ?_
    rcases bool_cases ((y1.2 != 0)) with hc28 | hc28
    · rw [ite_t hc28] at h
      replace hS := hS.know (t := 12) rfl (congrArg Value.bool hc28)
      refine WW.condK hS rfl rfl ?_
      refine WW.seq ?_
      refine WW.region ?_
      refine q_pu hS (wn rfl) rfl rfl rfl (v := .int .i64 y1.2) (aop_move (hS.lk rfl)) fun s hS => ?_
      refine q_pu hS (wn rfl) rfl rfl rfl (v := .slice none 0 0) (aop_assign (hS.lk rfl)) fun s hS => ?_
      refine q_pu hS (wn rfl) rfl rfl rfl (v := .int .i64 y1.2) (aop_assign (hS.lk rfl)) fun s hS => ?_
      refine KW.nil ?_
      refine WW.ret ?_
      replace hS := hS.gap0
      have hres := (res_tmp hS (t := 2) (v := .slice none ([] : List (Int × Int)).length 0) rfl (res_tmp hS (t := 3) (v := .int .i64 y1.2) rfl (res_nil (E := EV) (s := s))))
      replace hS := (hS.pull 1).drop
      replace hS := (hS.pull 1).drop
      replace hS := (hS.pull 1).drop
      replace hS := (hS.pull 1).drop
      replace hS := (hS.pull 1).drop
      obtain rfl := Option.some.inj h
      exact fin hS (.inr rfl) hres (v := .tuple #[.slice none ([] : List (Int × Int)).length 0, .int .i64 y1.2]) rfl ⟨_, _, _, (hF4), rfl, rfl, Own.nil⟩
    · rw [ite_f hc28] at h
      replace hS := hS.know (t := 12) rfl (congrArg Value.bool hc28)
      refine WW.condF hS rfl rfl ?_
      refine WW.skip ?_
      refine WW.seq ?_
      refine WW.region ?_
      refine q_pu hS (wn rfl) rfl rfl rfl (v := .pointer (some ⟨i10, 0, none⟩)) (aop_move (hS.lk rfl)) fun s hS => ?_
      refine q_pu hS (wn rfl) rfl rfl rfl (v := .pointer (some ⟨i10, 0, none⟩)) (aop_nilp (hS.lk rfl)) fun s hS => ?_
      refine q_pu hS (wn rfl) rfl rfl rfl (v := .pointer (some ⟨i10, 4, none⟩)) (aop_fa (hS.lk rfl) tf86_4 rfl rfl) fun s hS => ?_
      refine q_ld hS (wn rfl) rfl rfl rfl (hS.at (k := 0) rfl) tg27 (v := .slice a23 x9.2.2.2.2.length z24) rfl fun s hS => ?_
      refine q_pu hS (wn rfl) rfl rfl rfl (v := .slice a23 x9.2.2.2.2.length z24) (aop_assign (hS.lk rfl)) fun s hS => ?_
      refine q_pu hS (wn rfl) rfl rfl rfl (v := .int .i64 0) (aop_assign (hS.lk rfl)) fun s hS => ?_
      refine KW.nil ?_
      refine WW.ret ?_
      have hres := (res_tmp hS (t := 2) (v := .slice a23 x9.2.2.2.2.length z24) rfl (res_tmp hS (t := 3) (v := .int .i64 0) rfl (res_nil (E := EV) (s := s))))
      replace hS := hS.drop
      replace hS := hS.drop
      replace hS := hS.drop
      replace hS := hS.drop
      obtain rfl := Option.some.inj h
      exact fin hS (.inr rfl) hres (v := .tuple #[.slice a23 x9.2.2.2.2.length z24, .int .i64 0]) rfl ⟨_, _, _, (hF4), rfl, rfl, h25⟩
/-! ### formulary/formularybase.Within (27) -/
noncomputable def g_base_Within.f (p0_0 : Int) (p1_0 : Int) (p2_0 : Int) : Option (Bool) :=
  some (!((decide (p0_0 < p1_0)) || (decide (p0_0 > p2_0))))
set_option maxHeartbeats 4000000 in
theorem g_base_Within.ok {p0_0 : Int} {p1_0 : Int} {p2_0 : Int} {F : FZ} {r : Bool} (h : g_base_Within.f p0_0 p1_0 p2_0 = some r) :
    Cl EV 27 [.int .i64 p0_0, .int .i64 p1_0, .int .i64 p2_0] [] F (fun v S' F' => F = F' ∧ v = .bool r ∧ S' = []) := by
  refine Cl.of Tryz.func27 rfl (fun _ _ => rfl) (by kernel_rfl) fun s L nx0 hS => ?_
  unfold g_base_Within.f at h
  refine WW.seq ?_
  refine WW.region ?_
  refine q_pu hS (wn rfl) rfl rfl rfl (v := .bool false) (aop_assign (hS.lk rfl)) fun s hS => ?_
  refine KW.nil ?_
  refine WW.seq ?_
  refine WW.region ?_
  refine q_pu hS (wn rfl) rfl rfl rfl (v := .int .i64 p0_0) (aop_move (hS.lk rfl)) fun s hS => ?_
  refine q_pu hS (wn rfl) rfl rfl rfl (v := .int .i64 p1_0) (aop_move (hS.lk rfl)) fun s hS => ?_
  refine q_pu hS (wn rfl) rfl rfl rfl (v := .bool (decide (p0_0 < p1_0))) (aop_int (hS.lk rfl) (hS.lk rfl) rfl) fun s hS => ?_
  refine q_pu hS (wn rfl) rfl rfl rfl (v := .bool (decide (p0_0 < p1_0))) (aop_move (hS.lk rfl)) fun s hS => ?_
  refine q_cut 4 (fun s => Stt EV s [(14, .bool ((decide (p0_0 < p1_0)) || (decide (p0_0 > p2_0)))), (6, .bool false)] [] F L F nx0) ?_ fun s hS => ?_
  ·
    rcases bool_cases ((decide (p0_0 < p1_0))) with hcj | hcj
    ·
      replace hS := hS.know (t := 9) rfl (congrArg Value.bool hcj)
      replace hS := hS.know (t := 10) rfl (congrArg Value.bool hcj)
      refine q_no hS (wf hS rfl rfl rfl rfl) rfl fun s hS => ?_
      refine q_no hS (wf hS rfl rfl rfl rfl) rfl fun s hS => ?_
      refine q_no hS (wf hS rfl rfl rfl rfl) rfl fun s hS => ?_
      refine q_pu hS (wn rfl) rfl rfl rfl (v := .bool true) (aop_pickT (hS.lk rfl) (hS.lk rfl)) fun s hS => ?_
      refine KW.nil ?_
      exact (hS.know (t := 14) (u' := .bool ((decide (p0_0 < p1_0)) || (decide (p0_0 > p2_0)))) rfl (jn_or_t hcj)).sub (.c rfl (.c rfl .n))
    ·
      replace hS := hS.know (t := 9) rfl (congrArg Value.bool hcj)
      replace hS := hS.know (t := 10) rfl (congrArg Value.bool hcj)
      refine q_pu hS (wt hS rfl rfl rfl rfl) rfl rfl rfl (v := .int .i64 p0_0) (aop_move (hS.lk rfl)) fun s hS => ?_
      refine q_pu hS (wt hS rfl rfl rfl rfl) rfl rfl rfl (v := .int .i64 p2_0) (aop_move (hS.lk rfl)) fun s hS => ?_
      refine q_pu hS (wt hS rfl rfl rfl rfl) rfl rfl rfl (v := .bool (decide (p0_0 > p2_0))) (aop_int (hS.lk rfl) (hS.lk rfl) rfl) fun s hS => ?_
      refine q_pu hS (wn rfl) rfl rfl rfl (v := .bool (decide (p0_0 > p2_0))) (aop_pickF (hS.lk rfl) (hS.lk rfl)) fun s hS => ?_
      refine KW.nil ?_
      exact (hS.know (t := 14) (u' := .bool ((decide (p0_0 < p1_0)) || (decide (p0_0 > p2_0)))) rfl (jn_or_f hcj)).sub (.c rfl (.c rfl .n))
  refine q_pu hS (wn rfl) rfl rfl rfl (v := .bool (!((decide (p0_0 < p1_0)) || (decide (p0_0 > p2_0))))) (aop_not (hS.lk rfl)) fun s hS => ?_
  refine q_pu hS (wn rfl) rfl rfl rfl (v := .bool (!((decide (p0_0 < p1_0)) || (decide (p0_0 > p2_0))))) (aop_assign (hS.lk rfl)) fun s hS => ?_
  refine KW.nil ?_
  refine WW.ret ?_
  have hres := (res_tmp hS (t := 6) (v := .bool (!((decide (p0_0 < p1_0)) || (decide (p0_0 > p2_0))))) rfl (res_nil (E := EV) (s := s)))
  obtain rfl := Option.some.inj h
  exact fin hS (.inr rfl) hres (v := .bool (!((decide (p0_0 < p1_0)) || (decide (p0_0 > p2_0))))) rfl ⟨rfl, rfl, rfl⟩
/-! ### formulary/formularybase.IsText (53) -/
noncomputable def g_base_IsText.b0 (p0_0 : List UInt8) (x2 : Int) : Option ((Int) ⊕ ((Int) ⊕ (Bool))) :=
  (if (decide (x2 < (p0_0.length : Int))) then (if 0 ≤ x2 ∧ x2 < (p0_0.length : Int) then Option.bind (g_base_Within.f (IntKind.i64.wrap ((gt p0_0 x2).toNat : Int)) 32 126) fun y8 => (if (!y8) then some (.inr (.inr false)) else some (.inl (w64 (x2 + 1)))) else none) else some (.inr (.inl x2)))
noncomputable def g_base_IsText.f (p0_0 : List UInt8) (p1_0 : Int) : Option (Bool) :=
  (if (decide ((p0_0.length : Int) > p1_0)) then some false else Option.bind (iter (g_base_IsText.b0 p0_0) 0) fun o3 => onSum o3 fun y11 => some true)
set_option maxHeartbeats 4000000 in
theorem g_base_IsText.ok {p0_0 : List UInt8} {p1_0 : Int} {F : FZ} {r : Bool} (h : g_base_IsText.f p0_0 p1_0 = some r) :
    Cl EV 53 [strV p0_0, .int .i64 p1_0] [] F (fun v S' F' => F = F' ∧ v = .bool r ∧ S' = []) := by
  refine Cl.of Tryz.func53 rfl (fun _ _ => rfl) (by kernel_rfl) fun s L nx0 hS => ?_
  unfold g_base_IsText.f at h
  refine WW.seq ?_
  refine WW.region ?_
  refine q_pu hS (wn rfl) rfl rfl rfl (v := .bool false) (aop_assign (hS.lk rfl)) fun s hS => ?_
  refine KW.nil ?_
  refine WW.seq ?_
  refine WW.seq ?_
  refine WW.region ?_
  refine q_pu hS (wn rfl) rfl rfl rfl (v := strV p0_0) (aop_move (hS.lk rfl)) fun s hS => ?_
  refine q_pu hS (wn rfl) rfl rfl rfl (v := .int .i64 (p0_0.length : Int)) (aop_lenS rfl rfl tu9 (hS.lk rfl)) fun s hS => ?_
  refine q_pu hS (wn rfl) rfl rfl rfl (v := .int .i64 p1_0) (aop_move (hS.lk rfl)) fun s hS => ?_
  refine q_pu hS (wn rfl) rfl rfl rfl (v := .bool (decide ((p0_0.length : Int) > p1_0))) (aop_int (hS.lk rfl) (hS.lk rfl) rfl) fun s hS => ?_
  refine KW.nil ?_
  rcases bool_cases ((decide ((p0_0.length : Int) > p1_0))) with hc1 | hc1
  · rw [ite_t hc1] at h
    replace hS := hS.know (t := 9) rfl (congrArg Value.bool hc1)
    refine WW.condK hS rfl rfl ?_
    refine WW.seq ?_
    refine WW.region ?_
    refine q_pu hS (wn rfl) rfl rfl rfl (v := .bool false) (aop_assign (hS.lk rfl)) fun s hS => ?_
    refine KW.nil ?_
    refine WW.ret ?_
    have hres := (res_tmp hS (t := 4) (v := .bool false) rfl (res_nil (E := EV) (s := s)))
    obtain rfl := Option.some.inj h
    exact fin hS (.inr rfl) hres (v := .bool false) rfl ⟨rfl, rfl, rfl⟩
  · rw [ite_f hc1] at h
    replace hS := hS.know (t := 9) rfl (congrArg Value.bool hc1)
    refine WW.condF hS rfl rfl ?_
    refine WW.skip ?_
    refine WW.seq ?_
    refine WW.seq ?_
    refine WW.region ?_
    refine q_pu hS (wn rfl) rfl rfl rfl (v := .int .i64 0) (aop_assign (hS.lk rfl)) fun s hS => ?_
    refine KW.nil ?_
    refine WW.block ?_
    obtain ⟨o3, ho3, h⟩ := bind_some h
    refine WW.loop (LW.iter ho3 (fun (x2 : Int) s => Stt EV s [(0, strV p0_0), (4, .bool false), (5, .int .i64 x2)] [] F L F nx0) (fun (o : (Int) ⊕ (Bool)) e s => match o with | .inl y4 => (e = .exit 0 ∧ Stt EV s [(0, strV p0_0), (4, .bool false), (5, .int .i64 y4)] [] F L F nx0) | .inr r => (e = .ret ∧ FinQ EV Tryz.f53 L F nx0 (fun v S' F' => F = F' ∧ v = .bool r ∧ S' = []) e s)) (hS.sub (.c rfl (.c rfl (.c rfl .n)))) ?_ ?_)
    · clear hS
      rintro x2 s hS o3' h5
      unfold g_base_IsText.b0 at h5
      refine WW.seq ?_
      refine WW.seq ?_
      refine WW.region ?_
      refine q_pu hS (wn rfl) rfl rfl rfl (v := .int .i64 x2) (aop_move (hS.lk rfl)) fun s hS => ?_
      refine q_pu hS (wn rfl) rfl rfl rfl (v := strV p0_0) (aop_move (hS.lk rfl)) fun s hS => ?_
      refine q_pu hS (wn rfl) rfl rfl rfl (v := .int .i64 (p0_0.length : Int)) (aop_lenS rfl rfl tu9 (hS.lk rfl)) fun s hS => ?_
      refine q_pu hS (wn rfl) rfl rfl rfl (v := .bool (decide (x2 < (p0_0.length : Int)))) (aop_int (hS.lk rfl) (hS.lk rfl) rfl) fun s hS => ?_
      refine KW.nil ?_
      rcases bool_cases ((decide (x2 < (p0_0.length : Int)))) with hc6 | hc6
      · rw [ite_t hc6] at h5
        replace hS := hS.know (t := 13) rfl (congrArg Value.bool hc6)
        refine WW.condK hS rfl rfl ?_
        refine WW.skip ?_
        refine WW.seq ?_
        refine WW.block ?_
        refine WW.seq ?_
        refine WW.region ?_
        refine q_pu hS (wn rfl) rfl rfl rfl (v := strV p0_0) (aop_move (hS.lk rfl)) fun s hS => ?_
        refine q_pu hS (wn rfl) rfl rfl rfl (v := .int .i64 x2) (aop_move (hS.lk rfl)) fun s hS => ?_
        obtain ⟨hk7, h5⟩ := ite_some h5
        refine q_pu hS (wn rfl) rfl rfl rfl (v := vB (gt p0_0 x2)) (aop_idxS tu9 (hS.lk rfl) (hS.lk rfl) hk7) fun s hS => ?_
        refine q_pu hS (wn rfl) rfl rfl (tgt_cv hS rfl rfl) (v := .int .i64 (IntKind.i64.wrap ((gt p0_0 x2).toNat : Int))) (aop_cvi (hS.lk rfl) tu5 tu3) fun s hS => ?_
        obtain ⟨y8, hy8, h5⟩ := bind_some h5
        refine q_cl hS (wn rfl) (vs := [.int .i64 (IntKind.i64.wrap ((gt p0_0 x2).toNat : Int)), .int .i64 32, .int .i64 126]) (ws := [.int .i64 (IntKind.i64.wrap ((gt p0_0 x2).toNat : Int)), .int .i64 32, .int .i64 126]) rfl rfl rfl rfl rfl 0 rfl (g_base_Within.ok hy8) fun s v S' F' hp9 hF hS => ?_
        obtain ⟨rfl, rfl, rfl⟩ := hp9
        refine q_pu hS (wn rfl) rfl rfl rfl (v := .bool (!y8)) (aop_not (hS.lk rfl)) fun s hS => ?_
        refine KW.nil ?_
        rcases bool_cases ((!y8)) with hc10 | hc10
        · rw [ite_t hc10] at h5
          replace hS := hS.know (t := 21) rfl (congrArg Value.bool hc10)
          refine WW.condK hS rfl rfl ?_
          refine WW.seq ?_
          refine WW.region ?_
          refine q_pu hS (wn rfl) rfl rfl rfl (v := .bool false) (aop_assign (hS.lk rfl)) fun s hS => ?_
          refine KW.nil ?_
          refine WW.ret ?_
          have hres := (res_tmp hS (t := 4) (v := .bool false) rfl (res_nil (E := EV) (s := s)))
          obtain rfl := Option.some.inj h5
          exact ⟨_, rfl, rfl, fin hS (.inr rfl) hres (v := .bool false) rfl ⟨rfl, rfl, rfl⟩⟩
        · rw [ite_f hc10] at h5
          replace hS := hS.know (t := 21) rfl (congrArg Value.bool hc10)
          refine WW.condF hS rfl rfl ?_
          refine WW.skip ?_
          refine WW.region ?_
          refine q_pu hS (wn rfl) rfl rfl rfl (v := .int .i64 x2) (aop_move (hS.lk rfl)) fun s hS => ?_
          refine q_pu hS (wn rfl) rfl rfl rfl (v := .int .i64 (w64 (x2 + 1))) (aop_int (hS.lk rfl) (hS.lk rfl) rfl) fun s hS => ?_
          refine q_pu hS (wn rfl) rfl rfl rfl (v := .int .i64 (w64 (x2 + 1))) (aop_assign (hS.lk rfl)) fun s hS => ?_
          refine KW.nil ?_
          obtain rfl := Option.some.inj h5
          exact ⟨_, rfl, (hS.sub (.c rfl (.c rfl (.c rfl .n))))⟩
      · rw [ite_f hc6] at h5
        replace hS := hS.know (t := 13) rfl (congrArg Value.bool hc6)
        refine WW.condF hS rfl rfl ?_
        refine WW.exit ?_
        refine thenQ_exit ?_
        obtain rfl := Option.some.inj h5
        exact ⟨_, rfl, rfl, (hS.sub (.c rfl (.c rfl (.c rfl .n))))⟩
    · clear hS
      rcases o3 with y11 | y11
      · rintro e s ⟨rfl, hS⟩
        replace h := match_inl h
        refine blockQ_exit ?_
        refine WW.seq ?_
        refine WW.region ?_
        refine q_pu hS (wn rfl) rfl rfl rfl (v := .bool true) (aop_assign (hS.lk rfl)) fun s hS => ?_
        refine KW.nil ?_
        refine WW.ret ?_
        have hres := (res_tmp hS (t := 4) (v := .bool true) rfl (res_nil (E := EV) (s := s)))
        obtain rfl := Option.some.inj h
        exact fin hS (.inr rfl) hres (v := .bool true) rfl ⟨rfl, rfl, rfl⟩
      · rintro e s ⟨rfl, hfin⟩
        replace h := match_inr h
        obtain rfl := Option.some.inj h
        exact hfin
/-! ### formulary/formularyref01.TextErr (41) -/
noncomputable def g_ref01_TextErr.f (p0_0 : List UInt8) : Option (Int) :=
  (if (decide ((p0_0.length : Int) > 1320)) then some 8 else Option.bind (g_base_IsText.f p0_0 1320) fun y2 => (if (!y2) then some 3 else some 0))
set_option maxHeartbeats 4000000 in
theorem g_ref01_TextErr.ok {p0_0 : List UInt8} {F : FZ} {r : Int} (h : g_ref01_TextErr.f p0_0 = some r) :
    Cl EV 41 [strV p0_0] [] F (fun v S' F' => F = F' ∧ v = .int .i64 r ∧ S' = []) := by
  refine Cl.of Tryz.func41 rfl (fun _ _ => rfl) (by kernel_rfl) fun s L nx0 hS => ?_
  unfold g_ref01_TextErr.f at h
  refine WW.seq ?_
  refine WW.region ?_
  refine q_pu hS (wn rfl) rfl rfl rfl (v := .int .i64 0) (aop_assign (hS.lk rfl)) fun s hS => ?_
  refine KW.nil ?_
  refine WW.seq ?_
  refine WW.seq ?_
  refine WW.region ?_
  refine q_pu hS (wn rfl) rfl rfl rfl (v := strV p0_0) (aop_move (hS.lk rfl)) fun s hS => ?_
  refine q_pu hS (wn rfl) rfl rfl rfl (v := .int .i64 (p0_0.length : Int)) (aop_lenS rfl rfl tu9 (hS.lk rfl)) fun s hS => ?_
  refine q_pu hS (wn rfl) rfl rfl rfl (v := .bool (decide ((p0_0.length : Int) > 1320))) (aop_int (hS.lk rfl) (hS.lk rfl) rfl) fun s hS => ?_
  refine KW.nil ?_
  rcases bool_cases ((decide ((p0_0.length : Int) > 1320))) with hc1 | hc1
  · rw [ite_t hc1] at h
    replace hS := hS.know (t := 5) rfl (congrArg Value.bool hc1)
    refine WW.condK hS rfl rfl ?_
    refine WW.seq ?_
    refine WW.region ?_
    refine q_pu hS (wn rfl) rfl rfl rfl (v := .int .i64 8) (aop_assign (hS.lk rfl)) fun s hS => ?_
    refine KW.nil ?_
    refine WW.ret ?_
    have hres := (res_tmp hS (t := 2) (v := .int .i64 8) rfl (res_nil (E := EV) (s := s)))
    obtain rfl := Option.some.inj h
    exact fin hS (.inr rfl) hres (v := .int .i64 8) rfl ⟨rfl, rfl, rfl⟩
  · rw [ite_f hc1] at h
    replace hS := hS.know (t := 5) rfl (congrArg Value.bool hc1)
    refine WW.condF hS rfl rfl ?_
    refine WW.skip ?_
    refine WW.seq ?_
    refine WW.seq ?_
    refine WW.region ?_
    refine q_pu hS (wn rfl) rfl rfl rfl (v := strV p0_0) (aop_move (hS.lk rfl)) fun s hS => ?_
    obtain ⟨y2, hy2, h⟩ := bind_some h
    refine q_cl hS (wn rfl) (vs := [strV p0_0, .int .i64 1320]) (ws := [strV p0_0, .int .i64 1320]) rfl rfl rfl rfl rfl 0 rfl (g_base_IsText.ok hy2) fun s v S' F' hp3 hF hS => ?_
    obtain ⟨rfl, rfl, rfl⟩ := hp3
    refine q_pu hS (wn rfl) rfl rfl rfl (v := .bool (!y2)) (aop_not (hS.lk rfl)) fun s hS => ?_
    refine KW.nil ?_
    rcases bool_cases ((!y2)) with hc4 | hc4
    · rw [ite_t hc4] at h
      replace hS := hS.know (t := 8) rfl (congrArg Value.bool hc4)
      refine WW.condK hS rfl rfl ?_
      refine WW.seq ?_
      refine WW.region ?_
      refine q_pu hS (wn rfl) rfl rfl rfl (v := .int .i64 3) (aop_assign (hS.lk rfl)) fun s hS => ?_
      refine KW.nil ?_
      refine WW.ret ?_
      have hres := (res_tmp hS (t := 2) (v := .int .i64 3) rfl (res_nil (E := EV) (s := s)))
      obtain rfl := Option.some.inj h
      exact fin hS (.inr rfl) hres (v := .int .i64 3) rfl ⟨rfl, rfl, rfl⟩
    · rw [ite_f hc4] at h
      replace hS := hS.know (t := 8) rfl (congrArg Value.bool hc4)
      refine WW.condF hS rfl rfl ?_
      refine WW.skip ?_
      refine WW.seq ?_
      refine WW.region ?_
      refine q_pu hS (wn rfl) rfl rfl rfl (v := .int .i64 0) (aop_assign (hS.lk rfl)) fun s hS => ?_
      refine KW.nil ?_
      refine WW.ret ?_
      have hres := (res_tmp hS (t := 2) (v := .int .i64 0) rfl (res_nil (E := EV) (s := s)))
      obtain rfl := Option.some.inj h
      exact fin hS (.inr rfl) hres (v := .int .i64 0) rfl ⟨rfl, rfl, rfl⟩
/-! ### formulary/formularyref01.with (43) -/
noncomputable def g_ref01_with.f (p0_0 : List UInt8) (p0_1 : List UInt8) (p0_2 : List Int) (p0_7 : List (Int × Int)) (p0_12 : Int) (p1_0 : UInt8) (p2_0 : Int) : Option (List UInt8 × List UInt8 × List Int × (List (Int × Int)) × Int) :=
  (if p0_0.length + ([p1_0] : List UInt8).length < 1000000000 then (if p0_1.length + ([p1_0] : List UInt8).length < 1000000000 then (if p0_2.length + ([p2_0] : List Int).length < 1000000000 then some ((p0_0 ++ ([p1_0] : List UInt8)), (p0_1 ++ ([p1_0] : List UInt8)), (p0_2 ++ ([p2_0] : List Int)), p0_7, p0_12) else none) else none) else none)
set_option maxHeartbeats 4000000 in
theorem g_ref01_with.ok {ap0_4 : Option Addr} {zp0_5 : Nat} {Bp0_7 : Seg} {ap0_9 : Option Addr} {zp0_10 : Nat} {Bp0_12 : Seg} {p0_0 : List UInt8} {p0_1 : List UInt8} {p0_2 : List Int} {p0_7 : List (Int × Int)} {p0_12 : Int} {p1_0 : UInt8} {p2_0 : Int} {F : FZ} {r : List UInt8 × List UInt8 × List Int × (List (Int × Int)) × Int} (h : g_ref01_with.f p0_0 p0_1 p0_2 p0_7 p0_12 p1_0 p2_0 = some r) (hp0_6 : Own (elI .i64 3) F ap0_4 zp0_5 p0_2 Bp0_7) (hp0_11 : Own el34 F ap0_9 zp0_10 p0_7 Bp0_12) :
    Cl EV 43 [.agg #[strV p0_0, strV p0_1, .slice ap0_4 p0_2.length zp0_5, .slice ap0_9 p0_7.length zp0_10, .int .i64 p0_12], vB p1_0, .int .i64 p2_0] [Bp0_7, Bp0_12] F (fun v S' F' => ∃ (ra1 : Option Addr) (rz2 : Nat) (rB4 : Seg) (ra5 : Option Addr) (rz6 : Nat) (rB8 : Seg), F = F' ∧ v = .agg #[strV r.1, strV r.2.1, .slice ra1 r.2.2.1.length rz2, .slice ra5 r.2.2.2.1.length rz6, .int .i64 r.2.2.2.2] ∧ S' = [rB4, rB8] ∧ Own (elI .i64 3) F' ra1 rz2 r.2.2.1 rB4 ∧ Own el34 F' ra5 rz6 r.2.2.2.1 rB8) := by
  refine Cl.of Tryz.func43 rfl (fun _ _ => rfl) (by kernel_rfl) fun s L nx0 hS => ?_
  unfold g_ref01_with.f at h
  refine WW.seq ?_
  refine WW.region ?_
  refine q_nw hS (wn rfl) rfl rfl rfl (v := fun i => .pointer (some ⟨i, 0, none⟩)) (b := .row [strV p0_0, strV p0_1, .slice ap0_4 p0_2.length zp0_5, .slice ap0_9 p0_7.length zp0_10, .int .i64 p0_12] 31 0 true) (aop_box (hS.lk rfl) rfl [strV p0_0, strV p0_1, .slice ap0_4 p0_2.length zp0_5, .slice ap0_9 p0_7.length zp0_10, .int .i64 p0_12] rfl) fun s i1 hS => ?_
  refine q_nw hS (wn rfl) rfl rfl rfl (v := fun i => .pointer (some ⟨i, 0, none⟩)) (b := .row [strV ([]), strV ([]), .slice none 0 0, .slice none 0 0, .int .i64 0] 31 0 true) (aop_alloc t0_31) fun s i2 hS => ?_
  refine KW.nil ?_
  refine WW.seq ?_
  refine WW.regionD (i := [[], [], [1, 0], [1, 0], [1, 0], [], [5, 4, 3, 2, 1, 0], [5, 4, 3, 2, 1, 0], [7, 6, 5, 4, 3, 2, 1, 0], [7, 6, 5, 4, 3, 2, 1, 0], [7, 6, 5, 4, 3, 2, 1, 0], [5, 4, 3, 2, 1, 0], [11, 10, 9, 8, 7, 6, 5, 4, 3, 2, 1, 0], [11, 10, 9, 8, 7, 6, 5, 4, 3, 2, 1, 0], [13, 12, 11, 10, 9, 8, 7, 6, 5, 4, 3, 2, 1, 0], [13, 12, 11, 10, 9, 8, 7, 6, 5, 4, 3, 2, 1, 0], [11, 10, 9, 8, 7, 6, 5, 4, 3, 2, 1, 0], [16, 15, 14, 11, 10, 9, 8], [11, 10, 9, 8], [], [], [], []]) (by kernel_rfl) ?_
  have hq := RS.start [i2, i1]
  refine K.pu hS hq rfl (wn rfl) rfl rfl rfl (v := .pointer (some ⟨i1, 0, none⟩)) (aop_fa (hS.lk rfl) tf31_0 rfl rfl) fun s rs hS hq => ?_
  refine K.ld hS hq rfl (wn rfl) rfl rfl rfl (hS.at (k := 1) rfl) tg9 (v := strV p0_0) rfl 1 rfl rfl fun s rs hS hq => ?_
  refine K.pu hS hq rfl (wn rfl) rfl rfl rfl (v := vB p1_0) (aop_move (hS.lk rfl)) fun s rs hS hq => ?_
  refine K.nw hS hq rfl (wn rfl) rfl rfl rfl (v := fun i => .slice (some ⟨i, 0, none⟩) 1 1) (b := .row [vB p1_0] 5 1 true) (aop_bsl tu83 tz5 t0_5 rfl [(0, vB p1_0)] (parts_eq hS rfl) rfl) [0, 1] (aw_c rfl mm0 (aw_c rfl (mm1 mm0) aw_n)) rfl rfl rfl fun s rs i3 hS hq => ?_
  have hC4 : Cells (elB 5) F ([p1_0] : List UInt8) [vB p1_0] := ⟨[vB p1_0], [], rfl, rfl, rfl⟩
  refine K.rd hS hq rfl (wn rfl) rfl rfl (tgt_cvr hS rfl) (hS.at (k := 0) rfl) (v := strV ([p1_0] : List UInt8)) (cv1c tu83 tb5 tu9 (hS.lk rfl) hC4) 2 rfl rfl fun s rs hS hq => ?_
  obtain ⟨hk5, h⟩ := ite_some h
  refine K.pu hS hq rfl (wn rfl) rfl rfl rfl (v := strV (p0_0 ++ ([p1_0] : List UInt8))) (aop_sadd (hS.lk rfl) (hS.lk rfl) hk5) fun s rs hS hq => ?_
  refine K.pu hS hq rfl (wn rfl) rfl rfl rfl (v := .pointer (some ⟨i1, 1, none⟩)) (aop_fa (hS.lk rfl) tf31_1 rfl rfl) fun s rs hS hq => ?_
  refine K.ld hS hq rfl (wn rfl) rfl rfl rfl (hS.at (k := 2) rfl) tg9 (v := strV p0_1) rfl 1 rfl rfl fun s rs hS hq => ?_
  refine K.pu hS hq rfl (wn rfl) rfl rfl rfl (v := vB p1_0) (aop_move (hS.lk rfl)) fun s rs hS hq => ?_
  refine K.nw hS hq rfl (wn rfl) rfl rfl rfl (v := fun i => .slice (some ⟨i, 0, none⟩) 1 1) (b := .row [vB p1_0] 5 1 true) (aop_bsl tu83 tz5 t0_5 rfl [(0, vB p1_0)] (parts_eq hS rfl) rfl) [0, 1, 2] (aw_c rfl (mm1 mm0) (aw_c rfl (mm1 (mm1 mm0)) (aw_c rfl mm0 aw_n))) rfl rfl rfl fun s rs i6 hS hq => ?_
  have hC7 : Cells (elB 5) F ([p1_0] : List UInt8) [vB p1_0] := ⟨[vB p1_0], [], rfl, rfl, rfl⟩
  replace hq := hq.apart 3 2 3 rfl rfl rfl (hS.ne (p := 1) (q := 0) rfl rfl rfl)
  refine K.rd hS hq rfl (wn rfl) rfl rfl (tgt_cvr hS rfl) (hS.at (k := 0) rfl) (v := strV ([p1_0] : List UInt8)) (cv1c tu83 tb5 tu9 (hS.lk rfl) hC7) 3 rfl rfl fun s rs hS hq => ?_
  obtain ⟨hk8, h⟩ := ite_some h
  refine K.pu hS hq rfl (wn rfl) rfl rfl rfl (v := strV (p0_1 ++ ([p1_0] : List UInt8))) (aop_sadd (hS.lk rfl) (hS.lk rfl) hk8) fun s rs hS hq => ?_
  refine K.pu hS hq rfl (wn rfl) rfl rfl rfl (v := .pointer (some ⟨i1, 2, none⟩)) (aop_fa (hS.lk rfl) tf31_2 rfl rfl) fun s rs hS hq => ?_
  refine K.ld hS hq rfl (wn rfl) rfl rfl rfl (hS.at (k := 3) rfl) tg23 (v := .slice ap0_4 p0_2.length zp0_5) rfl 1 rfl rfl fun s rs hS hq => ?_
  refine K.pu hS hq rfl (wn rfl) rfl rfl rfl (v := .int .i64 p2_0) (aop_move (hS.lk rfl)) fun s rs hS hq => ?_
  refine K.nw hS hq rfl (wn rfl) rfl rfl rfl (v := fun i => .slice (some ⟨i, 0, none⟩) 1 1) (b := .row [.int .i64 p2_0] 3 1 true) (aop_bsl tu23 tz3 t0_3 rfl [(0, .int .i64 p2_0)] (parts_eq hS rfl) rfl) [0, 1, 2, 3] (aw_c rfl (mm1 (mm1 mm0)) (aw_c rfl (mm1 (mm1 (mm1 mm0))) (aw_c rfl (mm1 mm0) (aw_c rfl mm0 aw_n)))) rfl rfl rfl fun s rs i9 hS hq => ?_
  have hC10 : Cells (elI .i64 3) F ([p2_0] : List Int) [.int .i64 p2_0] := ⟨[.int .i64 p2_0], [], rfl, rfl, rfl⟩
  obtain ⟨hk14, h⟩ := ite_some h
  replace hS := hS.pull 5
  replace hS := hS.pull 1
  replace hS := hS.pull 3
  replace hS := hS.pull 3
  refine K.app [(i6, .row [vB p1_0] 5 1 true), (i3, .row [vB p1_0] 5 1 true)] hS hq rfl (wn rfl) (dd := (elI .i64 3)) (lst := p0_2) (m := ([p2_0] : List Int)) rfl rfl ta23_23 rfl rfl hp0_6 (Nat.succ_pos _) hC10 hk14 [0, 1, 2, 3] rfl rfl (aw_c rfl (mm1 (mm1 mm0)) (aw_c rfl (mm1 (mm1 (mm1 mm0))) (aw_c rfl (mm1 mm0) (aw_c rfl mm0 aw_n)))) fun s rs i11 cs12 hC13 hS hq => ?_
  refine K.pu hS hq rfl (wn rfl) rfl rfl rfl (v := .pointer (some ⟨i1, 0, none⟩)) (aop_fa (hS.lk rfl) tf31_0 rfl rfl) fun s rs hS hq => ?_
  refine K.sto hS hq rfl (wn rfl) rfl rfl rfl rfl (p := 4) rfl tz9 rfl [strV (p0_0 ++ ([p1_0] : List UInt8)), strV p0_1, .slice ap0_4 p0_2.length zp0_5, .slice ap0_9 p0_7.length zp0_10, .int .i64 p0_12] rfl [0, 2, 3] rfl (aw_c rfl (mm1 (mm1 (mm1 mm0))) (aw_c rfl (mm1 mm0) (aw_c rfl mm0 aw_n))) fun s rs hS hq => ?_
  refine K.pu hS hq rfl (wn rfl) rfl rfl rfl (v := .pointer (some ⟨i1, 1, none⟩)) (aop_fa (hS.lk rfl) tf31_1 rfl rfl) fun s rs hS hq => ?_
  refine K.sto hS hq rfl (wn rfl) rfl rfl rfl rfl (p := 4) rfl tz9 rfl [strV (p0_0 ++ ([p1_0] : List UInt8)), strV (p0_1 ++ ([p1_0] : List UInt8)), .slice ap0_4 p0_2.length zp0_5, .slice ap0_9 p0_7.length zp0_10, .int .i64 p0_12] rfl [0, 2, 3] rfl (aw_c rfl (mm1 (mm1 (mm1 mm0))) (aw_c rfl (mm1 mm0) (aw_c rfl mm0 aw_n))) fun s rs hS hq => ?_
  refine K.pu hS hq rfl (wn rfl) rfl rfl rfl (v := .pointer (some ⟨i1, 2, none⟩)) (aop_fa (hS.lk rfl) tf31_2 rfl rfl) fun s rs hS hq => ?_
  refine K.sto hS hq rfl (wn rfl) rfl rfl rfl rfl (p := 4) rfl tz23 rfl [strV (p0_0 ++ ([p1_0] : List UInt8)), strV (p0_1 ++ ([p1_0] : List UInt8)), .slice (some ⟨i11, 0, none⟩) (p0_2 ++ ([p2_0] : List Int)).length 1, .slice ap0_9 p0_7.length zp0_10, .int .i64 p0_12] rfl [0, 2, 3] rfl (aw_c rfl (mm1 (mm1 (mm1 mm0))) (aw_c rfl (mm1 mm0) (aw_c rfl mm0 aw_n))) fun s rs hS hq => ?_
  refine KW.nil ?_
  refine WW.seq ?_
  refine WW.region ?_
  refine q_ldA hS (wn rfl) rfl rfl rfl (hS.at (k := 4) rfl) tg31 tz31 (vs := [strV (p0_0 ++ ([p1_0] : List UInt8)), strV (p0_1 ++ ([p1_0] : List UInt8)), .slice (some ⟨i11, 0, none⟩) (p0_2 ++ ([p2_0] : List Int)).length 1, .slice ap0_9 p0_7.length zp0_10, .int .i64 p0_12]) rfl fun s hS => ?_
  refine q_sto hS (wn rfl) rfl rfl rfl rfl (p := 3) rfl tz31 rfl [strV (p0_0 ++ ([p1_0] : List UInt8)), strV (p0_1 ++ ([p1_0] : List UInt8)), .slice (some ⟨i11, 0, none⟩) (p0_2 ++ ([p2_0] : List Int)).length 1, .slice ap0_9 p0_7.length zp0_10, .int .i64 p0_12] rfl fun s hS => ?_
  refine KW.nil ?_
  refine WW.ret ?_
  have hres := (res_cell hS (t := 6) (ty := 31) rfl (p := 3) rfl tg31 tz31 (ws := [strV (p0_0 ++ ([p1_0] : List UInt8)), strV (p0_1 ++ ([p1_0] : List UInt8)), .slice (some ⟨i11, 0, none⟩) (p0_2 ++ ([p2_0] : List Int)).length 1, .slice ap0_9 p0_7.length zp0_10, .int .i64 p0_12]) rfl (res_nil (E := EV) (s := s)))
  replace hS := hS.drop
  replace hS := hS.drop
  replace hS := (hS.pull 1).drop
  replace hS := (hS.pull 1).drop
  obtain rfl := Option.some.inj h
  exact fin hS (.inr rfl) hres (v := .agg #[strV (p0_0 ++ ([p1_0] : List UInt8)), strV (p0_1 ++ ([p1_0] : List UInt8)), .slice (some ⟨i11, 0, none⟩) (p0_2 ++ ([p2_0] : List Int)).length 1, .slice ap0_9 p0_7.length zp0_10, .int .i64 p0_12]) rfl ⟨_, _, _, _, _, _, rfl, rfl, rfl, (Own.blk0 hC13), hp0_11⟩
/-! ### formulary/formularyref01.hidden (42) -/
noncomputable def g_ref01_hidden.f (p0_0 : List UInt8) (p0_1 : List UInt8) (p0_2 : List Int) (p0_7 : List (Int × Int)) (p0_12 : Int) : Option (List UInt8 × List UInt8 × List Int × (List (Int × Int)) × Int) :=
  (if 0 ≤ (0 : Int) ∧ (0 : Int) ≤ (w64 ((p0_1.length : Int) - 1)) ∧ (w64 ((p0_1.length : Int) - 1)) ≤ (p0_1.length : Int) then (if (mid p0_1 (0 : Int) (w64 ((p0_1.length : Int) - 1))).length + ([34] : List UInt8).length < 1000000000 then some (p0_0, ((mid p0_1 (0 : Int) (w64 ((p0_1.length : Int) - 1))) ++ [34]), p0_2, p0_7, p0_12) else none) else none)
set_option maxHeartbeats 4000000 in
theorem g_ref01_hidden.ok {ap0_4 : Option Addr} {zp0_5 : Nat} {Bp0_7 : Seg} {ap0_9 : Option Addr} {zp0_10 : Nat} {Bp0_12 : Seg} {p0_0 : List UInt8} {p0_1 : List UInt8} {p0_2 : List Int} {p0_7 : List (Int × Int)} {p0_12 : Int} {F : FZ} {r : List UInt8 × List UInt8 × List Int × (List (Int × Int)) × Int} (h : g_ref01_hidden.f p0_0 p0_1 p0_2 p0_7 p0_12 = some r) (hp0_6 : Own (elI .i64 3) F ap0_4 zp0_5 p0_2 Bp0_7) (hp0_11 : Own el34 F ap0_9 zp0_10 p0_7 Bp0_12) :
    Cl EV 42 [.agg #[strV p0_0, strV p0_1, .slice ap0_4 p0_2.length zp0_5, .slice ap0_9 p0_7.length zp0_10, .int .i64 p0_12]] [Bp0_7, Bp0_12] F (fun v S' F' => ∃ (ra1 : Option Addr) (rz2 : Nat) (rB4 : Seg) (ra5 : Option Addr) (rz6 : Nat) (rB8 : Seg), F = F' ∧ v = .agg #[strV r.1, strV r.2.1, .slice ra1 r.2.2.1.length rz2, .slice ra5 r.2.2.2.1.length rz6, .int .i64 r.2.2.2.2] ∧ S' = [rB4, rB8] ∧ Own (elI .i64 3) F' ra1 rz2 r.2.2.1 rB4 ∧ Own el34 F' ra5 rz6 r.2.2.2.1 rB8) := by
  refine Cl.of Tryz.func42 rfl (fun _ _ => rfl) (by kernel_rfl) fun s L nx0 hS => ?_
  unfold g_ref01_hidden.f at h
  refine WW.seq ?_
  refine WW.region ?_
  refine q_nw hS (wn rfl) rfl rfl rfl (v := fun i => .pointer (some ⟨i, 0, none⟩)) (b := .row [strV p0_0, strV p0_1, .slice ap0_4 p0_2.length zp0_5, .slice ap0_9 p0_7.length zp0_10, .int .i64 p0_12] 31 0 true) (aop_box (hS.lk rfl) rfl [strV p0_0, strV p0_1, .slice ap0_4 p0_2.length zp0_5, .slice ap0_9 p0_7.length zp0_10, .int .i64 p0_12] rfl) fun s i1 hS => ?_
  refine q_nw hS (wn rfl) rfl rfl rfl (v := fun i => .pointer (some ⟨i, 0, none⟩)) (b := .row [strV ([]), strV ([]), .slice none 0 0, .slice none 0 0, .int .i64 0] 31 0 true) (aop_alloc t0_31) fun s i2 hS => ?_
  refine KW.nil ?_
  refine WW.seq ?_
  refine WW.region ?_
  refine q_pu hS (wn rfl) rfl rfl rfl (v := .pointer (some ⟨i1, 1, none⟩)) (aop_fa (hS.lk rfl) tf31_1 rfl rfl) fun s hS => ?_
  refine q_ld hS (wn rfl) rfl rfl rfl (hS.at (k := 1) rfl) tg9 (v := strV p0_1) rfl fun s hS => ?_
  refine q_pu hS (wn rfl) rfl rfl rfl (v := .pointer (some ⟨i1, 1, none⟩)) (aop_fa (hS.lk rfl) tf31_1 rfl rfl) fun s hS => ?_
  refine q_ld hS (wn rfl) rfl rfl rfl (hS.at (k := 1) rfl) tg9 (v := strV p0_1) rfl fun s hS => ?_
  refine q_pu hS (wn rfl) rfl rfl rfl (v := .int .i64 (p0_1.length : Int)) (aop_lenS rfl rfl tu9 (hS.lk rfl)) fun s hS => ?_
  refine q_pu hS (wn rfl) rfl rfl rfl (v := .int .i64 (w64 ((p0_1.length : Int) - 1))) (aop_int (hS.lk rfl) (hS.lk rfl) rfl) fun s hS => ?_
  obtain ⟨hk3, h⟩ := ite_some h
  refine q_pu hS (wn rfl) rfl rfl rfl (v := strV (mid p0_1 (0 : Int) (w64 ((p0_1.length : Int) - 1)))) (aop_slS tu9 (hS.lk rfl) (i := (0 : Int)) (j := (w64 ((p0_1.length : Int) - 1))) rfl (bnd_eq hS rfl) hk3) fun s hS => ?_
  obtain ⟨hk4, h⟩ := ite_some h
  refine q_pu hS (wn rfl) rfl rfl rfl (v := strV ((mid p0_1 (0 : Int) (w64 ((p0_1.length : Int) - 1))) ++ [34])) (aop_sadd (hS.lk rfl) (hS.lk rfl) hk4) fun s hS => ?_
  refine q_pu hS (wn rfl) rfl rfl rfl (v := .pointer (some ⟨i1, 1, none⟩)) (aop_fa (hS.lk rfl) tf31_1 rfl rfl) fun s hS => ?_
  refine q_sto hS (wn rfl) rfl rfl rfl rfl (p := 1) rfl tz9 rfl [strV p0_0, strV ((mid p0_1 (0 : Int) (w64 ((p0_1.length : Int) - 1))) ++ [34]), .slice ap0_4 p0_2.length zp0_5, .slice ap0_9 p0_7.length zp0_10, .int .i64 p0_12] rfl fun s hS => ?_
  refine KW.nil ?_
  refine WW.seq ?_
  refine WW.region ?_
  refine q_ldA hS (wn rfl) rfl rfl rfl (hS.at (k := 1) rfl) tg31 tz31 (vs := [strV p0_0, strV ((mid p0_1 (0 : Int) (w64 ((p0_1.length : Int) - 1))) ++ [34]), .slice ap0_4 p0_2.length zp0_5, .slice ap0_9 p0_7.length zp0_10, .int .i64 p0_12]) rfl fun s hS => ?_
  refine q_sto hS (wn rfl) rfl rfl rfl rfl (p := 0) rfl tz31 rfl [strV p0_0, strV ((mid p0_1 (0 : Int) (w64 ((p0_1.length : Int) - 1))) ++ [34]), .slice ap0_4 p0_2.length zp0_5, .slice ap0_9 p0_7.length zp0_10, .int .i64 p0_12] rfl fun s hS => ?_
  refine KW.nil ?_
  refine WW.ret ?_
  have hres := (res_cell hS (t := 2) (ty := 31) rfl (p := 0) rfl tg31 tz31 (ws := [strV p0_0, strV ((mid p0_1 (0 : Int) (w64 ((p0_1.length : Int) - 1))) ++ [34]), .slice ap0_4 p0_2.length zp0_5, .slice ap0_9 p0_7.length zp0_10, .int .i64 p0_12]) rfl (res_nil (E := EV) (s := s)))
  replace hS := hS.drop
  replace hS := hS.drop
  obtain rfl := Option.some.inj h
  exact fin hS (.inr rfl) hres (v := .agg #[strV p0_0, strV ((mid p0_1 (0 : Int) (w64 ((p0_1.length : Int) - 1))) ++ [34]), .slice ap0_4 p0_2.length zp0_5, .slice ap0_9 p0_7.length zp0_10, .int .i64 p0_12]) rfl ⟨_, _, _, _, _, _, rfl, rfl, rfl, hp0_6, hp0_11⟩
/-! ### formulary/formularyref01.isDigit (79) -/
noncomputable def g_ref01_isDigit.f (p0_0 : UInt8) : Option (Bool) :=
  some ((decide ((p0_0.toNat : Int) ≥ ((48 : UInt8).toNat : Int))) && (decide ((p0_0.toNat : Int) ≤ ((57 : UInt8).toNat : Int))))
set_option maxHeartbeats 4000000 in
theorem g_ref01_isDigit.ok {p0_0 : UInt8} {F : FZ} {r : Bool} (h : g_ref01_isDigit.f p0_0 = some r) :
    Cl EV 79 [vB p0_0] [] F (fun v S' F' => F = F' ∧ v = .bool r ∧ S' = []) := by
  refine Cl.of Tryz.func79 rfl (fun _ _ => rfl) (by kernel_rfl) fun s L nx0 hS => ?_
  unfold g_ref01_isDigit.f at h
  refine WW.seq ?_
  refine WW.region ?_
  refine q_pu hS (wn rfl) rfl rfl rfl (v := .bool false) (aop_assign (hS.lk rfl)) fun s hS => ?_
  refine KW.nil ?_
  refine WW.seq ?_
  refine WW.region ?_
  refine q_pu hS (wn rfl) rfl rfl rfl (v := vB p0_0) (aop_move (hS.lk rfl)) fun s hS => ?_
  refine q_pu hS (wn rfl) rfl rfl rfl (v := .bool (decide ((p0_0.toNat : Int) ≥ ((48 : UInt8).toNat : Int)))) (aop_int (hS.lk rfl) (hS.lk rfl) rfl) fun s hS => ?_
  refine q_pu hS (wn rfl) rfl rfl rfl (v := .bool (decide ((p0_0.toNat : Int) ≥ ((48 : UInt8).toNat : Int)))) (aop_move (hS.lk rfl)) fun s hS => ?_
  refine q_cut 3 (fun s => Stt EV s [(8, .bool ((decide ((p0_0.toNat : Int) ≥ ((48 : UInt8).toNat : Int))) && (decide ((p0_0.toNat : Int) ≤ ((57 : UInt8).toNat : Int))))), (2, .bool false)] [] F L F nx0) ?_ fun s hS => ?_
  ·
    rcases bool_cases ((decide ((p0_0.toNat : Int) ≥ ((48 : UInt8).toNat : Int)))) with hcj | hcj
    ·
      replace hS := hS.know (t := 4) rfl (congrArg Value.bool hcj)
      replace hS := hS.know (t := 5) rfl (congrArg Value.bool hcj)
      refine q_pu hS (wt hS rfl rfl rfl rfl) rfl rfl rfl (v := vB p0_0) (aop_move (hS.lk rfl)) fun s hS => ?_
      refine q_pu hS (wt hS rfl rfl rfl rfl) rfl rfl rfl (v := .bool (decide ((p0_0.toNat : Int) ≤ ((57 : UInt8).toNat : Int)))) (aop_int (hS.lk rfl) (hS.lk rfl) rfl) fun s hS => ?_
      refine q_pu hS (wn rfl) rfl rfl rfl (v := .bool (decide ((p0_0.toNat : Int) ≤ ((57 : UInt8).toNat : Int)))) (aop_pickT (hS.lk rfl) (hS.lk rfl)) fun s hS => ?_
      refine KW.nil ?_
      exact (hS.know (t := 8) (u' := .bool ((decide ((p0_0.toNat : Int) ≥ ((48 : UInt8).toNat : Int))) && (decide ((p0_0.toNat : Int) ≤ ((57 : UInt8).toNat : Int))))) rfl (jn_and_t hcj)).sub (.c rfl (.c rfl .n))
    ·
      replace hS := hS.know (t := 4) rfl (congrArg Value.bool hcj)
      replace hS := hS.know (t := 5) rfl (congrArg Value.bool hcj)
      refine q_no hS (wf hS rfl rfl rfl rfl) rfl fun s hS => ?_
      refine q_no hS (wf hS rfl rfl rfl rfl) rfl fun s hS => ?_
      refine q_pu hS (wn rfl) rfl rfl rfl (v := .bool false) (aop_pickF (hS.lk rfl) (hS.lk rfl)) fun s hS => ?_
      refine KW.nil ?_
      exact (hS.know (t := 8) (u' := .bool ((decide ((p0_0.toNat : Int) ≥ ((48 : UInt8).toNat : Int))) && (decide ((p0_0.toNat : Int) ≤ ((57 : UInt8).toNat : Int))))) rfl (jn_and_f hcj)).sub (.c rfl (.c rfl .n))
  refine q_pu hS (wn rfl) rfl rfl rfl (v := .bool ((decide ((p0_0.toNat : Int) ≥ ((48 : UInt8).toNat : Int))) && (decide ((p0_0.toNat : Int) ≤ ((57 : UInt8).toNat : Int))))) (aop_assign (hS.lk rfl)) fun s hS => ?_
  refine KW.nil ?_
  refine WW.ret ?_
  have hres := (res_tmp hS (t := 2) (v := .bool ((decide ((p0_0.toNat : Int) ≥ ((48 : UInt8).toNat : Int))) && (decide ((p0_0.toNat : Int) ≤ ((57 : UInt8).toNat : Int))))) rfl (res_nil (E := EV) (s := s)))
  obtain rfl := Option.some.inj h
  exact fin hS (.inr rfl) hres (v := .bool ((decide ((p0_0.toNat : Int) ≥ ((48 : UInt8).toNat : Int))) && (decide ((p0_0.toNat : Int) ≤ ((57 : UInt8).toNat : Int))))) rfl ⟨rfl, rfl, rfl⟩
/-! ### formulary/formularyref01.holleriths (44) -/
noncomputable def g_ref01_holleriths.b0 (p0_0 : List UInt8) (x1 : Int) : Option ((Int) ⊕ (Int)) :=
  Option.bind ((if (decide (x1 > 0)) then (if 0 ≤ (w64 (x1 - 1)) ∧ (w64 (x1 - 1)) < (p0_0.length : Int) then Option.bind (g_ref01_isDigit.f (gt p0_0 (w64 (x1 - 1)))) fun y8 => some y8 else none) else some false)) fun z5 => (if z5 then some (.inl (w64 (x1 - 1))) else some (.inr x1))
noncomputable def g_ref01_holleriths.b1 (p0_0 : List UInt8) (x15 : Int) : Option ((Int) ⊕ (Int)) :=
  Option.bind ((if (decide (x15 > 0)) then (if 0 ≤ (w64 (x15 - 1)) ∧ (w64 (x15 - 1)) < (p0_0.length : Int) then Option.bind (g_ref01_isDigit.f (gt p0_0 (w64 (x15 - 1)))) fun y22 => some y22 else none) else some false)) fun z19 => (if z19 then some (.inl (w64 (x15 - 1))) else some (.inr x15))
noncomputable def g_ref01_holleriths.f (p0_0 : List UInt8) : Option (Int) :=
  Option.bind (iter (g_ref01_holleriths.b0 p0_0) (p0_0.length : Int)) fun o2 => Option.bind ((if ((decide ((w64 ((p0_0.length : Int) - o2)) > 0)) && (decide (o2 > 0))) then (if 0 ≤ (w64 (o2 - 1)) ∧ (w64 (o2 - 1)) < (p0_0.length : Int) then some (((gt p0_0 (w64 (o2 - 1))).toNat : Int) == ((42 : UInt8).toNat : Int)) else none) else some false)) fun z11 => (if z11 then Option.bind (iter (g_ref01_holleriths.b1 p0_0) (w64 (o2 - 1))) fun o16 => (if (o16 == (w64 (o2 - 1))) then some 0 else Option.bind ((if (o16 == 0) then some true else (if 0 ≤ (w64 (o16 - 1)) ∧ (w64 (o16 - 1)) < (p0_0.length : Int) then Option.bind ((if (((gt p0_0 (w64 (o16 - 1))).toNat : Int) != ((40 : UInt8).toNat : Int)) then (if 0 ≤ (w64 (o16 - 1)) ∧ (w64 (o16 - 1)) < (p0_0.length : Int) then some (((gt p0_0 (w64 (o16 - 1))).toNat : Int) != ((44 : UInt8).toNat : Int)) else none) else some false)) fun z29 => Option.bind ((if z29 then (if 0 ≤ (w64 (o16 - 1)) ∧ (w64 (o16 - 1)) < (p0_0.length : Int) then some (((gt p0_0 (w64 (o16 - 1))).toNat : Int) != ((47 : UInt8).toNat : Int)) else none) else some false)) fun z32 => Option.bind ((if z32 then (if 0 ≤ (w64 (o16 - 1)) ∧ (w64 (o16 - 1)) < (p0_0.length : Int) then some (((gt p0_0 (w64 (o16 - 1))).toNat : Int) != ((61 : UInt8).toNat : Int)) else none) else some false)) fun z35 => some z35 else none))) fun z26 => (if z26 then some 0 else some (w64 ((p0_0.length : Int) - o2)))) else Option.bind ((if (o2 == 0) then some true else (if 0 ≤ (w64 (o2 - 1)) ∧ (w64 (o2 - 1)) < (p0_0.length : Int) then Option.bind ((if (((gt p0_0 (w64 (o2 - 1))).toNat : Int) != ((40 : UInt8).toNat : Int)) then (if 0 ≤ (w64 (o2 - 1)) ∧ (w64 (o2 - 1)) < (p0_0.length : Int) then some (((gt p0_0 (w64 (o2 - 1))).toNat : Int) != ((44 : UInt8).toNat : Int)) else none) else some false)) fun z42 => Option.bind ((if z42 then (if 0 ≤ (w64 (o2 - 1)) ∧ (w64 (o2 - 1)) < (p0_0.length : Int) then some (((gt p0_0 (w64 (o2 - 1))).toNat : Int) != ((47 : UInt8).toNat : Int)) else none) else some false)) fun z45 => Option.bind ((if z45 then (if 0 ≤ (w64 (o2 - 1)) ∧ (w64 (o2 - 1)) < (p0_0.length : Int) then some (((gt p0_0 (w64 (o2 - 1))).toNat : Int) != ((61 : UInt8).toNat : Int)) else none) else some false)) fun z48 => some z48 else none))) fun z39 => (if z39 then some 0 else some (w64 ((p0_0.length : Int) - o2))))
set_option maxHeartbeats 4000000 in
theorem g_ref01_holleriths.ok {p0_0 : List UInt8} {F : FZ} {r : Int} (h : g_ref01_holleriths.f p0_0 = some r) :
    Cl EV 44 [strV p0_0] [] F (fun v S' F' => F = F' ∧ v = .int .i64 r ∧ S' = []) := by
  refine Cl.of Tryz.func44 rfl (fun _ _ => rfl) (by kernel_rfl) fun s L nx0 hS => ?_
  unfold g_ref01_holleriths.f at h
  refine WW.seq ?_
  refine WW.region ?_
  refine q_pu hS (wn rfl) rfl rfl rfl (v := .int .i64 0) (aop_assign (hS.lk rfl)) fun s hS => ?_
  refine KW.nil ?_
  refine WW.seq ?_
  refine WW.region ?_
  refine q_pu hS (wn rfl) rfl rfl rfl (v := strV p0_0) (aop_move (hS.lk rfl)) fun s hS => ?_
  refine q_pu hS (wn rfl) rfl rfl rfl (v := .int .i64 (p0_0.length : Int)) (aop_lenS rfl rfl tu9 (hS.lk rfl)) fun s hS => ?_
  refine q_pu hS (wn rfl) rfl rfl rfl (v := .int .i64 (p0_0.length : Int)) (aop_assign (hS.lk rfl)) fun s hS => ?_
  refine KW.nil ?_
  refine WW.seq ?_
  refine WW.block ?_
  obtain ⟨o2, ho2, h⟩ := bind_some h
  refine WW.loop (LW.iter ho2 (fun (x1 : Int) s => Stt EV s [(0, strV p0_0), (2, .int .i64 0), (3, .int .i64 x1)] [] F L F nx0) (fun (y3 : Int) e s => (e = .exit 0 ∧ Stt EV s [(0, strV p0_0), (2, .int .i64 0), (3, .int .i64 y3)] [] F L F nx0)) (hS.sub (.c rfl (.c rfl (.c rfl .n)))) ?_ ?_)
  · clear hS
    rintro x1 s hS o2' h4
    unfold g_ref01_holleriths.b0 at h4
    refine WW.seq ?_
    refine WW.seq ?_
    refine WW.region ?_
    refine q_pu hS (wn rfl) rfl rfl rfl (v := .int .i64 x1) (aop_move (hS.lk rfl)) fun s hS => ?_
    refine q_pu hS (wn rfl) rfl rfl rfl (v := .bool (decide (x1 > 0))) (aop_int (hS.lk rfl) (hS.lk rfl) rfl) fun s hS => ?_
    refine q_pu hS (wn rfl) rfl rfl rfl (v := .bool (decide (x1 > 0))) (aop_move (hS.lk rfl)) fun s hS => ?_
    obtain ⟨z5, hz5, h4⟩ := bind_some h4
    refine q_cut 6 (fun s => Stt EV s [(16, .bool z5), (0, strV p0_0), (2, .int .i64 0), (3, .int .i64 x1)] [] F L F nx0) ?_ fun s hS => ?_
    ·
      rcases bool_cases ((decide (x1 > 0))) with hc6 | hc6
      · rw [ite_t hc6] at hz5
        replace hS := hS.know (t := 9) rfl (congrArg Value.bool hc6)
        replace hS := hS.know (t := 10) rfl (congrArg Value.bool hc6)
        refine q_pu hS (wt hS rfl rfl rfl rfl) rfl rfl rfl (v := strV p0_0) (aop_move (hS.lk rfl)) fun s hS => ?_
        refine q_pu hS (wt hS rfl rfl rfl rfl) rfl rfl rfl (v := .int .i64 x1) (aop_move (hS.lk rfl)) fun s hS => ?_
        refine q_pu hS (wt hS rfl rfl rfl rfl) rfl rfl rfl (v := .int .i64 (w64 (x1 - 1))) (aop_int (hS.lk rfl) (hS.lk rfl) rfl) fun s hS => ?_
        obtain ⟨hk7, hz5⟩ := ite_some hz5
        refine q_pu hS (wt hS rfl rfl rfl rfl) rfl rfl rfl (v := vB (gt p0_0 (w64 (x1 - 1)))) (aop_idxS tu9 (hS.lk rfl) (hS.lk rfl) hk7) fun s hS => ?_
        obtain ⟨y8, hy8, hz5⟩ := bind_some hz5
        refine q_cl hS (wt hS rfl rfl rfl rfl) (vs := [vB (gt p0_0 (w64 (x1 - 1)))]) (ws := [vB (gt p0_0 (w64 (x1 - 1)))]) rfl rfl rfl rfl rfl 0 rfl (g_ref01_isDigit.ok hy8) fun s v S' F' hp9 hF hS => ?_
        obtain ⟨rfl, rfl, rfl⟩ := hp9
        refine q_pu hS (wn rfl) rfl rfl rfl (v := .bool y8) (aop_pickT (hS.lk rfl) (hS.lk rfl)) fun s hS => ?_
        refine KW.nil ?_
        obtain rfl := Option.some.inj hz5
        exact hS.sub (.c rfl (.c rfl (.c rfl (.c rfl .n))))
      · rw [ite_f hc6] at hz5
        replace hS := hS.know (t := 9) rfl (congrArg Value.bool hc6)
        replace hS := hS.know (t := 10) rfl (congrArg Value.bool hc6)
        refine q_no hS (wf hS rfl rfl rfl rfl) rfl fun s hS => ?_
        refine q_no hS (wf hS rfl rfl rfl rfl) rfl fun s hS => ?_
        refine q_no hS (wf hS rfl rfl rfl rfl) rfl fun s hS => ?_
        refine q_no hS (wf hS rfl rfl rfl rfl) rfl fun s hS => ?_
        refine q_no hS (wf hS rfl rfl rfl rfl) rfl fun s hS => ?_
        refine q_pu hS (wn rfl) rfl rfl rfl (v := .bool false) (aop_pickF (hS.lk rfl) (hS.lk rfl)) fun s hS => ?_
        refine KW.nil ?_
        obtain rfl := Option.some.inj hz5
        exact hS.sub (.c rfl (.c rfl (.c rfl (.c rfl .n))))
    refine KW.nil ?_
    rcases bool_cases (z5) with hc10 | hc10
    · rw [ite_t hc10] at h4
      replace hS := hS.know (t := 16) rfl (congrArg Value.bool hc10)
      refine WW.condK hS rfl rfl ?_
      refine WW.skip ?_
      refine WW.block ?_
      refine WW.region ?_
      refine q_pu hS (wn rfl) rfl rfl rfl (v := .int .i64 x1) (aop_move (hS.lk rfl)) fun s hS => ?_
      refine q_pu hS (wn rfl) rfl rfl rfl (v := .int .i64 (w64 (x1 - 1))) (aop_int (hS.lk rfl) (hS.lk rfl) rfl) fun s hS => ?_
      refine q_pu hS (wn rfl) rfl rfl rfl (v := .int .i64 (w64 (x1 - 1))) (aop_assign (hS.lk rfl)) fun s hS => ?_
      refine KW.nil ?_
      obtain rfl := Option.some.inj h4
      exact ⟨_, rfl, (hS.sub (.c rfl (.c rfl (.c rfl .n))))⟩
    · rw [ite_f hc10] at h4
      replace hS := hS.know (t := 16) rfl (congrArg Value.bool hc10)
      refine WW.condF hS rfl rfl ?_
      refine WW.exit ?_
      refine thenQ_exit ?_
      obtain rfl := Option.some.inj h4
      exact ⟨_, rfl, rfl, (hS.sub (.c rfl (.c rfl (.c rfl .n))))⟩
  · clear hS
    rintro e s ⟨rfl, hS⟩
    refine blockQ_exit ?_
    refine WW.seq ?_
    refine WW.region ?_
    refine q_pu hS (wn rfl) rfl rfl rfl (v := strV p0_0) (aop_move (hS.lk rfl)) fun s hS => ?_
    refine q_pu hS (wn rfl) rfl rfl rfl (v := .int .i64 (p0_0.length : Int)) (aop_lenS rfl rfl tu9 (hS.lk rfl)) fun s hS => ?_
    refine q_pu hS (wn rfl) rfl rfl rfl (v := .int .i64 o2) (aop_move (hS.lk rfl)) fun s hS => ?_
    refine q_pu hS (wn rfl) rfl rfl rfl (v := .int .i64 (w64 ((p0_0.length : Int) - o2))) (aop_int (hS.lk rfl) (hS.lk rfl) rfl) fun s hS => ?_
    refine q_pu hS (wn rfl) rfl rfl rfl (v := .int .i64 (w64 ((p0_0.length : Int) - o2))) (aop_assign (hS.lk rfl)) fun s hS => ?_
    refine KW.nil ?_
    refine WW.seq ?_
    refine WW.seq ?_
    refine WW.region ?_
    refine q_pu hS (wn rfl) rfl rfl rfl (v := .int .i64 (w64 ((p0_0.length : Int) - o2))) (aop_move (hS.lk rfl)) fun s hS => ?_
    refine q_pu hS (wn rfl) rfl rfl rfl (v := .bool (decide ((w64 ((p0_0.length : Int) - o2)) > 0))) (aop_int (hS.lk rfl) (hS.lk rfl) rfl) fun s hS => ?_
    refine q_pu hS (wn rfl) rfl rfl rfl (v := .bool (decide ((w64 ((p0_0.length : Int) - o2)) > 0))) (aop_move (hS.lk rfl)) fun s hS => ?_
    refine q_cut 3 (fun s => Stt EV s [(28, .bool ((decide ((w64 ((p0_0.length : Int) - o2)) > 0)) && (decide (o2 > 0)))), (0, strV p0_0), (2, .int .i64 0), (3, .int .i64 o2), (4, .int .i64 (w64 ((p0_0.length : Int) - o2)))] [] F L F nx0) ?_ fun s hS => ?_
    ·
      rcases bool_cases ((decide ((w64 ((p0_0.length : Int) - o2)) > 0))) with hcj | hcj
      ·
        replace hS := hS.know (t := 24) rfl (congrArg Value.bool hcj)
        replace hS := hS.know (t := 25) rfl (congrArg Value.bool hcj)
        refine q_pu hS (wt hS rfl rfl rfl rfl) rfl rfl rfl (v := .int .i64 o2) (aop_move (hS.lk rfl)) fun s hS => ?_
        refine q_pu hS (wt hS rfl rfl rfl rfl) rfl rfl rfl (v := .bool (decide (o2 > 0))) (aop_int (hS.lk rfl) (hS.lk rfl) rfl) fun s hS => ?_
        refine q_pu hS (wn rfl) rfl rfl rfl (v := .bool (decide (o2 > 0))) (aop_pickT (hS.lk rfl) (hS.lk rfl)) fun s hS => ?_
        refine KW.nil ?_
        exact (hS.know (t := 28) (u' := .bool ((decide ((w64 ((p0_0.length : Int) - o2)) > 0)) && (decide (o2 > 0)))) rfl (jn_and_t hcj)).sub (.c rfl (.c rfl (.c rfl (.c rfl (.c rfl .n)))))
      ·
        replace hS := hS.know (t := 24) rfl (congrArg Value.bool hcj)
        replace hS := hS.know (t := 25) rfl (congrArg Value.bool hcj)
        refine q_no hS (wf hS rfl rfl rfl rfl) rfl fun s hS => ?_
        refine q_no hS (wf hS rfl rfl rfl rfl) rfl fun s hS => ?_
        refine q_pu hS (wn rfl) rfl rfl rfl (v := .bool false) (aop_pickF (hS.lk rfl) (hS.lk rfl)) fun s hS => ?_
        refine KW.nil ?_
        exact (hS.know (t := 28) (u' := .bool ((decide ((w64 ((p0_0.length : Int) - o2)) > 0)) && (decide (o2 > 0)))) rfl (jn_and_f hcj)).sub (.c rfl (.c rfl (.c rfl (.c rfl (.c rfl .n)))))
    refine q_pu hS (wn rfl) rfl rfl rfl (v := .bool ((decide ((w64 ((p0_0.length : Int) - o2)) > 0)) && (decide (o2 > 0)))) (aop_move (hS.lk rfl)) fun s hS => ?_
    obtain ⟨z11, hz11, h⟩ := bind_some h
    refine q_cut 6 (fun s => Stt EV s [(35, .bool z11), (0, strV p0_0), (2, .int .i64 0), (3, .int .i64 o2), (4, .int .i64 (w64 ((p0_0.length : Int) - o2)))] [] F L F nx0) ?_ fun s hS => ?_
    ·
      rcases bool_cases (((decide ((w64 ((p0_0.length : Int) - o2)) > 0)) && (decide (o2 > 0)))) with hc12 | hc12
      · rw [ite_t hc12] at hz11
        replace hS := hS.know (t := 28) rfl (congrArg Value.bool hc12)
        replace hS := hS.know (t := 29) rfl (congrArg Value.bool hc12)
        refine q_pu hS (wt hS rfl rfl rfl rfl) rfl rfl rfl (v := strV p0_0) (aop_move (hS.lk rfl)) fun s hS => ?_
        refine q_pu hS (wt hS rfl rfl rfl rfl) rfl rfl rfl (v := .int .i64 o2) (aop_move (hS.lk rfl)) fun s hS => ?_
        refine q_pu hS (wt hS rfl rfl rfl rfl) rfl rfl rfl (v := .int .i64 (w64 (o2 - 1))) (aop_int (hS.lk rfl) (hS.lk rfl) rfl) fun s hS => ?_
        obtain ⟨hk13, hz11⟩ := ite_some hz11
        refine q_pu hS (wt hS rfl rfl rfl rfl) rfl rfl rfl (v := vB (gt p0_0 (w64 (o2 - 1)))) (aop_idxS tu9 (hS.lk rfl) (hS.lk rfl) hk13) fun s hS => ?_
        refine q_pu hS (wt hS rfl rfl rfl rfl) rfl rfl rfl (v := .bool (((gt p0_0 (w64 (o2 - 1))).toNat : Int) == ((42 : UInt8).toNat : Int))) (aop_int (hS.lk rfl) (hS.lk rfl) rfl) fun s hS => ?_
        refine q_pu hS (wn rfl) rfl rfl rfl (v := .bool (((gt p0_0 (w64 (o2 - 1))).toNat : Int) == ((42 : UInt8).toNat : Int))) (aop_pickT (hS.lk rfl) (hS.lk rfl)) fun s hS => ?_
        refine KW.nil ?_
        obtain rfl := Option.some.inj hz11
        exact hS.sub (.c rfl (.c rfl (.c rfl (.c rfl (.c rfl .n)))))
      · rw [ite_f hc12] at hz11
        replace hS := hS.know (t := 28) rfl (congrArg Value.bool hc12)
        replace hS := hS.know (t := 29) rfl (congrArg Value.bool hc12)
        refine q_no hS (wf hS rfl rfl rfl rfl) rfl fun s hS => ?_
        refine q_no hS (wf hS rfl rfl rfl rfl) rfl fun s hS => ?_
        refine q_no hS (wf hS rfl rfl rfl rfl) rfl fun s hS => ?_
        refine q_no hS (wf hS rfl rfl rfl rfl) rfl fun s hS => ?_
        refine q_no hS (wf hS rfl rfl rfl rfl) rfl fun s hS => ?_
        refine q_pu hS (wn rfl) rfl rfl rfl (v := .bool false) (aop_pickF (hS.lk rfl) (hS.lk rfl)) fun s hS => ?_
        refine KW.nil ?_
        obtain rfl := Option.some.inj hz11
        exact hS.sub (.c rfl (.c rfl (.c rfl (.c rfl (.c rfl .n)))))
    refine KW.nil ?_
    rcases bool_cases (z11) with hc14 | hc14
    · rw [ite_t hc14] at h
      replace hS := hS.know (t := 35) rfl (congrArg Value.bool hc14)
      refine WW.condK hS rfl rfl ?_
      refine WW.seq ?_
      refine WW.region ?_
      refine q_pu hS (wn rfl) rfl rfl rfl (v := .int .i64 o2) (aop_move (hS.lk rfl)) fun s hS => ?_
      refine q_pu hS (wn rfl) rfl rfl rfl (v := .int .i64 (w64 (o2 - 1))) (aop_int (hS.lk rfl) (hS.lk rfl) rfl) fun s hS => ?_
      refine q_pu hS (wn rfl) rfl rfl rfl (v := .int .i64 (w64 (o2 - 1))) (aop_assign (hS.lk rfl)) fun s hS => ?_
      refine KW.nil ?_
      refine WW.seq ?_
      refine WW.block ?_
      obtain ⟨o16, ho16, h⟩ := bind_some h
      refine WW.loop (LW.iter ho16 (fun (x15 : Int) s => Stt EV s [(0, strV p0_0), (2, .int .i64 0), (3, .int .i64 o2), (4, .int .i64 (w64 ((p0_0.length : Int) - o2))), (5, .int .i64 x15)] [] F L F nx0) (fun (y17 : Int) e s => (e = .exit 2 ∧ Stt EV s [(0, strV p0_0), (2, .int .i64 0), (3, .int .i64 o2), (4, .int .i64 (w64 ((p0_0.length : Int) - o2))), (5, .int .i64 y17)] [] F L F nx0)) (hS.sub (.c rfl (.c rfl (.c rfl (.c rfl (.c rfl .n)))))) ?_ ?_)
      · clear hS
        rintro x15 s hS o16' h18
        unfold g_ref01_holleriths.b1 at h18
        refine WW.seq ?_
        refine WW.seq ?_
        refine WW.region ?_
        refine q_pu hS (wn rfl) rfl rfl rfl (v := .int .i64 x15) (aop_move (hS.lk rfl)) fun s hS => ?_
        refine q_pu hS (wn rfl) rfl rfl rfl (v := .bool (decide (x15 > 0))) (aop_int (hS.lk rfl) (hS.lk rfl) rfl) fun s hS => ?_
        refine q_pu hS (wn rfl) rfl rfl rfl (v := .bool (decide (x15 > 0))) (aop_move (hS.lk rfl)) fun s hS => ?_
        obtain ⟨z19, hz19, h18⟩ := bind_some h18
        refine q_cut 6 (fun s => Stt EV s [(46, .bool z19), (0, strV p0_0), (2, .int .i64 0), (3, .int .i64 o2), (4, .int .i64 (w64 ((p0_0.length : Int) - o2))), (5, .int .i64 x15)] [] F L F nx0) ?_ fun s hS => ?_
        ·
          rcases bool_cases ((decide (x15 > 0))) with hc20 | hc20
          · rw [ite_t hc20] at hz19
            replace hS := hS.know (t := 39) rfl (congrArg Value.bool hc20)
            replace hS := hS.know (t := 40) rfl (congrArg Value.bool hc20)
            refine q_pu hS (wt hS rfl rfl rfl rfl) rfl rfl rfl (v := strV p0_0) (aop_move (hS.lk rfl)) fun s hS => ?_
            refine q_pu hS (wt hS rfl rfl rfl rfl) rfl rfl rfl (v := .int .i64 x15) (aop_move (hS.lk rfl)) fun s hS => ?_
            refine q_pu hS (wt hS rfl rfl rfl rfl) rfl rfl rfl (v := .int .i64 (w64 (x15 - 1))) (aop_int (hS.lk rfl) (hS.lk rfl) rfl) fun s hS => ?_
            obtain ⟨hk21, hz19⟩ := ite_some hz19
            refine q_pu hS (wt hS rfl rfl rfl rfl) rfl rfl rfl (v := vB (gt p0_0 (w64 (x15 - 1)))) (aop_idxS tu9 (hS.lk rfl) (hS.lk rfl) hk21) fun s hS => ?_
            obtain ⟨y22, hy22, hz19⟩ := bind_some hz19
            refine q_cl hS (wt hS rfl rfl rfl rfl) (vs := [vB (gt p0_0 (w64 (x15 - 1)))]) (ws := [vB (gt p0_0 (w64 (x15 - 1)))]) rfl rfl rfl rfl rfl 0 rfl (g_ref01_isDigit.ok hy22) fun s v S' F' hp23 hF hS => ?_
            obtain ⟨rfl, rfl, rfl⟩ := hp23
            refine q_pu hS (wn rfl) rfl rfl rfl (v := .bool y22) (aop_pickT (hS.lk rfl) (hS.lk rfl)) fun s hS => ?_
            refine KW.nil ?_
            obtain rfl := Option.some.inj hz19
            exact hS.sub (.c rfl (.c rfl (.c rfl (.c rfl (.c rfl (.c rfl .n))))))
          · rw [ite_f hc20] at hz19
            replace hS := hS.know (t := 39) rfl (congrArg Value.bool hc20)
            replace hS := hS.know (t := 40) rfl (congrArg Value.bool hc20)
            refine q_no hS (wf hS rfl rfl rfl rfl) rfl fun s hS => ?_
            refine q_no hS (wf hS rfl rfl rfl rfl) rfl fun s hS => ?_
            refine q_no hS (wf hS rfl rfl rfl rfl) rfl fun s hS => ?_
            refine q_no hS (wf hS rfl rfl rfl rfl) rfl fun s hS => ?_
            refine q_no hS (wf hS rfl rfl rfl rfl) rfl fun s hS => ?_
            refine q_pu hS (wn rfl) rfl rfl rfl (v := .bool false) (aop_pickF (hS.lk rfl) (hS.lk rfl)) fun s hS => ?_
            refine KW.nil ?_
            obtain rfl := Option.some.inj hz19
            exact hS.sub (.c rfl (.c rfl (.c rfl (.c rfl (.c rfl (.c rfl .n))))))
        refine KW.nil ?_
        rcases bool_cases (z19) with hc24 | hc24
        · rw [ite_t hc24] at h18
          replace hS := hS.know (t := 46) rfl (congrArg Value.bool hc24)
          refine WW.condK hS rfl rfl ?_
          refine WW.skip ?_
          refine WW.block ?_
          refine WW.region ?_
          refine q_pu hS (wn rfl) rfl rfl rfl (v := .int .i64 x15) (aop_move (hS.lk rfl)) fun s hS => ?_
          refine q_pu hS (wn rfl) rfl rfl rfl (v := .int .i64 (w64 (x15 - 1))) (aop_int (hS.lk rfl) (hS.lk rfl) rfl) fun s hS => ?_
          refine q_pu hS (wn rfl) rfl rfl rfl (v := .int .i64 (w64 (x15 - 1))) (aop_assign (hS.lk rfl)) fun s hS => ?_
          refine KW.nil ?_
          obtain rfl := Option.some.inj h18
          exact ⟨_, rfl, (hS.sub (.c rfl (.c rfl (.c rfl (.c rfl (.c rfl .n))))))⟩
        · rw [ite_f hc24] at h18
          replace hS := hS.know (t := 46) rfl (congrArg Value.bool hc24)
          refine WW.condF hS rfl rfl ?_
          refine WW.exit ?_
          refine thenQ_exit ?_
          obtain rfl := Option.some.inj h18
          exact ⟨_, rfl, rfl, (hS.sub (.c rfl (.c rfl (.c rfl (.c rfl (.c rfl .n))))))⟩
      · clear hS
        rintro e s ⟨rfl, hS⟩
        refine blockQ_exit ?_
        refine WW.seq ?_
        refine WW.seq ?_
        refine WW.region ?_
        refine q_pu hS (wn rfl) rfl rfl rfl (v := .int .i64 o16) (aop_move (hS.lk rfl)) fun s hS => ?_
        refine q_pu hS (wn rfl) rfl rfl rfl (v := .int .i64 o2) (aop_move (hS.lk rfl)) fun s hS => ?_
        refine q_pu hS (wn rfl) rfl rfl rfl (v := .int .i64 (w64 (o2 - 1))) (aop_int (hS.lk rfl) (hS.lk rfl) rfl) fun s hS => ?_
        refine q_pu hS (wn rfl) rfl rfl rfl (v := .bool (o16 == (w64 (o2 - 1)))) (aop_int (hS.lk rfl) (hS.lk rfl) rfl) fun s hS => ?_
        refine KW.nil ?_
        rcases bool_cases ((o16 == (w64 (o2 - 1)))) with hc25 | hc25
        · rw [ite_t hc25] at h
          replace hS := hS.know (t := 52) rfl (congrArg Value.bool hc25)
          refine WW.condK hS rfl rfl ?_
          refine WW.seq ?_
          refine WW.region ?_
          refine q_pu hS (wn rfl) rfl rfl rfl (v := .int .i64 0) (aop_assign (hS.lk rfl)) fun s hS => ?_
          refine KW.nil ?_
          refine WW.ret ?_
          have hres := (res_tmp hS (t := 2) (v := .int .i64 0) rfl (res_nil (E := EV) (s := s)))
          obtain rfl := Option.some.inj h
          exact fin hS (.inr rfl) hres (v := .int .i64 0) rfl ⟨rfl, rfl, rfl⟩
        · rw [ite_f hc25] at h
          replace hS := hS.know (t := 52) rfl (congrArg Value.bool hc25)
          refine WW.condF hS rfl rfl ?_
          refine WW.skip ?_
          refine WW.region ?_
          refine q_pu hS (wn rfl) rfl rfl rfl (v := .int .i64 o16) (aop_move (hS.lk rfl)) fun s hS => ?_
          refine q_pu hS (wn rfl) rfl rfl rfl (v := .int .i64 o16) (aop_assign (hS.lk rfl)) fun s hS => ?_
          refine KW.nil ?_
          refine WW.seq ?_
          refine WW.seq ?_
          refine WW.region ?_
          refine q_pu hS (wn rfl) rfl rfl rfl (v := .int .i64 o16) (aop_move (hS.lk rfl)) fun s hS => ?_
          refine q_pu hS (wn rfl) rfl rfl rfl (v := .bool (o16 == 0)) (aop_int (hS.lk rfl) (hS.lk rfl) rfl) fun s hS => ?_
          refine q_pu hS (wn rfl) rfl rfl rfl (v := .bool (o16 == 0)) (aop_move (hS.lk rfl)) fun s hS => ?_
          obtain ⟨z26, hz26, h⟩ := bind_some h
          refine q_cut 27 (fun s => Stt EV s [(83, .bool z26), (2, .int .i64 0), (4, .int .i64 (w64 ((p0_0.length : Int) - o2)))] [] F L F nx0) ?_ fun s hS => ?_
          ·
            rcases bool_cases ((o16 == 0)) with hc27 | hc27
            · rw [ite_t hc27] at hz26
              replace hS := hS.know (t := 55) rfl (congrArg Value.bool hc27)
              replace hS := hS.know (t := 56) rfl (congrArg Value.bool hc27)
              refine q_no hS (wf hS rfl rfl rfl rfl) rfl fun s hS => ?_
              refine q_no hS (wf hS rfl rfl rfl rfl) rfl fun s hS => ?_
              refine q_no hS (wf hS rfl rfl rfl rfl) rfl fun s hS => ?_
              refine q_no hS (wf hS rfl rfl rfl rfl) rfl fun s hS => ?_
              refine q_no hS (wf hS rfl rfl rfl rfl) rfl fun s hS => ?_
              refine q_no hS (wf hS rfl rfl rfl rfl) rfl fun s hS => ?_
              refine q_no hS (wu hS rfl rfl rfl) rfl fun s hS => ?_
              refine q_no hS (wu hS rfl rfl rfl) rfl fun s hS => ?_
              refine q_no hS (wu hS rfl rfl rfl) rfl fun s hS => ?_
              refine q_no hS (wu hS rfl rfl rfl) rfl fun s hS => ?_
              refine q_no hS (wu hS rfl rfl rfl) rfl fun s hS => ?_
              refine q_no hS (wf hS rfl rfl rfl rfl) rfl fun s hS => ?_
              refine q_no hS (wf hS rfl rfl rfl rfl) rfl fun s hS => ?_
              refine q_no hS (wu hS rfl rfl rfl) rfl fun s hS => ?_
              refine q_no hS (wu hS rfl rfl rfl) rfl fun s hS => ?_
              refine q_no hS (wu hS rfl rfl rfl) rfl fun s hS => ?_
              refine q_no hS (wu hS rfl rfl rfl) rfl fun s hS => ?_
              refine q_no hS (wu hS rfl rfl rfl) rfl fun s hS => ?_
              refine q_no hS (wf hS rfl rfl rfl rfl) rfl fun s hS => ?_
              refine q_no hS (wf hS rfl rfl rfl rfl) rfl fun s hS => ?_
              refine q_no hS (wu hS rfl rfl rfl) rfl fun s hS => ?_
              refine q_no hS (wu hS rfl rfl rfl) rfl fun s hS => ?_
              refine q_no hS (wu hS rfl rfl rfl) rfl fun s hS => ?_
              refine q_no hS (wu hS rfl rfl rfl) rfl fun s hS => ?_
              refine q_no hS (wu hS rfl rfl rfl) rfl fun s hS => ?_
              refine q_no hS (wf hS rfl rfl rfl rfl) rfl fun s hS => ?_
              refine q_pu hS (wn rfl) rfl rfl rfl (v := .bool true) (aop_pickT (hS.lk rfl) (hS.lk rfl)) fun s hS => ?_
              refine KW.nil ?_
              obtain rfl := Option.some.inj hz26
              exact hS.sub (.c rfl (.c rfl (.c rfl .n)))
            · rw [ite_f hc27] at hz26
              replace hS := hS.know (t := 55) rfl (congrArg Value.bool hc27)
              replace hS := hS.know (t := 56) rfl (congrArg Value.bool hc27)
              refine q_pu hS (wt hS rfl rfl rfl rfl) rfl rfl rfl (v := strV p0_0) (aop_move (hS.lk rfl)) fun s hS => ?_
              refine q_pu hS (wt hS rfl rfl rfl rfl) rfl rfl rfl (v := .int .i64 o16) (aop_move (hS.lk rfl)) fun s hS => ?_
              refine q_pu hS (wt hS rfl rfl rfl rfl) rfl rfl rfl (v := .int .i64 (w64 (o16 - 1))) (aop_int (hS.lk rfl) (hS.lk rfl) rfl) fun s hS => ?_
              obtain ⟨hk28, hz26⟩ := ite_some hz26
              refine q_pu hS (wt hS rfl rfl rfl rfl) rfl rfl rfl (v := vB (gt p0_0 (w64 (o16 - 1)))) (aop_idxS tu9 (hS.lk rfl) (hS.lk rfl) hk28) fun s hS => ?_
              refine q_pu hS (wt hS rfl rfl rfl rfl) rfl rfl rfl (v := .bool (((gt p0_0 (w64 (o16 - 1))).toNat : Int) != ((40 : UInt8).toNat : Int))) (aop_int (hS.lk rfl) (hS.lk rfl) rfl) fun s hS => ?_
              refine q_pu hS (wt hS rfl rfl rfl rfl) rfl rfl rfl (v := .bool (((gt p0_0 (w64 (o16 - 1))).toNat : Int) != ((40 : UInt8).toNat : Int))) (aop_move (hS.lk rfl)) fun s hS => ?_
              obtain ⟨z29, hz29, hz26⟩ := bind_some hz26
              refine q_cut 6 (fun s => Stt EV s [(68, .bool z29), (0, strV p0_0), (2, .int .i64 0), (3, .int .i64 o16), (4, .int .i64 (w64 ((p0_0.length : Int) - o2))), (56, .bool false)] [] F L F nx0) ?_ fun s hS => ?_
              ·
                rcases bool_cases ((((gt p0_0 (w64 (o16 - 1))).toNat : Int) != ((40 : UInt8).toNat : Int))) with hc30 | hc30
                · rw [ite_t hc30] at hz29
                  replace hS := hS.know (t := 61) rfl (congrArg Value.bool hc30)
                  replace hS := hS.know (t := 62) rfl (congrArg Value.bool hc30)
                  refine q_pu hS (wt hS rfl rfl rfl rfl) rfl rfl rfl (v := strV p0_0) (aop_move (hS.lk rfl)) fun s hS => ?_
                  refine q_pu hS (wt hS rfl rfl rfl rfl) rfl rfl rfl (v := .int .i64 o16) (aop_move (hS.lk rfl)) fun s hS => ?_
                  refine q_pu hS (wt hS rfl rfl rfl rfl) rfl rfl rfl (v := .int .i64 (w64 (o16 - 1))) (aop_int (hS.lk rfl) (hS.lk rfl) rfl) fun s hS => ?_
                  obtain ⟨hk31, hz29⟩ := ite_some hz29
                  refine q_pu hS (wt hS rfl rfl rfl rfl) rfl rfl rfl (v := vB (gt p0_0 (w64 (o16 - 1)))) (aop_idxS tu9 (hS.lk rfl) (hS.lk rfl) hk31) fun s hS => ?_
                  refine q_pu hS (wt hS rfl rfl rfl rfl) rfl rfl rfl (v := .bool (((gt p0_0 (w64 (o16 - 1))).toNat : Int) != ((44 : UInt8).toNat : Int))) (aop_int (hS.lk rfl) (hS.lk rfl) rfl) fun s hS => ?_
                  refine q_pu hS (wt hS rfl rfl rfl rfl) rfl rfl rfl (v := .bool (((gt p0_0 (w64 (o16 - 1))).toNat : Int) != ((44 : UInt8).toNat : Int))) (aop_pickT (hS.lk rfl) (hS.lk rfl)) fun s hS => ?_
                  refine KW.nil ?_
                  obtain rfl := Option.some.inj hz29
                  exact hS.sub (.c rfl (.c rfl (.c rfl (.c rfl (.c rfl (.c rfl .n))))))
                · rw [ite_f hc30] at hz29
                  replace hS := hS.know (t := 61) rfl (congrArg Value.bool hc30)
                  replace hS := hS.know (t := 62) rfl (congrArg Value.bool hc30)
                  refine q_no hS (wf hS rfl rfl rfl rfl) rfl fun s hS => ?_
                  refine q_no hS (wf hS rfl rfl rfl rfl) rfl fun s hS => ?_
                  refine q_no hS (wf hS rfl rfl rfl rfl) rfl fun s hS => ?_
                  refine q_no hS (wf hS rfl rfl rfl rfl) rfl fun s hS => ?_
                  refine q_no hS (wf hS rfl rfl rfl rfl) rfl fun s hS => ?_
                  refine q_pu hS (wt hS rfl rfl rfl rfl) rfl rfl rfl (v := .bool false) (aop_pickF (hS.lk rfl) (hS.lk rfl)) fun s hS => ?_
                  refine KW.nil ?_
                  obtain rfl := Option.some.inj hz29
                  exact hS.sub (.c rfl (.c rfl (.c rfl (.c rfl (.c rfl (.c rfl .n))))))
              refine q_pu hS (wt hS rfl rfl rfl rfl) rfl rfl rfl (v := .bool z29) (aop_move (hS.lk rfl)) fun s hS => ?_
              obtain ⟨z32, hz32, hz26⟩ := bind_some hz26
              refine q_cut 6 (fun s => Stt EV s [(75, .bool z32), (0, strV p0_0), (2, .int .i64 0), (3, .int .i64 o16), (4, .int .i64 (w64 ((p0_0.length : Int) - o2))), (56, .bool false)] [] F L F nx0) ?_ fun s hS => ?_
              ·
                rcases bool_cases (z29) with hc33 | hc33
                · rw [ite_t hc33] at hz32
                  replace hS := hS.know (t := 68) rfl (congrArg Value.bool hc33)
                  replace hS := hS.know (t := 69) rfl (congrArg Value.bool hc33)
                  refine q_pu hS (wt hS rfl rfl rfl rfl) rfl rfl rfl (v := strV p0_0) (aop_move (hS.lk rfl)) fun s hS => ?_
                  refine q_pu hS (wt hS rfl rfl rfl rfl) rfl rfl rfl (v := .int .i64 o16) (aop_move (hS.lk rfl)) fun s hS => ?_
                  refine q_pu hS (wt hS rfl rfl rfl rfl) rfl rfl rfl (v := .int .i64 (w64 (o16 - 1))) (aop_int (hS.lk rfl) (hS.lk rfl) rfl) fun s hS => ?_
                  obtain ⟨hk34, hz32⟩ := ite_some hz32
                  refine q_pu hS (wt hS rfl rfl rfl rfl) rfl rfl rfl (v := vB (gt p0_0 (w64 (o16 - 1)))) (aop_idxS tu9 (hS.lk rfl) (hS.lk rfl) hk34) fun s hS => ?_
                  refine q_pu hS (wt hS rfl rfl rfl rfl) rfl rfl rfl (v := .bool (((gt p0_0 (w64 (o16 - 1))).toNat : Int) != ((47 : UInt8).toNat : Int))) (aop_int (hS.lk rfl) (hS.lk rfl) rfl) fun s hS => ?_
                  refine q_pu hS (wt hS rfl rfl rfl rfl) rfl rfl rfl (v := .bool (((gt p0_0 (w64 (o16 - 1))).toNat : Int) != ((47 : UInt8).toNat : Int))) (aop_pickT (hS.lk rfl) (hS.lk rfl)) fun s hS => ?_
                  refine KW.nil ?_
                  obtain rfl := Option.some.inj hz32
                  exact hS.sub (.c rfl (.c rfl (.c rfl (.c rfl (.c rfl (.c rfl .n))))))
                · rw [ite_f hc33] at hz32
                  replace hS := hS.know (t := 68) rfl (congrArg Value.bool hc33)
                  replace hS := hS.know (t := 69) rfl (congrArg Value.bool hc33)
                  refine q_no hS (wf hS rfl rfl rfl rfl) rfl fun s hS => ?_
                  refine q_no hS (wf hS rfl rfl rfl rfl) rfl fun s hS => ?_
                  refine q_no hS (wf hS rfl rfl rfl rfl) rfl fun s hS => ?_
                  refine q_no hS (wf hS rfl rfl rfl rfl) rfl fun s hS => ?_
                  refine q_no hS (wf hS rfl rfl rfl rfl) rfl fun s hS => ?_
                  refine q_pu hS (wt hS rfl rfl rfl rfl) rfl rfl rfl (v := .bool false) (aop_pickF (hS.lk rfl) (hS.lk rfl)) fun s hS => ?_
                  refine KW.nil ?_
                  obtain rfl := Option.some.inj hz32
                  exact hS.sub (.c rfl (.c rfl (.c rfl (.c rfl (.c rfl (.c rfl .n))))))
              refine q_pu hS (wt hS rfl rfl rfl rfl) rfl rfl rfl (v := .bool z32) (aop_move (hS.lk rfl)) fun s hS => ?_
              obtain ⟨z35, hz35, hz26⟩ := bind_some hz26
              refine q_cut 6 (fun s => Stt EV s [(82, .bool z35), (2, .int .i64 0), (4, .int .i64 (w64 ((p0_0.length : Int) - o2))), (56, .bool false)] [] F L F nx0) ?_ fun s hS => ?_
              ·
                rcases bool_cases (z32) with hc36 | hc36
                · rw [ite_t hc36] at hz35
                  replace hS := hS.know (t := 75) rfl (congrArg Value.bool hc36)
                  replace hS := hS.know (t := 76) rfl (congrArg Value.bool hc36)
                  refine q_pu hS (wt hS rfl rfl rfl rfl) rfl rfl rfl (v := strV p0_0) (aop_move (hS.lk rfl)) fun s hS => ?_
                  refine q_pu hS (wt hS rfl rfl rfl rfl) rfl rfl rfl (v := .int .i64 o16) (aop_move (hS.lk rfl)) fun s hS => ?_
                  refine q_pu hS (wt hS rfl rfl rfl rfl) rfl rfl rfl (v := .int .i64 (w64 (o16 - 1))) (aop_int (hS.lk rfl) (hS.lk rfl) rfl) fun s hS => ?_
                  obtain ⟨hk37, hz35⟩ := ite_some hz35
                  refine q_pu hS (wt hS rfl rfl rfl rfl) rfl rfl rfl (v := vB (gt p0_0 (w64 (o16 - 1)))) (aop_idxS tu9 (hS.lk rfl) (hS.lk rfl) hk37) fun s hS => ?_
                  refine q_pu hS (wt hS rfl rfl rfl rfl) rfl rfl rfl (v := .bool (((gt p0_0 (w64 (o16 - 1))).toNat : Int) != ((61 : UInt8).toNat : Int))) (aop_int (hS.lk rfl) (hS.lk rfl) rfl) fun s hS => ?_
                  refine q_pu hS (wt hS rfl rfl rfl rfl) rfl rfl rfl (v := .bool (((gt p0_0 (w64 (o16 - 1))).toNat : Int) != ((61 : UInt8).toNat : Int))) (aop_pickT (hS.lk rfl) (hS.lk rfl)) fun s hS => ?_
                  refine KW.nil ?_
                  obtain rfl := Option.some.inj hz35
                  exact hS.sub (.c rfl (.c rfl (.c rfl (.c rfl .n))))
                · rw [ite_f hc36] at hz35
                  replace hS := hS.know (t := 75) rfl (congrArg Value.bool hc36)
                  replace hS := hS.know (t := 76) rfl (congrArg Value.bool hc36)
                  refine q_no hS (wf hS rfl rfl rfl rfl) rfl fun s hS => ?_
                  refine q_no hS (wf hS rfl rfl rfl rfl) rfl fun s hS => ?_
                  refine q_no hS (wf hS rfl rfl rfl rfl) rfl fun s hS => ?_
                  refine q_no hS (wf hS rfl rfl rfl rfl) rfl fun s hS => ?_
                  refine q_no hS (wf hS rfl rfl rfl rfl) rfl fun s hS => ?_
                  refine q_pu hS (wt hS rfl rfl rfl rfl) rfl rfl rfl (v := .bool false) (aop_pickF (hS.lk rfl) (hS.lk rfl)) fun s hS => ?_
                  refine KW.nil ?_
                  obtain rfl := Option.some.inj hz35
                  exact hS.sub (.c rfl (.c rfl (.c rfl (.c rfl .n))))
              refine q_pu hS (wn rfl) rfl rfl rfl (v := .bool z35) (aop_pickF (hS.lk rfl) (hS.lk rfl)) fun s hS => ?_
              refine KW.nil ?_
              obtain rfl := Option.some.inj hz26
              exact hS.sub (.c rfl (.c rfl (.c rfl .n)))
          refine KW.nil ?_
          rcases bool_cases (z26) with hc38 | hc38
          · rw [ite_t hc38] at h
            replace hS := hS.know (t := 83) rfl (congrArg Value.bool hc38)
            refine WW.condK hS rfl rfl ?_
            refine WW.seq ?_
            refine WW.region ?_
            refine q_pu hS (wn rfl) rfl rfl rfl (v := .int .i64 0) (aop_assign (hS.lk rfl)) fun s hS => ?_
            refine KW.nil ?_
            refine WW.ret ?_
            have hres := (res_tmp hS (t := 2) (v := .int .i64 0) rfl (res_nil (E := EV) (s := s)))
            obtain rfl := Option.some.inj h
            exact fin hS (.inr rfl) hres (v := .int .i64 0) rfl ⟨rfl, rfl, rfl⟩
          · rw [ite_f hc38] at h
            replace hS := hS.know (t := 83) rfl (congrArg Value.bool hc38)
            refine WW.condF hS rfl rfl ?_
            refine WW.skip ?_
            refine WW.seq ?_
            refine WW.region ?_
            refine q_pu hS (wn rfl) rfl rfl rfl (v := .int .i64 (w64 ((p0_0.length : Int) - o2))) (aop_move (hS.lk rfl)) fun s hS => ?_
            refine q_pu hS (wn rfl) rfl rfl rfl (v := .int .i64 (w64 ((p0_0.length : Int) - o2))) (aop_assign (hS.lk rfl)) fun s hS => ?_
            refine KW.nil ?_
            refine WW.ret ?_
            have hres := (res_tmp hS (t := 2) (v := .int .i64 (w64 ((p0_0.length : Int) - o2))) rfl (res_nil (E := EV) (s := s)))
            obtain rfl := Option.some.inj h
            exact fin hS (.inr rfl) hres (v := .int .i64 (w64 ((p0_0.length : Int) - o2))) rfl ⟨rfl, rfl, rfl⟩
    · rw [ite_f hc14] at h
      replace hS := hS.know (t := 35) rfl (congrArg Value.bool hc14)
      refine WW.condF hS rfl rfl ?_
      refine WW.skip ?_
      refine WW.seq ?_
      refine WW.seq ?_
      refine WW.region ?_
      refine q_pu hS (wn rfl) rfl rfl rfl (v := .int .i64 o2) (aop_move (hS.lk rfl)) fun s hS => ?_
      refine q_pu hS (wn rfl) rfl rfl rfl (v := .bool (o2 == 0)) (aop_int (hS.lk rfl) (hS.lk rfl) rfl) fun s hS => ?_
      refine q_pu hS (wn rfl) rfl rfl rfl (v := .bool (o2 == 0)) (aop_move (hS.lk rfl)) fun s hS => ?_
      obtain ⟨z39, hz39, h⟩ := bind_some h
      refine q_cut 27 (fun s => Stt EV s [(83, .bool z39), (2, .int .i64 0), (4, .int .i64 (w64 ((p0_0.length : Int) - o2)))] [] F L F nx0) ?_ fun s hS => ?_
      ·
        rcases bool_cases ((o2 == 0)) with hc40 | hc40
        · rw [ite_t hc40] at hz39
          replace hS := hS.know (t := 55) rfl (congrArg Value.bool hc40)
          replace hS := hS.know (t := 56) rfl (congrArg Value.bool hc40)
          refine q_no hS (wf hS rfl rfl rfl rfl) rfl fun s hS => ?_
          refine q_no hS (wf hS rfl rfl rfl rfl) rfl fun s hS => ?_
          refine q_no hS (wf hS rfl rfl rfl rfl) rfl fun s hS => ?_
          refine q_no hS (wf hS rfl rfl rfl rfl) rfl fun s hS => ?_
          refine q_no hS (wf hS rfl rfl rfl rfl) rfl fun s hS => ?_
          refine q_no hS (wf hS rfl rfl rfl rfl) rfl fun s hS => ?_
          refine q_no hS (wu hS rfl rfl rfl) rfl fun s hS => ?_
          refine q_no hS (wu hS rfl rfl rfl) rfl fun s hS => ?_
          refine q_no hS (wu hS rfl rfl rfl) rfl fun s hS => ?_
          refine q_no hS (wu hS rfl rfl rfl) rfl fun s hS => ?_
          refine q_no hS (wu hS rfl rfl rfl) rfl fun s hS => ?_
          refine q_no hS (wf hS rfl rfl rfl rfl) rfl fun s hS => ?_
          refine q_no hS (wf hS rfl rfl rfl rfl) rfl fun s hS => ?_
          refine q_no hS (wu hS rfl rfl rfl) rfl fun s hS => ?_
          refine q_no hS (wu hS rfl rfl rfl) rfl fun s hS => ?_
          refine q_no hS (wu hS rfl rfl rfl) rfl fun s hS => ?_
          refine q_no hS (wu hS rfl rfl rfl) rfl fun s hS => ?_
          refine q_no hS (wu hS rfl rfl rfl) rfl fun s hS => ?_
          refine q_no hS (wf hS rfl rfl rfl rfl) rfl fun s hS => ?_
          refine q_no hS (wf hS rfl rfl rfl rfl) rfl fun s hS => ?_
          refine q_no hS (wu hS rfl rfl rfl) rfl fun s hS => ?_
          refine q_no hS (wu hS rfl rfl rfl) rfl fun s hS => ?_
          refine q_no hS (wu hS rfl rfl rfl) rfl fun s hS => ?_
          refine q_no hS (wu hS rfl rfl rfl) rfl fun s hS => ?_
          refine q_no hS (wu hS rfl rfl rfl) rfl fun s hS => ?_
          refine q_no hS (wf hS rfl rfl rfl rfl) rfl fun s hS => ?_
          refine q_pu hS (wn rfl) rfl rfl rfl (v := .bool true) (aop_pickT (hS.lk rfl) (hS.lk rfl)) fun s hS => ?_
          refine KW.nil ?_
          obtain rfl := Option.some.inj hz39
          exact hS.sub (.c rfl (.c rfl (.c rfl .n)))
        · rw [ite_f hc40] at hz39
          replace hS := hS.know (t := 55) rfl (congrArg Value.bool hc40)
          replace hS := hS.know (t := 56) rfl (congrArg Value.bool hc40)
          refine q_pu hS (wt hS rfl rfl rfl rfl) rfl rfl rfl (v := strV p0_0) (aop_move (hS.lk rfl)) fun s hS => ?_
          refine q_pu hS (wt hS rfl rfl rfl rfl) rfl rfl rfl (v := .int .i64 o2) (aop_move (hS.lk rfl)) fun s hS => ?_
          refine q_pu hS (wt hS rfl rfl rfl rfl) rfl rfl rfl (v := .int .i64 (w64 (o2 - 1))) (aop_int (hS.lk rfl) (hS.lk rfl) rfl) fun s hS => ?_
          obtain ⟨hk41, hz39⟩ := ite_some hz39
          refine q_pu hS (wt hS rfl rfl rfl rfl) rfl rfl rfl (v := vB (gt p0_0 (w64 (o2 - 1)))) (aop_idxS tu9 (hS.lk rfl) (hS.lk rfl) hk41) fun s hS => ?_
          refine q_pu hS (wt hS rfl rfl rfl rfl) rfl rfl rfl (v := .bool (((gt p0_0 (w64 (o2 - 1))).toNat : Int) != ((40 : UInt8).toNat : Int))) (aop_int (hS.lk rfl) (hS.lk rfl) rfl) fun s hS => ?_
          refine q_pu hS (wt hS rfl rfl rfl rfl) rfl rfl rfl (v := .bool (((gt p0_0 (w64 (o2 - 1))).toNat : Int) != ((40 : UInt8).toNat : Int))) (aop_move (hS.lk rfl)) fun s hS => ?_
          obtain ⟨z42, hz42, hz39⟩ := bind_some hz39
          refine q_cut 6 (fun s => Stt EV s [(68, .bool z42), (0, strV p0_0), (2, .int .i64 0), (3, .int .i64 o2), (4, .int .i64 (w64 ((p0_0.length : Int) - o2))), (56, .bool false)] [] F L F nx0) ?_ fun s hS => ?_
          ·
            rcases bool_cases ((((gt p0_0 (w64 (o2 - 1))).toNat : Int) != ((40 : UInt8).toNat : Int))) with hc43 | hc43
            · rw [ite_t hc43] at hz42
              replace hS := hS.know (t := 61) rfl (congrArg Value.bool hc43)
              replace hS := hS.know (t := 62) rfl (congrArg Value.bool hc43)
              refine q_pu hS (wt hS rfl rfl rfl rfl) rfl rfl rfl (v := strV p0_0) (aop_move (hS.lk rfl)) fun s hS => ?_
              refine q_pu hS (wt hS rfl rfl rfl rfl) rfl rfl rfl (v := .int .i64 o2) (aop_move (hS.lk rfl)) fun s hS => ?_
              refine q_pu hS (wt hS rfl rfl rfl rfl) rfl rfl rfl (v := .int .i64 (w64 (o2 - 1))) (aop_int (hS.lk rfl) (hS.lk rfl) rfl) fun s hS => ?_
              obtain ⟨hk44, hz42⟩ := ite_some hz42
              refine q_pu hS (wt hS rfl rfl rfl rfl) rfl rfl rfl (v := vB (gt p0_0 (w64 (o2 - 1)))) (aop_idxS tu9 (hS.lk rfl) (hS.lk rfl) hk44) fun s hS => ?_
              refine q_pu hS (wt hS rfl rfl rfl rfl) rfl rfl rfl (v := .bool (((gt p0_0 (w64 (o2 - 1))).toNat : Int) != ((44 : UInt8).toNat : Int))) (aop_int (hS.lk rfl) (hS.lk rfl) rfl) fun s hS => ?_
              refine q_pu hS (wt hS rfl rfl rfl rfl) rfl rfl rfl (v := .bool (((gt p0_0 (w64 (o2 - 1))).toNat : Int) != ((44 : UInt8).toNat : Int))) (aop_pickT (hS.lk rfl) (hS.lk rfl)) fun s hS => ?_
              refine KW.nil ?_
              obtain rfl := Option.some.inj hz42
              exact hS.sub (.c rfl (.c rfl (.c rfl (.c rfl (.c rfl (.c rfl .n))))))
            · rw [ite_f hc43] at hz42
              replace hS := hS.know (t := 61) rfl (congrArg Value.bool hc43)
              replace hS := hS.know (t := 62) rfl (congrArg Value.bool hc43)
              refine q_no hS (wf hS rfl rfl rfl rfl) rfl fun s hS => ?_
              refine q_no hS (wf hS rfl rfl rfl rfl) rfl fun s hS => ?_
              refine q_no hS (wf hS rfl rfl rfl rfl) rfl fun s hS => ?_
              refine q_no hS (wf hS rfl rfl rfl rfl) rfl fun s hS => ?_
              refine q_no hS (wf hS rfl rfl rfl rfl) rfl fun s hS => ?_
              refine q_pu hS (wt hS rfl rfl rfl rfl) rfl rfl rfl (v := .bool false) (aop_pickF (hS.lk rfl) (hS.lk rfl)) fun s hS => ?_
              refine KW.nil ?_
              obtain rfl := Option.some.inj hz42
              exact hS.sub (.c rfl (.c rfl (.c rfl (.c rfl (.c rfl (.c rfl .n))))))
          refine q_pu hS (wt hS rfl rfl rfl rfl) rfl rfl rfl (v := .bool z42) (aop_move (hS.lk rfl)) fun s hS => ?_
          obtain ⟨z45, hz45, hz39⟩ := bind_some hz39
          refine q_cut 6 (fun s => Stt EV s [(75, .bool z45), (0, strV p0_0), (2, .int .i64 0), (3, .int .i64 o2), (4, .int .i64 (w64 ((p0_0.length : Int) - o2))), (56, .bool false)] [] F L F nx0) ?_ fun s hS => ?_
          ·
            rcases bool_cases (z42) with hc46 | hc46
            · rw [ite_t hc46] at hz45
              replace hS := hS.know (t := 68) rfl (congrArg Value.bool hc46)
              replace hS := hS.know (t := 69) rfl (congrArg Value.bool hc46)
              refine q_pu hS (wt hS rfl rfl rfl rfl) rfl rfl rfl (v := strV p0_0) (aop_move (hS.lk rfl)) fun s hS => ?_
              refine q_pu hS (wt hS rfl rfl rfl rfl) rfl rfl rfl (v := .int .i64 o2) (aop_move (hS.lk rfl)) fun s hS => ?_
              refine q_pu hS (wt hS rfl rfl rfl rfl) rfl rfl rfl (v := .int .i64 (w64 (o2 - 1))) (aop_int (hS.lk rfl) (hS.lk rfl) rfl) fun s hS => ?_
              obtain ⟨hk47, hz45⟩ := ite_some hz45
              refine q_pu hS (wt hS rfl rfl rfl rfl) rfl rfl rfl (v := vB (gt p0_0 (w64 (o2 - 1)))) (aop_idxS tu9 (hS.lk rfl) (hS.lk rfl) hk47) fun s hS => ?_
              refine q_pu hS (wt hS rfl rfl rfl rfl) rfl rfl rfl (v := .bool (((gt p0_0 (w64 (o2 - 1))).toNat : Int) != ((47 : UInt8).toNat : Int))) (aop_int (hS.lk rfl) (hS.lk rfl) rfl) fun s hS => ?_
              refine q_pu hS (wt hS rfl rfl rfl rfl) rfl rfl rfl (v := .bool (((gt p0_0 (w64 (o2 - 1))).toNat : Int) != ((47 : UInt8).toNat : Int))) (aop_pickT (hS.lk rfl) (hS.lk rfl)) fun s hS => ?_
              refine KW.nil ?_
              obtain rfl := Option.some.inj hz45
              exact hS.sub (.c rfl (.c rfl (.c rfl (.c rfl (.c rfl (.c rfl .n))))))
            · rw [ite_f hc46] at hz45
              replace hS := hS.know (t := 68) rfl (congrArg Value.bool hc46)
              replace hS := hS.know (t := 69) rfl (congrArg Value.bool hc46)
              refine q_no hS (wf hS rfl rfl rfl rfl) rfl fun s hS => ?_
              refine q_no hS (wf hS rfl rfl rfl rfl) rfl fun s hS => ?_
              refine q_no hS (wf hS rfl rfl rfl rfl) rfl fun s hS => ?_
              refine q_no hS (wf hS rfl rfl rfl rfl) rfl fun s hS => ?_
              refine q_no hS (wf hS rfl rfl rfl rfl) rfl fun s hS => ?_
              refine q_pu hS (wt hS rfl rfl rfl rfl) rfl rfl rfl (v := .bool false) (aop_pickF (hS.lk rfl) (hS.lk rfl)) fun s hS => ?_
              refine KW.nil ?_
              obtain rfl := Option.some.inj hz45
              exact hS.sub (.c rfl (.c rfl (.c rfl (.c rfl (.c rfl (.c rfl .n))))))
          refine q_pu hS (wt hS rfl rfl rfl rfl) rfl rfl rfl (v := .bool z45) (aop_move (hS.lk rfl)) fun s hS => ?_
          obtain ⟨z48, hz48, hz39⟩ := bind_some hz39
          refine q_cut 6 (fun s => Stt EV s [(82, .bool z48), (2, .int .i64 0), (4, .int .i64 (w64 ((p0_0.length : Int) - o2))), (56, .bool false)] [] F L F nx0) ?_ fun s hS => ?_
          ·
            rcases bool_cases (z45) with hc49 | hc49
            · rw [ite_t hc49] at hz48
              replace hS := hS.know (t := 75) rfl (congrArg Value.bool hc49)
              replace hS := hS.know (t := 76) rfl (congrArg Value.bool hc49)
              refine q_pu hS (wt hS rfl rfl rfl rfl) rfl rfl rfl (v := strV p0_0) (aop_move (hS.lk rfl)) fun s hS => ?_
              refine q_pu hS (wt hS rfl rfl rfl rfl) rfl rfl rfl (v := .int .i64 o2) (aop_move (hS.lk rfl)) fun s hS => ?_
              refine q_pu hS (wt hS rfl rfl rfl rfl) rfl rfl rfl (v := .int .i64 (w64 (o2 - 1))) (aop_int (hS.lk rfl) (hS.lk rfl) rfl) fun s hS => ?_
              obtain ⟨hk50, hz48⟩ := ite_some hz48
              refine q_pu hS (wt hS rfl rfl rfl rfl) rfl rfl rfl (v := vB (gt p0_0 (w64 (o2 - 1)))) (aop_idxS tu9 (hS.lk rfl) (hS.lk rfl) hk50) fun s hS => ?_
              refine q_pu hS (wt hS rfl rfl rfl rfl) rfl rfl rfl (v := .bool (((gt p0_0 (w64 (o2 - 1))).toNat : Int) != ((61 : UInt8).toNat : Int))) (aop_int (hS.lk rfl) (hS.lk rfl) rfl) fun s hS => ?_
              refine q_pu hS (wt hS rfl rfl rfl rfl) rfl rfl rfl (v := .bool (((gt p0_0 (w64 (o2 - 1))).toNat : Int) != ((61 : UInt8).toNat : Int))) (aop_pickT (hS.lk rfl) (hS.lk rfl)) fun s hS => ?_
              refine KW.nil ?_
              obtain rfl := Option.some.inj hz48
              exact hS.sub (.c rfl (.c rfl (.c rfl (.c rfl .n))))
            · rw [ite_f hc49] at hz48
              replace hS := hS.know (t := 75) rfl (congrArg Value.bool hc49)
              replace hS := hS.know (t := 76) rfl (congrArg Value.bool hc49)
              refine q_no hS (wf hS rfl rfl rfl rfl) rfl fun s hS => ?_
              refine q_no hS (wf hS rfl rfl rfl rfl) rfl fun s hS => ?_
              refine q_no hS (wf hS rfl rfl rfl rfl) rfl fun s hS => ?_
              refine q_no hS (wf hS rfl rfl rfl rfl) rfl fun s hS => ?_
              refine q_no hS (wf hS rfl rfl rfl rfl) rfl fun s hS => ?_
              refine q_pu hS (wt hS rfl rfl rfl rfl) rfl rfl rfl (v := .bool false) (aop_pickF (hS.lk rfl) (hS.lk rfl)) fun s hS => ?_
              refine KW.nil ?_
              obtain rfl := Option.some.inj hz48
              exact hS.sub (.c rfl (.c rfl (.c rfl (.c rfl .n))))
          refine q_pu hS (wn rfl) rfl rfl rfl (v := .bool z48) (aop_pickF (hS.lk rfl) (hS.lk rfl)) fun s hS => ?_
          refine KW.nil ?_
          obtain rfl := Option.some.inj hz39
          exact hS.sub (.c rfl (.c rfl (.c rfl .n)))
      refine KW.nil ?_
      rcases bool_cases (z39) with hc51 | hc51
      · rw [ite_t hc51] at h
        replace hS := hS.know (t := 83) rfl (congrArg Value.bool hc51)
        refine WW.condK hS rfl rfl ?_
        refine WW.seq ?_
        refine WW.region ?_
        refine q_pu hS (wn rfl) rfl rfl rfl (v := .int .i64 0) (aop_assign (hS.lk rfl)) fun s hS => ?_
        refine KW.nil ?_
        refine WW.ret ?_
        have hres := (res_tmp hS (t := 2) (v := .int .i64 0) rfl (res_nil (E := EV) (s := s)))
        obtain rfl := Option.some.inj h
        exact fin hS (.inr rfl) hres (v := .int .i64 0) rfl ⟨rfl, rfl, rfl⟩
      · rw [ite_f hc51] at h
        replace hS := hS.know (t := 83) rfl (congrArg Value.bool hc51)
        refine WW.condF hS rfl rfl ?_
        refine WW.skip ?_
        refine WW.seq ?_
        refine WW.region ?_
        refine q_pu hS (wn rfl) rfl rfl rfl (v := .int .i64 (w64 ((p0_0.length : Int) - o2))) (aop_move (hS.lk rfl)) fun s hS => ?_
        refine q_pu hS (wn rfl) rfl rfl rfl (v := .int .i64 (w64 ((p0_0.length : Int) - o2))) (aop_assign (hS.lk rfl)) fun s hS => ?_
        refine KW.nil ?_
        refine WW.ret ?_
        have hres := (res_tmp hS (t := 2) (v := .int .i64 (w64 ((p0_0.length : Int) - o2))) rfl (res_nil (E := EV) (s := s)))
        obtain rfl := Option.some.inj h
        exact fin hS (.inr rfl) hres (v := .int .i64 (w64 ((p0_0.length : Int) - o2))) rfl ⟨rfl, rfl, rfl⟩
/-! ### formulary/formularyref01.upper (45) -/
noncomputable def g_ref01_upper.b0 (p0_0 : List UInt8) (x1 : List UInt8 × Int) : Option ((List UInt8 × Int) ⊕ (List UInt8 × Int)) :=
  (if (decide (x1.2 < (p0_0.length : Int))) then (if 0 ≤ x1.2 ∧ x1.2 < (p0_0.length : Int) then Option.bind ((if ((decide (((gt p0_0 x1.2).toNat : Int) ≥ ((97 : UInt8).toNat : Int))) && (decide (((gt p0_0 x1.2).toNat : Int) ≤ ((122 : UInt8).toNat : Int)))) then some ((gt p0_0 x1.2) - 32) else some (gt p0_0 x1.2))) fun z7 => (if x1.1.length + ([z7] : List UInt8).length < 1000000000 then some (.inl ((x1.1 ++ ([z7] : List UInt8)), (w64 (x1.2 + 1)))) else none) else none) else some (.inr (x1.1, x1.2)))
noncomputable def g_ref01_upper.f (p0_0 : List UInt8) : Option (List UInt8) :=
  Option.bind (iter (g_ref01_upper.b0 p0_0) ([], 0)) fun o2 => some o2.1
set_option maxHeartbeats 4000000 in
theorem g_ref01_upper.ok {p0_0 : List UInt8} {F : FZ} {r : List UInt8} (h : g_ref01_upper.f p0_0 = some r) :
    Cl EV 45 [strV p0_0] [] F (fun v S' F' => F = F' ∧ v = strV r ∧ S' = []) := by
  refine Cl.of Tryz.func45 rfl (fun _ _ => rfl) (by kernel_rfl) fun s L nx0 hS => ?_
  unfold g_ref01_upper.f at h
  refine WW.seq ?_
  refine WW.region ?_
  refine q_pu hS (wn rfl) rfl rfl rfl (v := strV ([])) (aop_assign (hS.lk rfl)) fun s hS => ?_
  refine KW.nil ?_
  refine WW.seq ?_
  refine WW.region ?_
  refine q_pu hS (wn rfl) rfl rfl rfl (v := strV ([])) (aop_assign (hS.lk rfl)) fun s hS => ?_
  refine KW.nil ?_
  refine WW.seq ?_
  refine WW.seq ?_
  refine WW.region ?_
  refine q_pu hS (wn rfl) rfl rfl rfl (v := .int .i64 0) (aop_assign (hS.lk rfl)) fun s hS => ?_
  refine KW.nil ?_
  refine WW.block ?_
  obtain ⟨o2, ho2, h⟩ := bind_some h
  refine WW.loop (LW.iter ho2 (fun (x1 : List UInt8 × Int) s => Stt EV s [(0, strV p0_0), (2, strV ([])), (3, strV x1.1), (4, .int .i64 x1.2)] [] F L F nx0) (fun (y3 : List UInt8 × Int) e s => (e = .exit 0 ∧ Stt EV s [(0, strV p0_0), (2, strV ([])), (3, strV y3.1), (4, .int .i64 y3.2)] [] F L F nx0)) (hS.sub (.c rfl (.c rfl (.c rfl (.c rfl .n))))) ?_ ?_)
  · clear hS
    rintro x1 s hS o2' h4
    unfold g_ref01_upper.b0 at h4
    refine WW.seq ?_
    refine WW.seq ?_
    refine WW.region ?_
    refine q_pu hS (wn rfl) rfl rfl rfl (v := .int .i64 x1.2) (aop_move (hS.lk rfl)) fun s hS => ?_
    refine q_pu hS (wn rfl) rfl rfl rfl (v := strV p0_0) (aop_move (hS.lk rfl)) fun s hS => ?_
    refine q_pu hS (wn rfl) rfl rfl rfl (v := .int .i64 (p0_0.length : Int)) (aop_lenS rfl rfl tu9 (hS.lk rfl)) fun s hS => ?_
    refine q_pu hS (wn rfl) rfl rfl rfl (v := .bool (decide (x1.2 < (p0_0.length : Int)))) (aop_int (hS.lk rfl) (hS.lk rfl) rfl) fun s hS => ?_
    refine KW.nil ?_
    rcases bool_cases ((decide (x1.2 < (p0_0.length : Int)))) with hc5 | hc5
    · rw [ite_t hc5] at h4
      replace hS := hS.know (t := 9) rfl (congrArg Value.bool hc5)
      refine WW.condK hS rfl rfl ?_
      refine WW.skip ?_
      refine WW.seq ?_
      refine WW.block ?_
      refine WW.seq ?_
      refine WW.region ?_
      refine q_pu hS (wn rfl) rfl rfl rfl (v := strV p0_0) (aop_move (hS.lk rfl)) fun s hS => ?_
      refine q_pu hS (wn rfl) rfl rfl rfl (v := .int .i64 x1.2) (aop_move (hS.lk rfl)) fun s hS => ?_
      obtain ⟨hk6, h4⟩ := ite_some h4
      refine q_pu hS (wn rfl) rfl rfl rfl (v := vB (gt p0_0 x1.2)) (aop_idxS tu9 (hS.lk rfl) (hS.lk rfl) hk6) fun s hS => ?_
      refine q_pu hS (wn rfl) rfl rfl rfl (v := vB (gt p0_0 x1.2)) (aop_assign (hS.lk rfl)) fun s hS => ?_
      refine KW.nil ?_
      obtain ⟨z7, hz7, h4⟩ := bind_some h4
      refine WW.seqJ (fun s => Stt EV s [(0, strV p0_0), (2, strV ([])), (3, strV x1.1), (4, .int .i64 x1.2), (5, vB z7)] [] F L F nx0) ?_ ?_
      ·
        refine WW.seq ?_
        refine WW.region ?_
        refine q_pu hS (wn rfl) rfl rfl rfl (v := vB (gt p0_0 x1.2)) (aop_move (hS.lk rfl)) fun s hS => ?_
        refine q_pu hS (wn rfl) rfl rfl rfl (v := .bool (decide (((gt p0_0 x1.2).toNat : Int) ≥ ((97 : UInt8).toNat : Int)))) (aop_int (hS.lk rfl) (hS.lk rfl) rfl) fun s hS => ?_
        refine q_pu hS (wn rfl) rfl rfl rfl (v := .bool (decide (((gt p0_0 x1.2).toNat : Int) ≥ ((97 : UInt8).toNat : Int)))) (aop_move (hS.lk rfl)) fun s hS => ?_
        refine q_cut 3 (fun s => Stt EV s [(20, .bool ((decide (((gt p0_0 x1.2).toNat : Int) ≥ ((97 : UInt8).toNat : Int))) && (decide (((gt p0_0 x1.2).toNat : Int) ≤ ((122 : UInt8).toNat : Int))))), (0, strV p0_0), (2, strV ([])), (3, strV x1.1), (4, .int .i64 x1.2), (5, vB (gt p0_0 x1.2))] [] F L F nx0) ?_ fun s hS => ?_
        ·
          rcases bool_cases ((decide (((gt p0_0 x1.2).toNat : Int) ≥ ((97 : UInt8).toNat : Int)))) with hcj | hcj
          ·
            replace hS := hS.know (t := 16) rfl (congrArg Value.bool hcj)
            replace hS := hS.know (t := 17) rfl (congrArg Value.bool hcj)
            refine q_pu hS (wt hS rfl rfl rfl rfl) rfl rfl rfl (v := vB (gt p0_0 x1.2)) (aop_move (hS.lk rfl)) fun s hS => ?_
            refine q_pu hS (wt hS rfl rfl rfl rfl) rfl rfl rfl (v := .bool (decide (((gt p0_0 x1.2).toNat : Int) ≤ ((122 : UInt8).toNat : Int)))) (aop_int (hS.lk rfl) (hS.lk rfl) rfl) fun s hS => ?_
            refine q_pu hS (wn rfl) rfl rfl rfl (v := .bool (decide (((gt p0_0 x1.2).toNat : Int) ≤ ((122 : UInt8).toNat : Int)))) (aop_pickT (hS.lk rfl) (hS.lk rfl)) fun s hS => ?_
            refine KW.nil ?_
            exact (hS.know (t := 20) (u' := .bool ((decide (((gt p0_0 x1.2).toNat : Int) ≥ ((97 : UInt8).toNat : Int))) && (decide (((gt p0_0 x1.2).toNat : Int) ≤ ((122 : UInt8).toNat : Int))))) rfl (jn_and_t hcj)).sub (.c rfl (.c rfl (.c rfl (.c rfl (.c rfl (.c rfl .n))))))
          ·
            replace hS := hS.know (t := 16) rfl (congrArg Value.bool hcj)
            replace hS := hS.know (t := 17) rfl (congrArg Value.bool hcj)
            refine q_no hS (wf hS rfl rfl rfl rfl) rfl fun s hS => ?_
            refine q_no hS (wf hS rfl rfl rfl rfl) rfl fun s hS => ?_
            refine q_pu hS (wn rfl) rfl rfl rfl (v := .bool false) (aop_pickF (hS.lk rfl) (hS.lk rfl)) fun s hS => ?_
            refine KW.nil ?_
            exact (hS.know (t := 20) (u' := .bool ((decide (((gt p0_0 x1.2).toNat : Int) ≥ ((97 : UInt8).toNat : Int))) && (decide (((gt p0_0 x1.2).toNat : Int) ≤ ((122 : UInt8).toNat : Int))))) rfl (jn_and_f hcj)).sub (.c rfl (.c rfl (.c rfl (.c rfl (.c rfl (.c rfl .n))))))
        refine KW.nil ?_
        rcases bool_cases (((decide (((gt p0_0 x1.2).toNat : Int) ≥ ((97 : UInt8).toNat : Int))) && (decide (((gt p0_0 x1.2).toNat : Int) ≤ ((122 : UInt8).toNat : Int))))) with hc8 | hc8
        · rw [ite_t hc8] at hz7
          replace hS := hS.know (t := 20) rfl (congrArg Value.bool hc8)
          refine WW.condK hS rfl rfl ?_
          refine WW.region ?_
          refine q_pu hS (wn rfl) rfl rfl rfl (v := vB (gt p0_0 x1.2)) (aop_move (hS.lk rfl)) fun s hS => ?_
          refine q_pu hS (wn rfl) rfl rfl rfl (v := vB ((gt p0_0 x1.2) - 32)) (aop_u8sub (hS.lk rfl) (hS.lk rfl)) fun s hS => ?_
          refine q_pu hS (wn rfl) rfl rfl rfl (v := vB ((gt p0_0 x1.2) - 32)) (aop_assign (hS.lk rfl)) fun s hS => ?_
          refine KW.nil ?_
          obtain rfl := Option.some.inj hz7
          exact (hS.sub (.c rfl (.c rfl (.c rfl (.c rfl (.c rfl .n))))))
        · rw [ite_f hc8] at hz7
          replace hS := hS.know (t := 20) rfl (congrArg Value.bool hc8)
          refine WW.condF hS rfl rfl ?_
          refine WW.skip ?_
          obtain rfl := Option.some.inj hz7
          exact (hS.sub (.c rfl (.c rfl (.c rfl (.c rfl (.c rfl .n))))))
      ·
        rintro s hS
        refine WW.region ?_
        refine q_pu hS (wn rfl) rfl rfl rfl (v := strV x1.1) (aop_move (hS.lk rfl)) fun s hS => ?_
        refine q_pu hS (wn rfl) rfl rfl rfl (v := vB z7) (aop_move (hS.lk rfl)) fun s hS => ?_
        refine q_nw hS (wn rfl) rfl rfl rfl (v := fun i => .slice (some ⟨i, 0, none⟩) 1 1) (b := .row [vB z7] 5 1 true) (aop_bsl tu83 tz5 t0_5 rfl [(0, vB z7)] (parts_eq hS rfl) rfl) fun s i9 hS => ?_
        have hC10 : Cells (elB 5) F ([z7] : List UInt8) [vB z7] := ⟨[vB z7], [], rfl, rfl, rfl⟩
        refine q_cvO hS (wn rfl) rfl rfl (lst := ([z7] : List UInt8)) rfl (Own.blk0 hC10) (p := 0) rfl (cv0 tu83 tb5 tu9) (cv1 tu83 tb5 tu9) fun s hS => ?_
        obtain ⟨hk11, h4⟩ := ite_some h4
        refine q_pu hS (wn rfl) rfl rfl rfl (v := strV (x1.1 ++ ([z7] : List UInt8))) (aop_sadd (hS.lk rfl) (hS.lk rfl) hk11) fun s hS => ?_
        refine q_pu hS (wn rfl) rfl rfl rfl (v := strV (x1.1 ++ ([z7] : List UInt8))) (aop_assign (hS.lk rfl)) fun s hS => ?_
        refine KW.nil ?_
        refine WW.region ?_
        refine q_pu hS (wn rfl) rfl rfl rfl (v := .int .i64 x1.2) (aop_move (hS.lk rfl)) fun s hS => ?_
        refine q_pu hS (wn rfl) rfl rfl rfl (v := .int .i64 (w64 (x1.2 + 1))) (aop_int (hS.lk rfl) (hS.lk rfl) rfl) fun s hS => ?_
        refine q_pu hS (wn rfl) rfl rfl rfl (v := .int .i64 (w64 (x1.2 + 1))) (aop_assign (hS.lk rfl)) fun s hS => ?_
        refine KW.nil ?_
        replace hS := hS.drop
        obtain rfl := Option.some.inj h4
        exact ⟨_, rfl, (hS.sub (.c rfl (.c rfl (.c rfl (.c rfl .n)))))⟩
    · rw [ite_f hc5] at h4
      replace hS := hS.know (t := 9) rfl (congrArg Value.bool hc5)
      refine WW.condF hS rfl rfl ?_
      refine WW.exit ?_
      refine thenQ_exit ?_
      obtain rfl := Option.some.inj h4
      exact ⟨_, rfl, rfl, (hS.sub (.c rfl (.c rfl (.c rfl (.c rfl .n)))))⟩
  · clear hS
    rintro e s ⟨rfl, hS⟩
    refine blockQ_exit ?_
    refine WW.seq ?_
    refine WW.region ?_
    refine q_pu hS (wn rfl) rfl rfl rfl (v := strV o2.1) (aop_move (hS.lk rfl)) fun s hS => ?_
    refine q_pu hS (wn rfl) rfl rfl rfl (v := strV o2.1) (aop_assign (hS.lk rfl)) fun s hS => ?_
    refine KW.nil ?_
    refine WW.ret ?_
    have hres := (res_tmp hS (t := 2) (v := strV o2.1) rfl (res_nil (E := EV) (s := s)))
    obtain rfl := Option.some.inj h
    exact fin hS (.inr rfl) hres (v := strV o2.1) rfl ⟨rfl, rfl, rfl⟩
/-! ### formulary/formularyref01.Squeezed (14) -/
end Go.Proofs.YtjcbhbncncbdjaaGreatDoorAi
