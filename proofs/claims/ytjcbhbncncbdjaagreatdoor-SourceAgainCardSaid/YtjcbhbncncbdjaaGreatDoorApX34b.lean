import Derived.Test.YtjcbhbncncbdjaaGreatDoorApX34a
namespace Go.Proofs.YtjcbhbncncbdjaaGreatDoorAi
open Go Go.RowKit
set_option linter.unusedVariables false
set_option linter.unusedSimpArgs false
set_option maxRecDepth 100000
noncomputable def g_ref01_Squeezed.b1 (p0_0 : List UInt8) (x6 : Int × List UInt8 × List UInt8 × List Int × (List (Int × Int)) × Int) (x30 : Int) : Option ((Int) ⊕ (Int)) :=
  Option.bind ((if (decide (x30 < (p0_0.length : Int))) then (if 0 ≤ x30 ∧ x30 < (p0_0.length : Int) then some (((gt p0_0 x30).toNat : Int) != ((gt p0_0 x6.1).toNat : Int)) else none) else some false)) fun z34 => (if z34 then some (.inl (w64 (x30 + 1))) else some (.inr x30))
noncomputable def g_ref01_Squeezed.b2 (p0_0 : List UInt8) (o31 : Int) (x45 : Int × List UInt8 × List UInt8 × List Int × (List (Int × Int)) × Int) : Option ((Int × List UInt8 × List UInt8 × List Int × (List (Int × Int)) × Int) ⊕ (Int × List UInt8 × List UInt8 × List Int × (List (Int × Int)) × Int)) :=
  (if (decide (x45.1 ≤ o31)) then (if 0 ≤ x45.1 ∧ x45.1 < (p0_0.length : Int) then Option.bind (g_ref01_with.f x45.2.1 x45.2.2.1 x45.2.2.2.1 x45.2.2.2.2.1 x45.2.2.2.2.2 (gt p0_0 x45.1) x45.1) fun y67 => Option.bind (g_ref01_hidden.f y67.1 y67.2.1 y67.2.2.1 y67.2.2.2.1 y67.2.2.2.2) fun y77 => some (.inl ((w64 (x45.1 + 1)), y77.1, y77.2.1, y77.2.2.1, y77.2.2.2.1, y77.2.2.2.2)) else none) else some (.inr (x45.1, x45.2.1, x45.2.2.1, x45.2.2.2.1, x45.2.2.2.2.1, x45.2.2.2.2.2)))
noncomputable def g_ref01_Squeezed.b3 (x6 : Int × List UInt8 × List UInt8 × List Int × (List (Int × Int)) × Int) (x102 : Int × Int) : Option ((Int × Int) ⊕ (Int × Int)) :=
  (if (decide (x102.2 < (x6.2.1.length : Int))) then (if 0 ≤ x102.2 ∧ x102.2 < (x6.2.1.length : Int) then some (.inl ((if (10000 : Int) < (w64 ((w64 (10 * x102.1)) + (IntKind.i64.wrap (((gt x6.2.1 x102.2) - 48).toNat : Int)))) then 10000 else (w64 ((w64 (10 * x102.1)) + (IntKind.i64.wrap (((gt x6.2.1 x102.2) - 48).toNat : Int))))), (w64 (x102.2 + 1)))) else none) else some (.inr (x102.1, x102.2)))
noncomputable def g_ref01_Squeezed.b4 (p0_0 : List UInt8) (x6 : Int × List UInt8 × List UInt8 × List Int × (List (Int × Int)) × Int) (o103 : Int × Int) (x146 : Int × List UInt8 × List UInt8 × List Int × (List (Int × Int)) × Int) : Option ((Int × List UInt8 × List UInt8 × List Int × (List (Int × Int)) × Int) ⊕ (Int × List UInt8 × List UInt8 × List Int × (List (Int × Int)) × Int)) :=
  (if (decide (x146.1 ≤ (w64 (x6.1 + o103.1)))) then (if 0 ≤ x146.1 ∧ x146.1 < (p0_0.length : Int) then Option.bind (g_ref01_with.f x146.2.1 x146.2.2.1 x146.2.2.2.1 x146.2.2.2.2.1 x146.2.2.2.2.2 (gt p0_0 x146.1) x146.1) fun y168 => Option.bind (g_ref01_hidden.f y168.1 y168.2.1 y168.2.2.1 y168.2.2.2.1 y168.2.2.2.2) fun y178 => some (.inl ((w64 (x146.1 + 1)), y178.1, y178.2.1, y178.2.2.1, y178.2.2.2.1, y178.2.2.2.2)) else none) else some (.inr (x146.1, x146.2.1, x146.2.2.1, x146.2.2.2.1, x146.2.2.2.2.1, x146.2.2.2.2.2)))
noncomputable def g_ref01_Squeezed.b0 (p0_0 : List UInt8) (x6 : Int × List UInt8 × List UInt8 × List Int × (List (Int × Int)) × Int) : Option ((Int × List UInt8 × List UInt8 × List Int × (List (Int × Int)) × Int) ⊕ ((Int × List UInt8 × List UInt8 × List Int × (List (Int × Int)) × Int) ⊕ (List UInt8 × List UInt8 × List Int × (List (Int × Int)) × Int))) :=
  (if (decide (x6.1 < (p0_0.length : Int))) then (if 0 ≤ x6.1 ∧ x6.1 < (p0_0.length : Int) then (if (((gt p0_0 x6.1).toNat : Int) == ((32 : UInt8).toNat : Int)) then some (.inl ((w64 (x6.1 + 1)), x6.2.1, x6.2.2.1, x6.2.2.2.1, x6.2.2.2.2.1, x6.2.2.2.2.2)) else (if ((((gt p0_0 x6.1).toNat : Int) == ((39 : UInt8).toNat : Int)) || (((gt p0_0 x6.1).toNat : Int) == ((34 : UInt8).toNat : Int))) then Option.bind (iter (g_ref01_Squeezed.b1 p0_0 x6) (w64 (x6.1 + 1))) fun o31 => (if (o31 == (p0_0.length : Int)) then some (.inr (.inr ([], [], ([] : List Int), ([] : List (Int × Int)), 21))) else (if x6.2.2.2.2.1.length + ([(x6.1, (w64 (o31 + 1)))] : List (Int × Int)).length < 1000000000 then Option.bind (iter (g_ref01_Squeezed.b2 p0_0 o31) (x6.1, x6.2.1, x6.2.2.1, x6.2.2.2.1, (x6.2.2.2.2.1 ++ ([(x6.1, (w64 (o31 + 1)))] : List (Int × Int))), x6.2.2.2.2.2)) fun o54 => some (.inl (o54.1, o54.2.1, o54.2.2.1, o54.2.2.2.1, o54.2.2.2.2.1, o54.2.2.2.2.2)) else none)) else Option.bind ((if ((((gt p0_0 x6.1).toNat : Int) == ((72 : UInt8).toNat : Int)) || (((gt p0_0 x6.1).toNat : Int) == ((104 : UInt8).toNat : Int))) then Option.bind (g_ref01_holleriths.f x6.2.2.1) fun y97 => some (decide (y97 > 0)) else some false)) fun z95 => (if z95 then Option.bind (g_ref01_holleriths.f x6.2.2.1) fun y100 => Option.bind (iter (g_ref01_Squeezed.b3 x6) (0, (w64 ((x6.2.1.length : Int) - y100)))) fun o103 => (if (o103.1 == 0) then some (.inr (.inr ([], [], ([] : List Int), ([] : List (Int × Int)), 11))) else (if (decide ((w64 (x6.1 + o103.1)) ≥ (p0_0.length : Int))) then some (.inr (.inr ([], [], ([] : List Int), ([] : List (Int × Int)), 21))) else (if 0 ≤ (w64 ((x6.2.2.2.1.length : Int) - y100)) ∧ (w64 ((x6.2.2.2.1.length : Int) - y100)) < (x6.2.2.2.1.length : Int) then (if x6.2.2.2.2.1.length + ([((gt x6.2.2.2.1 (w64 ((x6.2.2.2.1.length : Int) - y100))), (w64 ((w64 (x6.1 + o103.1)) + 1)))] : List (Int × Int)).length < 1000000000 then Option.bind (g_ref01_with.f x6.2.1 x6.2.2.1 x6.2.2.2.1 (x6.2.2.2.2.1 ++ ([((gt x6.2.2.2.1 (w64 ((x6.2.2.2.1.length : Int) - y100))), (w64 ((w64 (x6.1 + o103.1)) + 1)))] : List (Int × Int))) x6.2.2.2.2.2 72 x6.1) fun y126 => Option.bind (g_ref01_hidden.f y126.1 y126.2.1 y126.2.2.1 y126.2.2.2.1 y126.2.2.2.2) fun y136 => Option.bind (iter (g_ref01_Squeezed.b4 p0_0 x6 o103) ((w64 (x6.1 + 1)), y136.1, y136.2.1, y136.2.2.1, y136.2.2.2.1, y136.2.2.2.2)) fun o155 => some (.inl ((w64 ((w64 (x6.1 + o103.1)) + 1)), o155.2.1, o155.2.2.1, o155.2.2.2.1, o155.2.2.2.2.1, o155.2.2.2.2.2)) else none) else none))) else (if 0 ≤ x6.1 ∧ x6.1 ≤ (w64 (x6.1 + 1)) ∧ (w64 (x6.1 + 1)) ≤ (p0_0.length : Int) then Option.bind (g_ref01_upper.f (mid p0_0 x6.1 (w64 (x6.1 + 1)))) fun y197 => (if 0 ≤ (0 : Int) ∧ (0 : Int) < (y197.length : Int) then Option.bind (g_ref01_with.f x6.2.1 x6.2.2.1 x6.2.2.2.1 x6.2.2.2.2.1 x6.2.2.2.2.2 (gt y197 (0 : Int)) x6.1) fun y200 => some (.inl ((w64 (x6.1 + 1)), y200.1, y200.2.1, y200.2.2.1, y200.2.2.2.1, y200.2.2.2.2)) else none) else none)))) else none) else some (.inr (.inl (x6.1, x6.2.1, x6.2.2.1, x6.2.2.2.1, x6.2.2.2.2.1, x6.2.2.2.2.2))))
noncomputable def g_ref01_Squeezed.f (p0_0 : List UInt8) : Option (List UInt8 × List UInt8 × List Int × (List (Int × Int)) × Int) :=
  Option.bind (g_ref01_TextErr.f p0_0) fun y2 => (if (y2 != 0) then some ([], [], ([] : List Int), ([] : List (Int × Int)), y2) else Option.bind (iter (g_ref01_Squeezed.b0 p0_0) (0, [], [], ([] : List Int), ([] : List (Int × Int)), 0)) fun o15 => onSum o15 fun y210 => some (y210.2.1, y210.2.2.1, y210.2.2.2.1, y210.2.2.2.2.1, y210.2.2.2.2.2))
set_option maxHeartbeats 4000000 in
theorem g_ref01_Squeezed.ok {p0_0 : List UInt8} {F : FZ} {r : List UInt8 × List UInt8 × List Int × (List (Int × Int)) × Int} (h : g_ref01_Squeezed.f p0_0 = some r) :
    Cl EV 14 [strV p0_0] [] F (fun v S' F' => ∃ (ra1 : Option Addr) (rz2 : Nat) (rB4 : Seg) (ra5 : Option Addr) (rz6 : Nat) (rB8 : Seg), F = F' ∧ v = .agg #[strV r.1, strV r.2.1, .slice ra1 r.2.2.1.length rz2, .slice ra5 r.2.2.2.1.length rz6, .int .i64 r.2.2.2.2] ∧ S' = [rB4, rB8] ∧ Own (elI .i64 3) F' ra1 rz2 r.2.2.1 rB4 ∧ Own el34 F' ra5 rz6 r.2.2.2.1 rB8) := by
  refine Cl.of Tryz.func14 rfl (fun _ _ => rfl) (by kernel_rfl) fun s L nx0 hS => ?_
  unfold g_ref01_Squeezed.f at h
  refine WW.seq ?_
  refine WW.region ?_
  refine q_nw hS (wn rfl) rfl rfl rfl (v := fun i => .pointer (some ⟨i, 0, none⟩)) (b := .row [strV ([]), strV ([]), .slice none 0 0, .slice none 0 0, .int .i64 0] 31 0 true) (aop_alloc t0_31) fun s i1 hS => ?_
  refine KW.nil ?_
  refine WW.seq ?_
  refine WW.seq ?_
  refine WW.region ?_
  refine q_pu hS (wn rfl) rfl rfl rfl (v := strV p0_0) (aop_move (hS.lk rfl)) fun s hS => ?_
  obtain ⟨y2, hy2, h⟩ := bind_some h
  refine q_cl hS (wn rfl) (vs := [strV p0_0]) (ws := [strV p0_0]) rfl rfl rfl rfl rfl 0 rfl (g_ref01_TextErr.ok hy2) fun s v S' F' hp3 hF hS => ?_
  obtain ⟨rfl, rfl, rfl⟩ := hp3
  refine q_pu hS (wn rfl) rfl rfl rfl (v := .int .i64 y2) (aop_assign (hS.lk rfl)) fun s hS => ?_
  refine KW.nil ?_
  refine WW.seq ?_
  refine WW.region ?_
  refine q_pu hS (wn rfl) rfl rfl rfl (v := .int .i64 y2) (aop_move (hS.lk rfl)) fun s hS => ?_
  refine q_pu hS (wn rfl) rfl rfl rfl (v := .bool (y2 != 0)) (aop_int (hS.lk rfl) (hS.lk rfl) rfl) fun s hS => ?_
  refine KW.nil ?_
  rcases bool_cases ((y2 != 0)) with hc4 | hc4
  · rw [ite_t hc4] at h
    replace hS := hS.know (t := 15) rfl (congrArg Value.bool hc4)
    refine WW.condK hS rfl rfl ?_
    refine WW.seq ?_
    refine WW.region ?_
    refine q_pu hS (wn rfl) rfl rfl rfl (v := .int .i64 y2) (aop_move (hS.lk rfl)) fun s hS => ?_
    refine q_pu hS (wn rfl) rfl rfl rfl (v := .agg #[strV ([]), strV ([]), .slice none 0 0, .slice none 0 0, .int .i64 y2]) (aop_bld t0_31 tp31 [(4, .int .i64 y2)] (parts_eq hS rfl) (cs := [strV ([]), strV ([]), .slice none 0 0, .slice none 0 0, .int .i64 y2]) rfl) fun s hS => ?_
    refine q_sto hS (wn rfl) rfl rfl rfl rfl (p := 0) rfl tz31 rfl [strV ([]), strV ([]), .slice none 0 0, .slice none 0 0, .int .i64 y2] rfl fun s hS => ?_
    refine KW.nil ?_
    refine WW.ret ?_
    replace hS := hS.gap0
    replace hS := hS.gap0
    have hres := (res_cell hS (t := 2) (ty := 31) rfl (p := 2) rfl tg31 tz31 (ws := [strV ([]), strV ([]), .slice none ([] : List Int).length 0, .slice none ([] : List (Int × Int)).length 0, .int .i64 y2]) rfl (res_nil (E := EV) (s := s)))
    replace hS := (hS.pull 2).drop
    replace hS := hS.pull 1
    obtain rfl := Option.some.inj h
    exact fin hS (.inr rfl) hres (v := .agg #[strV ([]), strV ([]), .slice none ([] : List Int).length 0, .slice none ([] : List (Int × Int)).length 0, .int .i64 y2]) rfl ⟨_, _, _, _, _, _, rfl, rfl, rfl, Own.nil, Own.nil⟩
  · rw [ite_f hc4] at h
    replace hS := hS.know (t := 15) rfl (congrArg Value.bool hc4)
    refine WW.condF hS rfl rfl ?_
    refine WW.skip ?_
    refine WW.seq ?_
    refine WW.region ?_
    refine q_nw hS (wn rfl) rfl rfl rfl (v := fun i => .pointer (some ⟨i, 0, none⟩)) (b := .row [strV ([]), strV ([]), .slice none 0 0, .slice none 0 0, .int .i64 0] 31 0 true) (aop_alloc t0_31) fun s i5 hS => ?_
    refine KW.nil ?_
    refine WW.seq ?_
    refine WW.seq ?_
    refine WW.region ?_
    refine q_pu hS (wn rfl) rfl rfl rfl (v := .int .i64 0) (aop_assign (hS.lk rfl)) fun s hS => ?_
    refine KW.nil ?_
    refine WW.block ?_
    replace hS := hS.gap0
    replace hS := hS.gap0
    obtain ⟨o15, ho15, h⟩ := bind_some h
    refine WW.loop (LW.iter ho15 (fun (x6 : Int × List UInt8 × List UInt8 × List Int × (List (Int × Int)) × Int) s => ∃ (a7 : Option Addr) (z8 : Nat) (B10 : Seg) (a11 : Option Addr) (z12 : Nat) (B14 : Seg), Stt EV s [(0, strV p0_0), (2, .pointer (some ⟨i1, 0, none⟩)), (4, .pointer (some ⟨i5, 0, none⟩)), (5, .int .i64 x6.1)] [B14, B10, [(i5, .row [strV x6.2.1, strV x6.2.2.1, .slice a7 x6.2.2.2.1.length z8, .slice a11 x6.2.2.2.2.1.length z12, .int .i64 x6.2.2.2.2.2] 31 0 true)], [(i1, .row [strV ([]), strV ([]), .slice none 0 0, .slice none 0 0, .int .i64 0] 31 0 true)]] F L F nx0 ∧ Own (elI .i64 3) F a7 z8 x6.2.2.2.1 B10 ∧ Own el34 F a11 z12 x6.2.2.2.2.1 B14) (fun (o : (Int × List UInt8 × List UInt8 × List Int × (List (Int × Int)) × Int) ⊕ (List UInt8 × List UInt8 × List Int × (List (Int × Int)) × Int)) e s => match o with | .inl y16 => (e = .exit 0 ∧ ∃ (a17 : Option Addr) (z18 : Nat) (B20 : Seg) (a21 : Option Addr) (z22 : Nat) (B24 : Seg), Stt EV s [(0, strV p0_0), (2, .pointer (some ⟨i1, 0, none⟩)), (4, .pointer (some ⟨i5, 0, none⟩)), (5, .int .i64 y16.1)] [B24, B20, [(i5, .row [strV y16.2.1, strV y16.2.2.1, .slice a17 y16.2.2.2.1.length z18, .slice a21 y16.2.2.2.2.1.length z22, .int .i64 y16.2.2.2.2.2] 31 0 true)], [(i1, .row [strV ([]), strV ([]), .slice none 0 0, .slice none 0 0, .int .i64 0] 31 0 true)]] F L F nx0 ∧ Own (elI .i64 3) F a17 z18 y16.2.2.2.1 B20 ∧ Own el34 F a21 z22 y16.2.2.2.2.1 B24) | .inr r => (e = .ret ∧ FinQ EV Tryz.f14 L F nx0 (fun v S' F' => ∃ (ra1 : Option Addr) (rz2 : Nat) (rB4 : Seg) (ra5 : Option Addr) (rz6 : Nat) (rB8 : Seg), F = F' ∧ v = .agg #[strV r.1, strV r.2.1, .slice ra1 r.2.2.1.length rz2, .slice ra5 r.2.2.2.1.length rz6, .int .i64 r.2.2.2.2] ∧ S' = [rB4, rB8] ∧ Own (elI .i64 3) F' ra1 rz2 r.2.2.1 rB4 ∧ Own el34 F' ra5 rz6 r.2.2.2.1 rB8) e s)) ⟨_, _, _, _, _, _, (hS.sub (.c rfl (.c rfl (.c rfl (.c rfl .n))))), Own.nil, Own.nil⟩ ?_ ?_)
    · clear hS
      rintro x6 s ⟨a7, z8, B10, a11, z12, B14, hS, h9, h13⟩ o15' h25
      unfold g_ref01_Squeezed.b0 at h25
      refine WW.seq ?_
      refine WW.seq ?_
      refine WW.region ?_
      refine q_pu hS (wn rfl) rfl rfl rfl (v := .int .i64 x6.1) (aop_move (hS.lk rfl)) fun s hS => ?_
      refine q_pu hS (wn rfl) rfl rfl rfl (v := strV p0_0) (aop_move (hS.lk rfl)) fun s hS => ?_
      refine q_pu hS (wn rfl) rfl rfl rfl (v := .int .i64 (p0_0.length : Int)) (aop_lenS rfl rfl tu9 (hS.lk rfl)) fun s hS => ?_
      refine q_pu hS (wn rfl) rfl rfl rfl (v := .bool (decide (x6.1 < (p0_0.length : Int)))) (aop_int (hS.lk rfl) (hS.lk rfl) rfl) fun s hS => ?_
      refine KW.nil ?_
      rcases bool_cases ((decide (x6.1 < (p0_0.length : Int)))) with hc26 | hc26
      · rw [ite_t hc26] at h25
        replace hS := hS.know (t := 21) rfl (congrArg Value.bool hc26)
        refine WW.condK hS rfl rfl ?_
        refine WW.skip ?_
        refine WW.block ?_
        refine WW.seq ?_
        refine WW.region ?_
        refine q_pu hS (wn rfl) rfl rfl rfl (v := strV p0_0) (aop_move (hS.lk rfl)) fun s hS => ?_
        refine q_pu hS (wn rfl) rfl rfl rfl (v := .int .i64 x6.1) (aop_move (hS.lk rfl)) fun s hS => ?_
        obtain ⟨hk27, h25⟩ := ite_some h25
        refine q_pu hS (wn rfl) rfl rfl rfl (v := vB (gt p0_0 x6.1)) (aop_idxS tu9 (hS.lk rfl) (hS.lk rfl) hk27) fun s hS => ?_
        refine q_pu hS (wn rfl) rfl rfl rfl (v := vB (gt p0_0 x6.1)) (aop_assign (hS.lk rfl)) fun s hS => ?_
        refine KW.nil ?_
        refine WW.seq ?_
        refine WW.seq ?_
        refine WW.region ?_
        refine q_pu hS (wn rfl) rfl rfl rfl (v := vB (gt p0_0 x6.1)) (aop_move (hS.lk rfl)) fun s hS => ?_
        refine q_pu hS (wn rfl) rfl rfl rfl (v := .bool (((gt p0_0 x6.1).toNat : Int) == ((32 : UInt8).toNat : Int))) (aop_int (hS.lk rfl) (hS.lk rfl) rfl) fun s hS => ?_
        refine KW.nil ?_
        rcases bool_cases ((((gt p0_0 x6.1).toNat : Int) == ((32 : UInt8).toNat : Int))) with hc28 | hc28
        · rw [ite_t hc28] at h25
          replace hS := hS.know (t := 26) rfl (congrArg Value.bool hc28)
          refine WW.condK hS rfl rfl ?_
          refine WW.seq ?_
          refine WW.region ?_
          refine q_pu hS (wn rfl) rfl rfl rfl (v := .int .i64 x6.1) (aop_move (hS.lk rfl)) fun s hS => ?_
          refine q_pu hS (wn rfl) rfl rfl rfl (v := .int .i64 (w64 (x6.1 + 1))) (aop_int (hS.lk rfl) (hS.lk rfl) rfl) fun s hS => ?_
          refine q_pu hS (wn rfl) rfl rfl rfl (v := .int .i64 (w64 (x6.1 + 1))) (aop_assign (hS.lk rfl)) fun s hS => ?_
          refine KW.nil ?_
          refine WW.exit ?_
          refine thenQ_exit ?_
          refine blockQ_exit ?_
          obtain rfl := Option.some.inj h25
          exact ⟨_, rfl, _, _, _, _, _, _, (hS.sub (.c rfl (.c rfl (.c rfl (.c rfl .n))))), h9, h13⟩
        · rw [ite_f hc28] at h25
          replace hS := hS.know (t := 26) rfl (congrArg Value.bool hc28)
          refine WW.condF hS rfl rfl ?_
          refine WW.skip ?_
          refine WW.seq ?_
          refine WW.seq ?_
          refine WW.region ?_
          refine q_pu hS (wn rfl) rfl rfl rfl (v := vB (gt p0_0 x6.1)) (aop_move (hS.lk rfl)) fun s hS => ?_
          refine q_pu hS (wn rfl) rfl rfl rfl (v := .bool (((gt p0_0 x6.1).toNat : Int) == ((39 : UInt8).toNat : Int))) (aop_int (hS.lk rfl) (hS.lk rfl) rfl) fun s hS => ?_
          refine q_pu hS (wn rfl) rfl rfl rfl (v := .bool (((gt p0_0 x6.1).toNat : Int) == ((39 : UInt8).toNat : Int))) (aop_move (hS.lk rfl)) fun s hS => ?_
          refine q_cut 3 (fun s => Stt EV s [(34, .bool ((((gt p0_0 x6.1).toNat : Int) == ((39 : UInt8).toNat : Int)) || (((gt p0_0 x6.1).toNat : Int) == ((34 : UInt8).toNat : Int)))), (0, strV p0_0), (2, .pointer (some ⟨i1, 0, none⟩)), (4, .pointer (some ⟨i5, 0, none⟩)), (5, .int .i64 x6.1), (6, vB (gt p0_0 x6.1))] [B14, B10, [(i5, .row [strV x6.2.1, strV x6.2.2.1, .slice a7 x6.2.2.2.1.length z8, .slice a11 x6.2.2.2.2.1.length z12, .int .i64 x6.2.2.2.2.2] 31 0 true)], [(i1, .row [strV ([]), strV ([]), .slice none 0 0, .slice none 0 0, .int .i64 0] 31 0 true)]] F L F nx0) ?_ fun s hS => ?_
          ·
            rcases bool_cases ((((gt p0_0 x6.1).toNat : Int) == ((39 : UInt8).toNat : Int))) with hcj | hcj
            ·
              replace hS := hS.know (t := 30) rfl (congrArg Value.bool hcj)
              replace hS := hS.know (t := 31) rfl (congrArg Value.bool hcj)
              refine q_no hS (wf hS rfl rfl rfl rfl) rfl fun s hS => ?_
              refine q_no hS (wf hS rfl rfl rfl rfl) rfl fun s hS => ?_
              refine q_pu hS (wn rfl) rfl rfl rfl (v := .bool true) (aop_pickT (hS.lk rfl) (hS.lk rfl)) fun s hS => ?_
              refine KW.nil ?_
              exact (hS.know (t := 34) (u' := .bool ((((gt p0_0 x6.1).toNat : Int) == ((39 : UInt8).toNat : Int)) || (((gt p0_0 x6.1).toNat : Int) == ((34 : UInt8).toNat : Int)))) rfl (jn_or_t hcj)).sub (.c rfl (.c rfl (.c rfl (.c rfl (.c rfl (.c rfl .n))))))
            ·
              replace hS := hS.know (t := 30) rfl (congrArg Value.bool hcj)
              replace hS := hS.know (t := 31) rfl (congrArg Value.bool hcj)
              refine q_pu hS (wt hS rfl rfl rfl rfl) rfl rfl rfl (v := vB (gt p0_0 x6.1)) (aop_move (hS.lk rfl)) fun s hS => ?_
              refine q_pu hS (wt hS rfl rfl rfl rfl) rfl rfl rfl (v := .bool (((gt p0_0 x6.1).toNat : Int) == ((34 : UInt8).toNat : Int))) (aop_int (hS.lk rfl) (hS.lk rfl) rfl) fun s hS => ?_
              refine q_pu hS (wn rfl) rfl rfl rfl (v := .bool (((gt p0_0 x6.1).toNat : Int) == ((34 : UInt8).toNat : Int))) (aop_pickF (hS.lk rfl) (hS.lk rfl)) fun s hS => ?_
              refine KW.nil ?_
              exact (hS.know (t := 34) (u' := .bool ((((gt p0_0 x6.1).toNat : Int) == ((39 : UInt8).toNat : Int)) || (((gt p0_0 x6.1).toNat : Int) == ((34 : UInt8).toNat : Int)))) rfl (jn_or_f hcj)).sub (.c rfl (.c rfl (.c rfl (.c rfl (.c rfl (.c rfl .n))))))
          refine KW.nil ?_
          rcases bool_cases (((((gt p0_0 x6.1).toNat : Int) == ((39 : UInt8).toNat : Int)) || (((gt p0_0 x6.1).toNat : Int) == ((34 : UInt8).toNat : Int)))) with hc29 | hc29
          · rw [ite_t hc29] at h25
            replace hS := hS.know (t := 34) rfl (congrArg Value.bool hc29)
            refine WW.condK hS rfl rfl ?_
            refine WW.seq ?_
            refine WW.region ?_
            refine q_pu hS (wn rfl) rfl rfl rfl (v := .int .i64 x6.1) (aop_move (hS.lk rfl)) fun s hS => ?_
            refine q_pu hS (wn rfl) rfl rfl rfl (v := .int .i64 (w64 (x6.1 + 1))) (aop_int (hS.lk rfl) (hS.lk rfl) rfl) fun s hS => ?_
            refine q_pu hS (wn rfl) rfl rfl rfl (v := .int .i64 (w64 (x6.1 + 1))) (aop_assign (hS.lk rfl)) fun s hS => ?_
            refine KW.nil ?_
            refine WW.seq ?_
            refine WW.block ?_
            obtain ⟨o31, ho31, h25⟩ := bind_some h25
            refine WW.loop (LW.iter ho31 (fun (x30 : Int) s => Stt EV s [(0, strV p0_0), (2, .pointer (some ⟨i1, 0, none⟩)), (4, .pointer (some ⟨i5, 0, none⟩)), (5, .int .i64 x6.1), (6, vB (gt p0_0 x6.1)), (7, .int .i64 x30)] [B14, B10, [(i5, .row [strV x6.2.1, strV x6.2.2.1, .slice a7 x6.2.2.2.1.length z8, .slice a11 x6.2.2.2.2.1.length z12, .int .i64 x6.2.2.2.2.2] 31 0 true)], [(i1, .row [strV ([]), strV ([]), .slice none 0 0, .slice none 0 0, .int .i64 0] 31 0 true)]] F L F nx0) (fun (y32 : Int) e s => (e = .exit 2 ∧ Stt EV s [(0, strV p0_0), (2, .pointer (some ⟨i1, 0, none⟩)), (4, .pointer (some ⟨i5, 0, none⟩)), (5, .int .i64 x6.1), (6, vB (gt p0_0 x6.1)), (7, .int .i64 y32)] [B14, B10, [(i5, .row [strV x6.2.1, strV x6.2.2.1, .slice a7 x6.2.2.2.1.length z8, .slice a11 x6.2.2.2.2.1.length z12, .int .i64 x6.2.2.2.2.2] 31 0 true)], [(i1, .row [strV ([]), strV ([]), .slice none 0 0, .slice none 0 0, .int .i64 0] 31 0 true)]] F L F nx0)) (hS.sub (.c rfl (.c rfl (.c rfl (.c rfl (.c rfl (.c rfl .n))))))) ?_ ?_)
            · clear hS
              rintro x30 s hS o31' h33
              unfold g_ref01_Squeezed.b1 at h33
              refine WW.seq ?_
              refine WW.seq ?_
              refine WW.region ?_
              refine q_pu hS (wn rfl) rfl rfl rfl (v := .int .i64 x30) (aop_move (hS.lk rfl)) fun s hS => ?_
              refine q_pu hS (wn rfl) rfl rfl rfl (v := strV p0_0) (aop_move (hS.lk rfl)) fun s hS => ?_
              refine q_pu hS (wn rfl) rfl rfl rfl (v := .int .i64 (p0_0.length : Int)) (aop_lenS rfl rfl tu9 (hS.lk rfl)) fun s hS => ?_
              refine q_pu hS (wn rfl) rfl rfl rfl (v := .bool (decide (x30 < (p0_0.length : Int)))) (aop_int (hS.lk rfl) (hS.lk rfl) rfl) fun s hS => ?_
              refine q_pu hS (wn rfl) rfl rfl rfl (v := .bool (decide (x30 < (p0_0.length : Int)))) (aop_move (hS.lk rfl)) fun s hS => ?_
              obtain ⟨z34, hz34, h33⟩ := bind_some h33
              refine q_cut 6 (fun s => Stt EV s [(47, .bool z34), (0, strV p0_0), (2, .pointer (some ⟨i1, 0, none⟩)), (4, .pointer (some ⟨i5, 0, none⟩)), (5, .int .i64 x6.1), (6, vB (gt p0_0 x6.1)), (7, .int .i64 x30)] [B14, B10, [(i5, .row [strV x6.2.1, strV x6.2.2.1, .slice a7 x6.2.2.2.1.length z8, .slice a11 x6.2.2.2.2.1.length z12, .int .i64 x6.2.2.2.2.2] 31 0 true)], [(i1, .row [strV ([]), strV ([]), .slice none 0 0, .slice none 0 0, .int .i64 0] 31 0 true)]] F L F nx0) ?_ fun s hS => ?_
              ·
                rcases bool_cases ((decide (x30 < (p0_0.length : Int)))) with hc35 | hc35
                · rw [ite_t hc35] at hz34
                  replace hS := hS.know (t := 40) rfl (congrArg Value.bool hc35)
                  replace hS := hS.know (t := 41) rfl (congrArg Value.bool hc35)
                  refine q_pu hS (wt hS rfl rfl rfl rfl) rfl rfl rfl (v := strV p0_0) (aop_move (hS.lk rfl)) fun s hS => ?_
                  refine q_pu hS (wt hS rfl rfl rfl rfl) rfl rfl rfl (v := .int .i64 x30) (aop_move (hS.lk rfl)) fun s hS => ?_
                  obtain ⟨hk36, hz34⟩ := ite_some hz34
                  refine q_pu hS (wt hS rfl rfl rfl rfl) rfl rfl rfl (v := vB (gt p0_0 x30)) (aop_idxS tu9 (hS.lk rfl) (hS.lk rfl) hk36) fun s hS => ?_
                  refine q_pu hS (wt hS rfl rfl rfl rfl) rfl rfl rfl (v := vB (gt p0_0 x6.1)) (aop_move (hS.lk rfl)) fun s hS => ?_
                  refine q_pu hS (wt hS rfl rfl rfl rfl) rfl rfl rfl (v := .bool (((gt p0_0 x30).toNat : Int) != ((gt p0_0 x6.1).toNat : Int))) (aop_int (hS.lk rfl) (hS.lk rfl) rfl) fun s hS => ?_
                  refine q_pu hS (wn rfl) rfl rfl rfl (v := .bool (((gt p0_0 x30).toNat : Int) != ((gt p0_0 x6.1).toNat : Int))) (aop_pickT (hS.lk rfl) (hS.lk rfl)) fun s hS => ?_
                  refine KW.nil ?_
                  obtain rfl := Option.some.inj hz34
                  exact hS.sub (.c rfl (.c rfl (.c rfl (.c rfl (.c rfl (.c rfl (.c rfl .n)))))))
                · rw [ite_f hc35] at hz34
                  replace hS := hS.know (t := 40) rfl (congrArg Value.bool hc35)
                  replace hS := hS.know (t := 41) rfl (congrArg Value.bool hc35)
                  refine q_no hS (wf hS rfl rfl rfl rfl) rfl fun s hS => ?_
                  refine q_no hS (wf hS rfl rfl rfl rfl) rfl fun s hS => ?_
                  refine q_no hS (wf hS rfl rfl rfl rfl) rfl fun s hS => ?_
                  refine q_no hS (wf hS rfl rfl rfl rfl) rfl fun s hS => ?_
                  refine q_no hS (wf hS rfl rfl rfl rfl) rfl fun s hS => ?_
                  refine q_pu hS (wn rfl) rfl rfl rfl (v := .bool false) (aop_pickF (hS.lk rfl) (hS.lk rfl)) fun s hS => ?_
                  refine KW.nil ?_
                  obtain rfl := Option.some.inj hz34
                  exact hS.sub (.c rfl (.c rfl (.c rfl (.c rfl (.c rfl (.c rfl (.c rfl .n)))))))
              refine KW.nil ?_
              rcases bool_cases (z34) with hc37 | hc37
              · rw [ite_t hc37] at h33
                replace hS := hS.know (t := 47) rfl (congrArg Value.bool hc37)
                refine WW.condK hS rfl rfl ?_
                refine WW.skip ?_
                refine WW.block ?_
                refine WW.region ?_
                refine q_pu hS (wn rfl) rfl rfl rfl (v := .int .i64 x30) (aop_move (hS.lk rfl)) fun s hS => ?_
                refine q_pu hS (wn rfl) rfl rfl rfl (v := .int .i64 (w64 (x30 + 1))) (aop_int (hS.lk rfl) (hS.lk rfl) rfl) fun s hS => ?_
                refine q_pu hS (wn rfl) rfl rfl rfl (v := .int .i64 (w64 (x30 + 1))) (aop_assign (hS.lk rfl)) fun s hS => ?_
                refine KW.nil ?_
                obtain rfl := Option.some.inj h33
                exact ⟨_, rfl, (hS.sub (.c rfl (.c rfl (.c rfl (.c rfl (.c rfl (.c rfl .n)))))))⟩
              · rw [ite_f hc37] at h33
                replace hS := hS.know (t := 47) rfl (congrArg Value.bool hc37)
                refine WW.condF hS rfl rfl ?_
                refine WW.exit ?_
                refine thenQ_exit ?_
                obtain rfl := Option.some.inj h33
                exact ⟨_, rfl, rfl, (hS.sub (.c rfl (.c rfl (.c rfl (.c rfl (.c rfl (.c rfl .n)))))))⟩
            · clear hS
              rintro e s ⟨rfl, hS⟩
              refine blockQ_exit ?_
              refine WW.seq ?_
              refine WW.seq ?_
              refine WW.region ?_
              refine q_pu hS (wn rfl) rfl rfl rfl (v := .int .i64 o31) (aop_move (hS.lk rfl)) fun s hS => ?_
              refine q_pu hS (wn rfl) rfl rfl rfl (v := strV p0_0) (aop_move (hS.lk rfl)) fun s hS => ?_
              refine q_pu hS (wn rfl) rfl rfl rfl (v := .int .i64 (p0_0.length : Int)) (aop_lenS rfl rfl tu9 (hS.lk rfl)) fun s hS => ?_
              refine q_pu hS (wn rfl) rfl rfl rfl (v := .bool (o31 == (p0_0.length : Int))) (aop_int (hS.lk rfl) (hS.lk rfl) rfl) fun s hS => ?_
              refine KW.nil ?_
              rcases bool_cases ((o31 == (p0_0.length : Int))) with hc38 | hc38
              · rw [ite_t hc38] at h25
                replace hS := hS.know (t := 53) rfl (congrArg Value.bool hc38)
                refine WW.condK hS rfl rfl ?_
                refine WW.seq ?_
                refine WW.region ?_
                refine q_pu hS (wn rfl) rfl rfl rfl (v := .agg #[strV ([]), strV ([]), .slice none 0 0, .slice none 0 0, .int .i64 21]) (aop_bld t0_31 tp31 [(4, .int .i64 21)] (parts_eq hS rfl) (cs := [strV ([]), strV ([]), .slice none 0 0, .slice none 0 0, .int .i64 21]) rfl) fun s hS => ?_
                refine q_sto hS (wn rfl) rfl rfl rfl rfl (p := 3) rfl tz31 rfl [strV ([]), strV ([]), .slice none 0 0, .slice none 0 0, .int .i64 21] rfl fun s hS => ?_
                refine KW.nil ?_
                refine WW.ret ?_
                replace hS := hS.gap0
                replace hS := hS.gap0
                have hres := (res_cell hS (t := 2) (ty := 31) rfl (p := 5) rfl tg31 tz31 (ws := [strV ([]), strV ([]), .slice none ([] : List Int).length 0, .slice none ([] : List (Int × Int)).length 0, .int .i64 21]) rfl (res_nil (E := EV) (s := s)))
                replace hS := (hS.pull 2).drop
                replace hS := (hS.pull 2).drop
                replace hS := (hS.pull 2).drop
                replace hS := (hS.pull 2).drop
                replace hS := hS.pull 1
                obtain rfl := Option.some.inj h25
                exact ⟨_, rfl, rfl, fin hS (.inr rfl) hres (v := .agg #[strV ([]), strV ([]), .slice none ([] : List Int).length 0, .slice none ([] : List (Int × Int)).length 0, .int .i64 21]) rfl ⟨_, _, _, _, _, _, rfl, rfl, rfl, Own.nil, Own.nil⟩⟩
              · rw [ite_f hc38] at h25
                replace hS := hS.know (t := 53) rfl (congrArg Value.bool hc38)
                refine WW.condF hS rfl rfl ?_
                refine WW.skip ?_
                refine WW.seq ?_
                refine WW.region ?_
                refine q_pu hS (wn rfl) rfl rfl rfl (v := .pointer (some ⟨i5, 3, none⟩)) (aop_fa (hS.lk rfl) tf31_3 rfl rfl) fun s hS => ?_
                refine q_ld hS (wn rfl) rfl rfl rfl (hS.at (k := 2) rfl) tg27 (v := .slice a11 x6.2.2.2.2.1.length z12) rfl fun s hS => ?_
                refine q_pu hS (wn rfl) rfl rfl rfl (v := .int .i64 x6.1) (aop_move (hS.lk rfl)) fun s hS => ?_
                refine q_pu hS (wn rfl) rfl rfl rfl (v := .int .i64 o31) (aop_move (hS.lk rfl)) fun s hS => ?_
                refine q_pu hS (wn rfl) rfl rfl rfl (v := .int .i64 (w64 (o31 + 1))) (aop_int (hS.lk rfl) (hS.lk rfl) rfl) fun s hS => ?_
                refine q_pu hS (wn rfl) rfl rfl rfl (v := .agg #[.int .i64 x6.1, .int .i64 (w64 (o31 + 1))]) (aop_bldA t0_34 tu34 tz3 [(0, .int .i64 x6.1), (1, .int .i64 (w64 (o31 + 1)))] (parts_eq hS rfl) (cs := [.int .i64 x6.1, .int .i64 (w64 (o31 + 1))]) rfl) fun s hS => ?_
                refine q_nw hS (wn rfl) rfl rfl rfl (v := fun i => .slice (some ⟨i, 0, none⟩) 1 2) (b := .row [.int .i64 x6.1, .int .i64 (w64 (o31 + 1))] 34 2 true) (aop_bsl tu27 tz34 t0_34 rfl [(0, .agg #[.int .i64 x6.1, .int .i64 (w64 (o31 + 1))])] (parts_eq hS rfl) rfl) fun s i39 hS => ?_
                have hC40 : Cells el34 F ([(x6.1, (w64 (o31 + 1)))] : List (Int × Int)) [.int .i64 x6.1, .int .i64 (w64 (o31 + 1))] := ⟨[.int .i64 x6.1, .int .i64 (w64 (o31 + 1))], [], rfl, rfl, rfl⟩
                obtain ⟨hk44, h25⟩ := ite_some h25
                refine q_app hS (wn rfl) (dd := el34) (lst := x6.2.2.2.2.1) (m := ([(x6.1, (w64 (o31 + 1)))] : List (Int × Int))) rfl rfl ta27_27 rfl rfl h13 (Nat.succ_pos _) hC40 hk44 fun s i41 cs42 hC43 hS => ?_
                refine q_pu hS (wn rfl) rfl rfl rfl (v := .pointer (some ⟨i5, 3, none⟩)) (aop_fa (hS.lk rfl) tf31_3 rfl rfl) fun s hS => ?_
                refine q_sto hS (wn rfl) rfl rfl rfl rfl (p := 2) rfl tz27 rfl [strV x6.2.1, strV x6.2.2.1, .slice a7 x6.2.2.2.1.length z8, .slice (some ⟨i41, 0, none⟩) (x6.2.2.2.2.1 ++ ([(x6.1, (w64 (o31 + 1)))] : List (Int × Int))).length 2, .int .i64 x6.2.2.2.2.2] rfl fun s hS => ?_
                refine KW.nil ?_
                refine WW.seq ?_
                refine WW.block ?_
                obtain ⟨o54, ho54, h25⟩ := bind_some h25
                refine WW.loop (LW.iter ho54 (fun (x45 : Int × List UInt8 × List UInt8 × List Int × (List (Int × Int)) × Int) s => ∃ (a46 : Option Addr) (z47 : Nat) (B49 : Seg) (a50 : Option Addr) (z51 : Nat) (B53 : Seg), Stt EV s [(0, strV p0_0), (2, .pointer (some ⟨i1, 0, none⟩)), (4, .pointer (some ⟨i5, 0, none⟩)), (5, .int .i64 x45.1), (6, vB (gt p0_0 x6.1)), (7, .int .i64 o31)] [B53, B49, [(i5, .row [strV x45.2.1, strV x45.2.2.1, .slice a46 x45.2.2.2.1.length z47, .slice a50 x45.2.2.2.2.1.length z51, .int .i64 x45.2.2.2.2.2] 31 0 true)], [(i1, .row [strV ([]), strV ([]), .slice none 0 0, .slice none 0 0, .int .i64 0] 31 0 true)]] F L F nx0 ∧ Own (elI .i64 3) F a46 z47 x45.2.2.2.1 B49 ∧ Own el34 F a50 z51 x45.2.2.2.2.1 B53) (fun (y55 : Int × List UInt8 × List UInt8 × List Int × (List (Int × Int)) × Int) e s => (e = .exit 4 ∧ ∃ (a56 : Option Addr) (z57 : Nat) (B59 : Seg) (a60 : Option Addr) (z61 : Nat) (B63 : Seg), Stt EV s [(0, strV p0_0), (2, .pointer (some ⟨i1, 0, none⟩)), (4, .pointer (some ⟨i5, 0, none⟩)), (5, .int .i64 y55.1), (6, vB (gt p0_0 x6.1)), (7, .int .i64 o31)] [B63, B59, [(i5, .row [strV y55.2.1, strV y55.2.2.1, .slice a56 y55.2.2.2.1.length z57, .slice a60 y55.2.2.2.2.1.length z61, .int .i64 y55.2.2.2.2.2] 31 0 true)], [(i1, .row [strV ([]), strV ([]), .slice none 0 0, .slice none 0 0, .int .i64 0] 31 0 true)]] F L F nx0 ∧ Own (elI .i64 3) F a56 z57 y55.2.2.2.1 B59 ∧ Own el34 F a60 z61 y55.2.2.2.2.1 B63)) ⟨_, _, _, _, _, _, (hS.sub (.c rfl (.c rfl (.c rfl (.c rfl (.c rfl (.c rfl .n))))))), h9, (Own.blk0 hC43)⟩ ?_ ?_)
                · clear hS
                  rintro x45 s ⟨a46, z47, B49, a50, z51, B53, hS, h48, h52⟩ o54' h64
                  unfold g_ref01_Squeezed.b2 at h64
                  refine WW.seq ?_
                  refine WW.seq ?_
                  refine WW.region ?_
                  refine q_pu hS (wn rfl) rfl rfl rfl (v := .int .i64 x45.1) (aop_move (hS.lk rfl)) fun s hS => ?_
                  refine q_pu hS (wn rfl) rfl rfl rfl (v := .int .i64 o31) (aop_move (hS.lk rfl)) fun s hS => ?_
                  refine q_pu hS (wn rfl) rfl rfl rfl (v := .bool (decide (x45.1 ≤ o31))) (aop_int (hS.lk rfl) (hS.lk rfl) rfl) fun s hS => ?_
                  refine KW.nil ?_
                  rcases bool_cases ((decide (x45.1 ≤ o31))) with hc65 | hc65
                  · rw [ite_t hc65] at h64
                    replace hS := hS.know (t := 66) rfl (congrArg Value.bool hc65)
                    refine WW.condK hS rfl rfl ?_
                    refine WW.skip ?_
                    refine WW.seq ?_
                    refine WW.block ?_
                    refine WW.regionD (i := [[], [0], [1, 0], [0], [3, 2, 1, 0], [], [], []]) (by kernel_rfl) ?_
                    have hq := RS.start [i5, i1]
                    refine K.ldA hS hq rfl (wn rfl) rfl rfl rfl (hS.at (k := 2) rfl) tg31 tz31 (vs := [strV x45.2.1, strV x45.2.2.1, .slice a46 x45.2.2.2.1.length z47, .slice a50 x45.2.2.2.2.1.length z51, .int .i64 x45.2.2.2.2.2]) rfl 0 rfl rfl fun s rs hS hq => ?_
                    refine K.pu hS hq rfl (wn rfl) rfl rfl rfl (v := strV p0_0) (aop_move (hS.lk rfl)) fun s rs hS hq => ?_
                    refine K.pu hS hq rfl (wn rfl) rfl rfl rfl (v := .int .i64 x45.1) (aop_move (hS.lk rfl)) fun s rs hS hq => ?_
                    obtain ⟨hk66, h64⟩ := ite_some h64
                    refine K.pu hS hq rfl (wn rfl) rfl rfl rfl (v := vB (gt p0_0 x45.1)) (aop_idxS tu9 (hS.lk rfl) (hS.lk rfl) hk66) fun s rs hS hq => ?_
                    refine K.pu hS hq rfl (wn rfl) rfl rfl rfl (v := .int .i64 x45.1) (aop_move (hS.lk rfl)) fun s rs hS hq => ?_
                    obtain ⟨y67, hy67, h64⟩ := bind_some h64
                    replace hS := hS.pull 1
                    refine K.cl hS hq rfl (wn rfl) (vs := [.agg #[strV x45.2.1, strV x45.2.2.1, .slice a46 x45.2.2.2.1.length z47, .slice a50 x45.2.2.2.2.1.length z51, .int .i64 x45.2.2.2.2.2], vB (gt p0_0 x45.1), .int .i64 x45.1]) (ws := [.agg #[strV x45.2.1, strV x45.2.2.1, .slice a46 x45.2.2.2.1.length z47, .slice a50 x45.2.2.2.2.1.length z51, .int .i64 x45.2.2.2.2.2], vB (gt p0_0 x45.1), .int .i64 x45.1]) rfl rfl rfl rfl rfl 2 rfl (g_ref01_with.ok hy67 h48 h52)  [0, 1] rfl rfl (aw_c rfl mm0 (aw_c rfl (mm1 mm0) aw_n)) fun s rs v S' F' hp68 hF hS hq => ?_
                    obtain ⟨a69, z70, B72, a73, z74, B76, rfl, rfl, rfl, h71, h75⟩ := hp68
                    obtain ⟨y77, hy77, h64⟩ := bind_some h64
                    refine K.cl hS hq rfl (wn rfl) (vs := [.agg #[strV y67.1, strV y67.2.1, .slice a69 y67.2.2.1.length z70, .slice a73 y67.2.2.2.1.length z74, .int .i64 y67.2.2.2.2]]) (ws := [.agg #[strV y67.1, strV y67.2.1, .slice a69 y67.2.2.1.length z70, .slice a73 y67.2.2.2.1.length z74, .int .i64 y67.2.2.2.2]]) rfl rfl rfl rfl rfl 2 rfl (g_ref01_hidden.ok hy77 h71 h75)  [0, 1] rfl rfl (aw_c rfl mm0 (aw_c rfl (mm1 mm0) aw_n)) fun s rs v S' F' hp78 hF hS hq => ?_
                    obtain ⟨a79, z80, B82, a83, z84, B86, rfl, rfl, rfl, h81, h85⟩ := hp78
                    refine K.sto hS hq rfl (wn rfl) rfl rfl rfl rfl (p := 2) rfl tz31 rfl [strV y77.1, strV y77.2.1, .slice a79 y77.2.2.1.length z80, .slice a83 y77.2.2.2.1.length z84, .int .i64 y77.2.2.2.2] rfl [1] rfl (aw_c rfl (mm1 (mm1 mm0)) aw_n) fun s rs hS hq => ?_
                    refine KW.nil ?_
                    refine WW.region ?_
                    refine q_pu hS (wn rfl) rfl rfl rfl (v := .int .i64 x45.1) (aop_move (hS.lk rfl)) fun s hS => ?_
                    refine q_pu hS (wn rfl) rfl rfl rfl (v := .int .i64 (w64 (x45.1 + 1))) (aop_int (hS.lk rfl) (hS.lk rfl) rfl) fun s hS => ?_
                    refine q_pu hS (wn rfl) rfl rfl rfl (v := .int .i64 (w64 (x45.1 + 1))) (aop_assign (hS.lk rfl)) fun s hS => ?_
                    refine KW.nil ?_
                    replace hS := hS.pull 3
                    replace hS := hS.pull 3
                    replace hS := hS.pull 2
                    replace hS := hS.pull 3
                    obtain rfl := Option.some.inj h64
                    exact ⟨_, rfl, _, _, _, _, _, _, (hS.sub (.c rfl (.c rfl (.c rfl (.c rfl (.c rfl (.c rfl .n))))))), h81, h85⟩
                  · rw [ite_f hc65] at h64
                    replace hS := hS.know (t := 66) rfl (congrArg Value.bool hc65)
                    refine WW.condF hS rfl rfl ?_
                    refine WW.exit ?_
                    refine thenQ_exit ?_
                    obtain rfl := Option.some.inj h64
                    exact ⟨_, rfl, rfl, _, _, _, _, _, _, (hS.sub (.c rfl (.c rfl (.c rfl (.c rfl (.c rfl (.c rfl .n))))))), h48, h52⟩
                · clear hS
                  rintro e s ⟨rfl, a87, z88, B90, a91, z92, B94, hS, h89, h93⟩
                  refine blockQ_exit ?_
                  refine WW.exit ?_
                  refine thenQ_exit ?_
                  refine blockQ_exit ?_
                  obtain rfl := Option.some.inj h25
                  exact ⟨_, rfl, _, _, _, _, _, _, (hS.sub (.c rfl (.c rfl (.c rfl (.c rfl .n))))), h89, h93⟩
          · rw [ite_f hc29] at h25
            replace hS := hS.know (t := 34) rfl (congrArg Value.bool hc29)
            refine WW.condF hS rfl rfl ?_
            refine WW.skip ?_
            refine WW.seq ?_
            refine WW.seq ?_
            refine WW.region ?_
            refine q_pu hS (wn rfl) rfl rfl rfl (v := vB (gt p0_0 x6.1)) (aop_move (hS.lk rfl)) fun s hS => ?_
            refine q_pu hS (wn rfl) rfl rfl rfl (v := .bool (((gt p0_0 x6.1).toNat : Int) == ((72 : UInt8).toNat : Int))) (aop_int (hS.lk rfl) (hS.lk rfl) rfl) fun s hS => ?_
            refine q_pu hS (wn rfl) rfl rfl rfl (v := .bool (((gt p0_0 x6.1).toNat : Int) == ((72 : UInt8).toNat : Int))) (aop_move (hS.lk rfl)) fun s hS => ?_
            refine q_cut 3 (fun s => Stt EV s [(81, .bool ((((gt p0_0 x6.1).toNat : Int) == ((72 : UInt8).toNat : Int)) || (((gt p0_0 x6.1).toNat : Int) == ((104 : UInt8).toNat : Int)))), (0, strV p0_0), (2, .pointer (some ⟨i1, 0, none⟩)), (4, .pointer (some ⟨i5, 0, none⟩)), (5, .int .i64 x6.1)] [B14, B10, [(i5, .row [strV x6.2.1, strV x6.2.2.1, .slice a7 x6.2.2.2.1.length z8, .slice a11 x6.2.2.2.2.1.length z12, .int .i64 x6.2.2.2.2.2] 31 0 true)], [(i1, .row [strV ([]), strV ([]), .slice none 0 0, .slice none 0 0, .int .i64 0] 31 0 true)]] F L F nx0) ?_ fun s hS => ?_
            ·
              rcases bool_cases ((((gt p0_0 x6.1).toNat : Int) == ((72 : UInt8).toNat : Int))) with hcj | hcj
              ·
                replace hS := hS.know (t := 77) rfl (congrArg Value.bool hcj)
                replace hS := hS.know (t := 78) rfl (congrArg Value.bool hcj)
                refine q_no hS (wf hS rfl rfl rfl rfl) rfl fun s hS => ?_
                refine q_no hS (wf hS rfl rfl rfl rfl) rfl fun s hS => ?_
                refine q_pu hS (wn rfl) rfl rfl rfl (v := .bool true) (aop_pickT (hS.lk rfl) (hS.lk rfl)) fun s hS => ?_
                refine KW.nil ?_
                exact (hS.know (t := 81) (u' := .bool ((((gt p0_0 x6.1).toNat : Int) == ((72 : UInt8).toNat : Int)) || (((gt p0_0 x6.1).toNat : Int) == ((104 : UInt8).toNat : Int)))) rfl (jn_or_t hcj)).sub (.c rfl (.c rfl (.c rfl (.c rfl (.c rfl .n)))))
              ·
                replace hS := hS.know (t := 77) rfl (congrArg Value.bool hcj)
                replace hS := hS.know (t := 78) rfl (congrArg Value.bool hcj)
                refine q_pu hS (wt hS rfl rfl rfl rfl) rfl rfl rfl (v := vB (gt p0_0 x6.1)) (aop_move (hS.lk rfl)) fun s hS => ?_
                refine q_pu hS (wt hS rfl rfl rfl rfl) rfl rfl rfl (v := .bool (((gt p0_0 x6.1).toNat : Int) == ((104 : UInt8).toNat : Int))) (aop_int (hS.lk rfl) (hS.lk rfl) rfl) fun s hS => ?_
                refine q_pu hS (wn rfl) rfl rfl rfl (v := .bool (((gt p0_0 x6.1).toNat : Int) == ((104 : UInt8).toNat : Int))) (aop_pickF (hS.lk rfl) (hS.lk rfl)) fun s hS => ?_
                refine KW.nil ?_
                exact (hS.know (t := 81) (u' := .bool ((((gt p0_0 x6.1).toNat : Int) == ((72 : UInt8).toNat : Int)) || (((gt p0_0 x6.1).toNat : Int) == ((104 : UInt8).toNat : Int)))) rfl (jn_or_f hcj)).sub (.c rfl (.c rfl (.c rfl (.c rfl (.c rfl .n)))))
            refine q_pu hS (wn rfl) rfl rfl rfl (v := .bool ((((gt p0_0 x6.1).toNat : Int) == ((72 : UInt8).toNat : Int)) || (((gt p0_0 x6.1).toNat : Int) == ((104 : UInt8).toNat : Int)))) (aop_move (hS.lk rfl)) fun s hS => ?_
            obtain ⟨z95, hz95, h25⟩ := bind_some h25
            refine q_cut 5 (fun s => Stt EV s [(87, .bool z95), (0, strV p0_0), (2, .pointer (some ⟨i1, 0, none⟩)), (4, .pointer (some ⟨i5, 0, none⟩)), (5, .int .i64 x6.1)] [B14, B10, [(i5, .row [strV x6.2.1, strV x6.2.2.1, .slice a7 x6.2.2.2.1.length z8, .slice a11 x6.2.2.2.2.1.length z12, .int .i64 x6.2.2.2.2.2] 31 0 true)], [(i1, .row [strV ([]), strV ([]), .slice none 0 0, .slice none 0 0, .int .i64 0] 31 0 true)]] F L F nx0) ?_ fun s hS => ?_
            ·
              rcases bool_cases (((((gt p0_0 x6.1).toNat : Int) == ((72 : UInt8).toNat : Int)) || (((gt p0_0 x6.1).toNat : Int) == ((104 : UInt8).toNat : Int)))) with hc96 | hc96
              · rw [ite_t hc96] at hz95
                replace hS := hS.know (t := 81) rfl (congrArg Value.bool hc96)
                replace hS := hS.know (t := 82) rfl (congrArg Value.bool hc96)
                refine q_pu hS (wt hS rfl rfl rfl rfl) rfl rfl rfl (v := .pointer (some ⟨i5, 1, none⟩)) (aop_fa (hS.lk rfl) tf31_1 rfl rfl) fun s hS => ?_
                refine q_ld hS (wt hS rfl rfl rfl rfl) rfl rfl rfl (hS.at (k := 2) rfl) tg9 (v := strV x6.2.2.1) rfl fun s hS => ?_
                obtain ⟨y97, hy97, hz95⟩ := bind_some hz95
                refine q_cl hS (wt hS rfl rfl rfl rfl) (vs := [strV x6.2.2.1]) (ws := [strV x6.2.2.1]) rfl rfl rfl rfl rfl 0 rfl (g_ref01_holleriths.ok hy97) fun s v S' F' hp98 hF hS => ?_
                obtain ⟨rfl, rfl, rfl⟩ := hp98
                refine q_pu hS (wt hS rfl rfl rfl rfl) rfl rfl rfl (v := .bool (decide (y97 > 0))) (aop_int (hS.lk rfl) (hS.lk rfl) rfl) fun s hS => ?_
                refine q_pu hS (wn rfl) rfl rfl rfl (v := .bool (decide (y97 > 0))) (aop_pickT (hS.lk rfl) (hS.lk rfl)) fun s hS => ?_
                refine KW.nil ?_
                obtain rfl := Option.some.inj hz95
                exact hS.sub (.c rfl (.c rfl (.c rfl (.c rfl (.c rfl .n)))))
              · rw [ite_f hc96] at hz95
                replace hS := hS.know (t := 81) rfl (congrArg Value.bool hc96)
                replace hS := hS.know (t := 82) rfl (congrArg Value.bool hc96)
                refine q_no hS (wf hS rfl rfl rfl rfl) rfl fun s hS => ?_
                refine q_no hS (wf hS rfl rfl rfl rfl) rfl fun s hS => ?_
                refine q_no hS (wf hS rfl rfl rfl rfl) rfl fun s hS => ?_
                refine q_no hS (wf hS rfl rfl rfl rfl) rfl fun s hS => ?_
                refine q_pu hS (wn rfl) rfl rfl rfl (v := .bool false) (aop_pickF (hS.lk rfl) (hS.lk rfl)) fun s hS => ?_
                refine KW.nil ?_
                obtain rfl := Option.some.inj hz95
                exact hS.sub (.c rfl (.c rfl (.c rfl (.c rfl (.c rfl .n)))))
            refine KW.nil ?_
            rcases bool_cases (z95) with hc99 | hc99
            · rw [ite_t hc99] at h25
              replace hS := hS.know (t := 87) rfl (congrArg Value.bool hc99)
              refine WW.condK hS rfl rfl ?_
              refine WW.seq ?_
              refine WW.region ?_
              refine q_pu hS (wn rfl) rfl rfl rfl (v := .pointer (some ⟨i5, 1, none⟩)) (aop_fa (hS.lk rfl) tf31_1 rfl rfl) fun s hS => ?_
              refine q_ld hS (wn rfl) rfl rfl rfl (hS.at (k := 2) rfl) tg9 (v := strV x6.2.2.1) rfl fun s hS => ?_
              obtain ⟨y100, hy100, h25⟩ := bind_some h25
              refine q_cl hS (wn rfl) (vs := [strV x6.2.2.1]) (ws := [strV x6.2.2.1]) rfl rfl rfl rfl rfl 0 rfl (g_ref01_holleriths.ok hy100) fun s v S' F' hp101 hF hS => ?_
              obtain ⟨rfl, rfl, rfl⟩ := hp101
              refine q_pu hS (wn rfl) rfl rfl rfl (v := .int .i64 y100) (aop_assign (hS.lk rfl)) fun s hS => ?_
              refine KW.nil ?_
              refine WW.seq ?_
              refine WW.region ?_
              refine q_pu hS (wn rfl) rfl rfl rfl (v := .int .i64 0) (aop_assign (hS.lk rfl)) fun s hS => ?_
              refine KW.nil ?_
              refine WW.seq ?_
              refine WW.seq ?_
              refine WW.region ?_
              refine q_pu hS (wn rfl) rfl rfl rfl (v := .pointer (some ⟨i5, 0, none⟩)) (aop_fa (hS.lk rfl) tf31_0 rfl rfl) fun s hS => ?_
              refine q_ld hS (wn rfl) rfl rfl rfl (hS.at (k := 2) rfl) tg9 (v := strV x6.2.1) rfl fun s hS => ?_
              refine q_pu hS (wn rfl) rfl rfl rfl (v := .int .i64 (x6.2.1.length : Int)) (aop_lenS rfl rfl tu9 (hS.lk rfl)) fun s hS => ?_
              refine q_pu hS (wn rfl) rfl rfl rfl (v := .int .i64 y100) (aop_move (hS.lk rfl)) fun s hS => ?_
              refine q_pu hS (wn rfl) rfl rfl rfl (v := .int .i64 (w64 ((x6.2.1.length : Int) - y100))) (aop_int (hS.lk rfl) (hS.lk rfl) rfl) fun s hS => ?_
              refine q_pu hS (wn rfl) rfl rfl rfl (v := .int .i64 (w64 ((x6.2.1.length : Int) - y100))) (aop_assign (hS.lk rfl)) fun s hS => ?_
              refine KW.nil ?_
              refine WW.block ?_
              obtain ⟨o103, ho103, h25⟩ := bind_some h25
              refine WW.loop (LW.iter ho103 (fun (x102 : Int × Int) s => Stt EV s [(0, strV p0_0), (2, .pointer (some ⟨i1, 0, none⟩)), (4, .pointer (some ⟨i5, 0, none⟩)), (5, .int .i64 x6.1), (8, .int .i64 y100), (9, .int .i64 x102.1), (10, .int .i64 x102.2)] [B14, B10, [(i5, .row [strV x6.2.1, strV x6.2.2.1, .slice a7 x6.2.2.2.1.length z8, .slice a11 x6.2.2.2.2.1.length z12, .int .i64 x6.2.2.2.2.2] 31 0 true)], [(i1, .row [strV ([]), strV ([]), .slice none 0 0, .slice none 0 0, .int .i64 0] 31 0 true)]] F L F nx0) (fun (y104 : Int × Int) e s => (e = .exit 6 ∧ Stt EV s [(0, strV p0_0), (2, .pointer (some ⟨i1, 0, none⟩)), (4, .pointer (some ⟨i5, 0, none⟩)), (5, .int .i64 x6.1), (8, .int .i64 y100), (9, .int .i64 y104.1), (10, .int .i64 y104.2)] [B14, B10, [(i5, .row [strV x6.2.1, strV x6.2.2.1, .slice a7 x6.2.2.2.1.length z8, .slice a11 x6.2.2.2.2.1.length z12, .int .i64 x6.2.2.2.2.2] 31 0 true)], [(i1, .row [strV ([]), strV ([]), .slice none 0 0, .slice none 0 0, .int .i64 0] 31 0 true)]] F L F nx0)) (hS.sub (.c rfl (.c rfl (.c rfl (.c rfl (.c rfl (.c rfl (.c rfl .n)))))))) ?_ ?_)
              · clear hS
                rintro x102 s hS o103' h105
                unfold g_ref01_Squeezed.b3 at h105
                refine WW.seq ?_
                refine WW.seq ?_
                refine WW.region ?_
                refine q_pu hS (wn rfl) rfl rfl rfl (v := .int .i64 x102.2) (aop_move (hS.lk rfl)) fun s hS => ?_
                refine q_pu hS (wn rfl) rfl rfl rfl (v := .pointer (some ⟨i5, 0, none⟩)) (aop_fa (hS.lk rfl) tf31_0 rfl rfl) fun s hS => ?_
                refine q_ld hS (wn rfl) rfl rfl rfl (hS.at (k := 2) rfl) tg9 (v := strV x6.2.1) rfl fun s hS => ?_
                refine q_pu hS (wn rfl) rfl rfl rfl (v := .int .i64 (x6.2.1.length : Int)) (aop_lenS rfl rfl tu9 (hS.lk rfl)) fun s hS => ?_
                refine q_pu hS (wn rfl) rfl rfl rfl (v := .bool (decide (x102.2 < (x6.2.1.length : Int)))) (aop_int (hS.lk rfl) (hS.lk rfl) rfl) fun s hS => ?_
                refine KW.nil ?_
                rcases bool_cases ((decide (x102.2 < (x6.2.1.length : Int)))) with hc106 | hc106
                · rw [ite_t hc106] at h105
                  replace hS := hS.know (t := 100) rfl (congrArg Value.bool hc106)
                  refine WW.condK hS rfl rfl ?_
                  refine WW.skip ?_
                  refine WW.seq ?_
                  refine WW.block ?_
                  refine WW.region ?_
                  refine q_pu hS (wn rfl) rfl rfl rfl (v := .int .i64 x102.1) (aop_move (hS.lk rfl)) fun s hS => ?_
                  refine q_pu hS (wn rfl) rfl rfl rfl (v := .int .i64 (w64 (10 * x102.1))) (aop_int (hS.lk rfl) (hS.lk rfl) rfl) fun s hS => ?_
                  refine q_pu hS (wn rfl) rfl rfl rfl (v := .pointer (some ⟨i5, 0, none⟩)) (aop_fa (hS.lk rfl) tf31_0 rfl rfl) fun s hS => ?_
                  refine q_ld hS (wn rfl) rfl rfl rfl (hS.at (k := 2) rfl) tg9 (v := strV x6.2.1) rfl fun s hS => ?_
                  refine q_pu hS (wn rfl) rfl rfl rfl (v := .int .i64 x102.2) (aop_move (hS.lk rfl)) fun s hS => ?_
                  obtain ⟨hk107, h105⟩ := ite_some h105
                  refine q_pu hS (wn rfl) rfl rfl rfl (v := vB (gt x6.2.1 x102.2)) (aop_idxS tu9 (hS.lk rfl) (hS.lk rfl) hk107) fun s hS => ?_
                  refine q_pu hS (wn rfl) rfl rfl rfl (v := vB ((gt x6.2.1 x102.2) - 48)) (aop_u8sub (hS.lk rfl) (hS.lk rfl)) fun s hS => ?_
                  refine q_pu hS (wn rfl) rfl rfl (tgt_cv hS rfl rfl) (v := .int .i64 (IntKind.i64.wrap (((gt x6.2.1 x102.2) - 48).toNat : Int))) (aop_cvi (hS.lk rfl) tu5 tu3) fun s hS => ?_
                  refine q_pu hS (wn rfl) rfl rfl rfl (v := .int .i64 (w64 ((w64 (10 * x102.1)) + (IntKind.i64.wrap (((gt x6.2.1 x102.2) - 48).toNat : Int))))) (aop_int (hS.lk rfl) (hS.lk rfl) rfl) fun s hS => ?_
                  refine q_pu hS (wn rfl) rfl rfl rfl (v := .int .i64 (if (10000 : Int) < (w64 ((w64 (10 * x102.1)) + (IntKind.i64.wrap (((gt x6.2.1 x102.2) - 48).toNat : Int)))) then 10000 else (w64 ((w64 (10 * x102.1)) + (IntKind.i64.wrap (((gt x6.2.1 x102.2) - 48).toNat : Int)))))) (aop_min rfl (hS.lk rfl) (hS.lk rfl)) fun s hS => ?_
                  refine q_pu hS (wn rfl) rfl rfl rfl (v := .int .i64 (if (10000 : Int) < (w64 ((w64 (10 * x102.1)) + (IntKind.i64.wrap (((gt x6.2.1 x102.2) - 48).toNat : Int)))) then 10000 else (w64 ((w64 (10 * x102.1)) + (IntKind.i64.wrap (((gt x6.2.1 x102.2) - 48).toNat : Int)))))) (aop_assign (hS.lk rfl)) fun s hS => ?_
                  refine KW.nil ?_
                  refine WW.region ?_
                  refine q_pu hS (wn rfl) rfl rfl rfl (v := .int .i64 x102.2) (aop_move (hS.lk rfl)) fun s hS => ?_
                  refine q_pu hS (wn rfl) rfl rfl rfl (v := .int .i64 (w64 (x102.2 + 1))) (aop_int (hS.lk rfl) (hS.lk rfl) rfl) fun s hS => ?_
                  refine q_pu hS (wn rfl) rfl rfl rfl (v := .int .i64 (w64 (x102.2 + 1))) (aop_assign (hS.lk rfl)) fun s hS => ?_
                  refine KW.nil ?_
                  obtain rfl := Option.some.inj h105
                  exact ⟨_, rfl, (hS.sub (.c rfl (.c rfl (.c rfl (.c rfl (.c rfl (.c rfl (.c rfl .n))))))))⟩
                · rw [ite_f hc106] at h105
                  replace hS := hS.know (t := 100) rfl (congrArg Value.bool hc106)
                  refine WW.condF hS rfl rfl ?_
                  refine WW.exit ?_
                  refine thenQ_exit ?_
                  obtain rfl := Option.some.inj h105
                  exact ⟨_, rfl, rfl, (hS.sub (.c rfl (.c rfl (.c rfl (.c rfl (.c rfl (.c rfl (.c rfl .n))))))))⟩
              · clear hS
                rintro e s ⟨rfl, hS⟩
                refine blockQ_exit ?_
                refine WW.seq ?_
                refine WW.seq ?_
                refine WW.region ?_
                refine q_pu hS (wn rfl) rfl rfl rfl (v := .int .i64 o103.1) (aop_move (hS.lk rfl)) fun s hS => ?_
                refine q_pu hS (wn rfl) rfl rfl rfl (v := .bool (o103.1 == 0)) (aop_int (hS.lk rfl) (hS.lk rfl) rfl) fun s hS => ?_
                refine KW.nil ?_
                rcases bool_cases ((o103.1 == 0)) with hc108 | hc108
                · rw [ite_t hc108] at h25
                  replace hS := hS.know (t := 114) rfl (congrArg Value.bool hc108)
                  refine WW.condK hS rfl rfl ?_
                  refine WW.seq ?_
                  refine WW.region ?_
                  refine q_pu hS (wn rfl) rfl rfl rfl (v := .agg #[strV ([]), strV ([]), .slice none 0 0, .slice none 0 0, .int .i64 11]) (aop_bld t0_31 tp31 [(4, .int .i64 11)] (parts_eq hS rfl) (cs := [strV ([]), strV ([]), .slice none 0 0, .slice none 0 0, .int .i64 11]) rfl) fun s hS => ?_
                  refine q_sto hS (wn rfl) rfl rfl rfl rfl (p := 3) rfl tz31 rfl [strV ([]), strV ([]), .slice none 0 0, .slice none 0 0, .int .i64 11] rfl fun s hS => ?_
                  refine KW.nil ?_
                  refine WW.ret ?_
                  replace hS := hS.gap0
                  replace hS := hS.gap0
                  have hres := (res_cell hS (t := 2) (ty := 31) rfl (p := 5) rfl tg31 tz31 (ws := [strV ([]), strV ([]), .slice none ([] : List Int).length 0, .slice none ([] : List (Int × Int)).length 0, .int .i64 11]) rfl (res_nil (E := EV) (s := s)))
                  replace hS := (hS.pull 2).drop
                  replace hS := (hS.pull 2).drop
                  replace hS := (hS.pull 2).drop
                  replace hS := (hS.pull 2).drop
                  replace hS := hS.pull 1
                  obtain rfl := Option.some.inj h25
                  exact ⟨_, rfl, rfl, fin hS (.inr rfl) hres (v := .agg #[strV ([]), strV ([]), .slice none ([] : List Int).length 0, .slice none ([] : List (Int × Int)).length 0, .int .i64 11]) rfl ⟨_, _, _, _, _, _, rfl, rfl, rfl, Own.nil, Own.nil⟩⟩
                · rw [ite_f hc108] at h25
                  replace hS := hS.know (t := 114) rfl (congrArg Value.bool hc108)
                  refine WW.condF hS rfl rfl ?_
                  refine WW.skip ?_
                  refine WW.seq ?_
                  refine WW.seq ?_
                  refine WW.region ?_
                  refine q_pu hS (wn rfl) rfl rfl rfl (v := .int .i64 x6.1) (aop_move (hS.lk rfl)) fun s hS => ?_
                  refine q_pu hS (wn rfl) rfl rfl rfl (v := .int .i64 o103.1) (aop_move (hS.lk rfl)) fun s hS => ?_
                  refine q_pu hS (wn rfl) rfl rfl rfl (v := .int .i64 (w64 (x6.1 + o103.1))) (aop_int (hS.lk rfl) (hS.lk rfl) rfl) fun s hS => ?_
                  refine q_pu hS (wn rfl) rfl rfl rfl (v := strV p0_0) (aop_move (hS.lk rfl)) fun s hS => ?_
                  refine q_pu hS (wn rfl) rfl rfl rfl (v := .int .i64 (p0_0.length : Int)) (aop_lenS rfl rfl tu9 (hS.lk rfl)) fun s hS => ?_
                  refine q_pu hS (wn rfl) rfl rfl rfl (v := .bool (decide ((w64 (x6.1 + o103.1)) ≥ (p0_0.length : Int)))) (aop_int (hS.lk rfl) (hS.lk rfl) rfl) fun s hS => ?_
                  refine KW.nil ?_
                  rcases bool_cases ((decide ((w64 (x6.1 + o103.1)) ≥ (p0_0.length : Int)))) with hc109 | hc109
                  · rw [ite_t hc109] at h25
                    replace hS := hS.know (t := 121) rfl (congrArg Value.bool hc109)
                    refine WW.condK hS rfl rfl ?_
                    refine WW.seq ?_
                    refine WW.region ?_
                    refine q_pu hS (wn rfl) rfl rfl rfl (v := .agg #[strV ([]), strV ([]), .slice none 0 0, .slice none 0 0, .int .i64 21]) (aop_bld t0_31 tp31 [(4, .int .i64 21)] (parts_eq hS rfl) (cs := [strV ([]), strV ([]), .slice none 0 0, .slice none 0 0, .int .i64 21]) rfl) fun s hS => ?_
                    refine q_sto hS (wn rfl) rfl rfl rfl rfl (p := 3) rfl tz31 rfl [strV ([]), strV ([]), .slice none 0 0, .slice none 0 0, .int .i64 21] rfl fun s hS => ?_
                    refine KW.nil ?_
                    refine WW.ret ?_
                    replace hS := hS.gap0
                    replace hS := hS.gap0
                    have hres := (res_cell hS (t := 2) (ty := 31) rfl (p := 5) rfl tg31 tz31 (ws := [strV ([]), strV ([]), .slice none ([] : List Int).length 0, .slice none ([] : List (Int × Int)).length 0, .int .i64 21]) rfl (res_nil (E := EV) (s := s)))
                    replace hS := (hS.pull 2).drop
                    replace hS := (hS.pull 2).drop
                    replace hS := (hS.pull 2).drop
                    replace hS := (hS.pull 2).drop
                    replace hS := hS.pull 1
                    obtain rfl := Option.some.inj h25
                    exact ⟨_, rfl, rfl, fin hS (.inr rfl) hres (v := .agg #[strV ([]), strV ([]), .slice none ([] : List Int).length 0, .slice none ([] : List (Int × Int)).length 0, .int .i64 21]) rfl ⟨_, _, _, _, _, _, rfl, rfl, rfl, Own.nil, Own.nil⟩⟩
                  · rw [ite_f hc109] at h25
                    replace hS := hS.know (t := 121) rfl (congrArg Value.bool hc109)
                    refine WW.condF hS rfl rfl ?_
                    refine WW.skip ?_
                    refine WW.seq ?_
                    refine WW.regionD (i := [[], [], [1, 0], [1, 0], [3, 2, 1, 0], [3, 2, 1, 0], [3, 2, 1, 0], [6, 5, 4, 3, 2, 1, 0], [3, 2, 1, 0], [1, 0], [1, 0], [10, 9, 8, 7, 6, 5, 4, 3, 2, 1, 0], [11, 10, 9, 8, 7, 6, 5, 4, 3, 2, 1, 0], [10, 9, 8, 7, 6, 5, 4, 3, 2, 1, 0], [10, 9, 8, 7, 6, 5, 4, 3, 2, 1, 0], [1, 0], [1, 0], [], [], []]) (by kernel_rfl) ?_
                    have hq := RS.start [i5, i1]
                    refine K.pu hS hq rfl (wn rfl) rfl rfl rfl (v := .pointer (some ⟨i5, 3, none⟩)) (aop_fa (hS.lk rfl) tf31_3 rfl rfl) fun s rs hS hq => ?_
                    refine K.ld hS hq rfl (wn rfl) rfl rfl rfl (hS.at (k := 2) rfl) tg27 (v := .slice a11 x6.2.2.2.2.1.length z12) rfl 0 rfl rfl fun s rs hS hq => ?_
                    refine K.pu hS hq rfl (wn rfl) rfl rfl rfl (v := .pointer (some ⟨i5, 2, none⟩)) (aop_fa (hS.lk rfl) tf31_2 rfl rfl) fun s rs hS hq => ?_
                    refine K.ld hS hq rfl (wn rfl) rfl rfl rfl (hS.at (k := 2) rfl) tg23 (v := .slice a7 x6.2.2.2.1.length z8) rfl 0 rfl rfl fun s rs hS hq => ?_
                    refine K.pu hS hq rfl (wn rfl) rfl rfl rfl (v := .pointer (some ⟨i5, 2, none⟩)) (aop_fa (hS.lk rfl) tf31_2 rfl rfl) fun s rs hS hq => ?_
                    refine K.ld hS hq rfl (wn rfl) rfl rfl rfl (hS.at (k := 2) rfl) tg23 (v := .slice a7 x6.2.2.2.1.length z8) rfl 0 rfl rfl fun s rs hS hq => ?_
                    refine K.pu hS hq rfl (wn rfl) rfl rfl rfl (v := .int .i64 (x6.2.2.2.1.length : Int)) (aop_lenSl rfl rfl tu23 (hS.lk rfl)) fun s rs hS hq => ?_
                    refine K.pu hS hq rfl (wn rfl) rfl rfl rfl (v := .int .i64 y100) (aop_move (hS.lk rfl)) fun s rs hS hq => ?_
                    refine K.pu hS hq rfl (wn rfl) rfl rfl rfl (v := .int .i64 (w64 ((x6.2.2.2.1.length : Int) - y100))) (aop_int (hS.lk rfl) (hS.lk rfl) rfl) fun s rs hS hq => ?_
                    obtain ⟨hk110, h25⟩ := ite_some h25
                    obtain ⟨i116, cs117, ex118, rfl, rfl, rfl, hC119⟩ := Own.some_ h9 (by omega)
                    obtain ⟨c111, hR112, hN114, hN113, hT115⟩ := Cells.loadF hC119 ex118 hk110 (z := 1) rfl
                    obtain rfl := hR112
                    refine K.pu hS hq rfl (wn rfl) rfl rfl rfl (v := .pointer (some ⟨i116, 0 + ((w64 ((x6.2.2.2.1.length : Int) - y100))).toNat * 1, none⟩)) (aop_ia (hS.lk rfl) (hS.lk rfl) te23 hk110) fun s rs hS hq => ?_
                    replace hq := hq.more i116 rfl rfl rfl
                    refine K.ld hS hq rfl (wn rfl) rfl rfl rfl (hS.at (k := 1) rfl) tg3 (v := .int .i64 (gt x6.2.2.2.1 (w64 ((x6.2.2.2.1.length : Int) - y100)))) hN113 2 rfl rfl fun s rs hS hq => ?_
                    refine K.pu hS hq rfl (wn rfl) rfl rfl rfl (v := .int .i64 x6.1) (aop_move (hS.lk rfl)) fun s rs hS hq => ?_
                    refine K.pu hS hq rfl (wn rfl) rfl rfl rfl (v := .int .i64 o103.1) (aop_move (hS.lk rfl)) fun s rs hS hq => ?_
                    refine K.pu hS hq rfl (wn rfl) rfl rfl rfl (v := .int .i64 (w64 (x6.1 + o103.1))) (aop_int (hS.lk rfl) (hS.lk rfl) rfl) fun s rs hS hq => ?_
                    refine K.pu hS hq rfl (wn rfl) rfl rfl rfl (v := .int .i64 (w64 ((w64 (x6.1 + o103.1)) + 1))) (aop_int (hS.lk rfl) (hS.lk rfl) rfl) fun s rs hS hq => ?_
                    refine K.pu hS hq rfl (wn rfl) rfl rfl rfl (v := .agg #[.int .i64 (gt x6.2.2.2.1 (w64 ((x6.2.2.2.1.length : Int) - y100))), .int .i64 (w64 ((w64 (x6.1 + o103.1)) + 1))]) (aop_bldA t0_34 tu34 tz3 [(0, .int .i64 (gt x6.2.2.2.1 (w64 ((x6.2.2.2.1.length : Int) - y100)))), (1, .int .i64 (w64 ((w64 (x6.1 + o103.1)) + 1)))] (parts_eq hS rfl) (cs := [.int .i64 (gt x6.2.2.2.1 (w64 ((x6.2.2.2.1.length : Int) - y100))), .int .i64 (w64 ((w64 (x6.1 + o103.1)) + 1))]) rfl) fun s rs hS hq => ?_
                    refine K.nw hS hq rfl (wn rfl) rfl rfl rfl (v := fun i => .slice (some ⟨i, 0, none⟩) 1 2) (b := .row [.int .i64 (gt x6.2.2.2.1 (w64 ((x6.2.2.2.1.length : Int) - y100))), .int .i64 (w64 ((w64 (x6.1 + o103.1)) + 1))] 34 2 true) (aop_bsl tu27 tz34 t0_34 rfl [(0, .agg #[.int .i64 (gt x6.2.2.2.1 (w64 ((x6.2.2.2.1.length : Int) - y100))), .int .i64 (w64 ((w64 (x6.1 + o103.1)) + 1))])] (parts_eq hS rfl) rfl) [0, 1, 2] (aw_c rfl (mm1 (mm1 mm0)) (aw_c rfl (mm1 (mm1 (mm1 mm0))) (aw_c rfl (mm1 mm0) aw_n))) rfl rfl rfl fun s rs i120 hS hq => ?_
                    have hC121 : Cells el34 F ([((gt x6.2.2.2.1 (w64 ((x6.2.2.2.1.length : Int) - y100))), (w64 ((w64 (x6.1 + o103.1)) + 1)))] : List (Int × Int)) [.int .i64 (gt x6.2.2.2.1 (w64 ((x6.2.2.2.1.length : Int) - y100))), .int .i64 (w64 ((w64 (x6.1 + o103.1)) + 1))] := ⟨[.int .i64 (gt x6.2.2.2.1 (w64 ((x6.2.2.2.1.length : Int) - y100))), .int .i64 (w64 ((w64 (x6.1 + o103.1)) + 1))], [], rfl, rfl, rfl⟩
                    obtain ⟨hk125, h25⟩ := ite_some h25
                    refine K.app [] hS hq rfl (wn rfl) (dd := el34) (lst := x6.2.2.2.2.1) (m := ([((gt x6.2.2.2.1 (w64 ((x6.2.2.2.1.length : Int) - y100))), (w64 ((w64 (x6.1 + o103.1)) + 1)))] : List (Int × Int))) rfl rfl ta27_27 rfl rfl h13 (Nat.succ_pos _) hC121 hk125 [0, 1, 2] rfl rfl (aw_c rfl (mm1 mm0) (aw_c rfl (mm1 (mm1 mm0)) (aw_c rfl mm0 aw_n))) fun s rs i122 cs123 hC124 hS hq => ?_
                    refine K.pu hS hq rfl (wn rfl) rfl rfl rfl (v := .pointer (some ⟨i5, 3, none⟩)) (aop_fa (hS.lk rfl) tf31_3 rfl rfl) fun s rs hS hq => ?_
                    refine K.sto hS hq rfl (wn rfl) rfl rfl rfl rfl (p := 2) rfl tz27 rfl [strV x6.2.1, strV x6.2.2.1, .slice (some ⟨i116, 0, none⟩) x6.2.2.2.1.length 1, .slice (some ⟨i122, 0, none⟩) (x6.2.2.2.2.1 ++ ([((gt x6.2.2.2.1 (w64 ((x6.2.2.2.1.length : Int) - y100))), (w64 ((w64 (x6.1 + o103.1)) + 1)))] : List (Int × Int))).length 2, .int .i64 x6.2.2.2.2.2] rfl [1, 2] rfl (aw_c rfl (mm1 (mm1 mm0)) (aw_c rfl (mm1 mm0) aw_n)) fun s rs hS hq => ?_
                    refine KW.nil ?_
                    refine WW.seq ?_
                    refine WW.region ?_
                    refine q_ldA hS (wn rfl) rfl rfl rfl (hS.at (k := 2) rfl) tg31 tz31 (vs := [strV x6.2.1, strV x6.2.2.1, .slice (some ⟨i116, 0, none⟩) x6.2.2.2.1.length 1, .slice (some ⟨i122, 0, none⟩) (x6.2.2.2.2.1 ++ ([((gt x6.2.2.2.1 (w64 ((x6.2.2.2.1.length : Int) - y100))), (w64 ((w64 (x6.1 + o103.1)) + 1)))] : List (Int × Int))).length 2, .int .i64 x6.2.2.2.2.2]) rfl fun s hS => ?_
                    refine q_pu hS (wn rfl) rfl rfl rfl (v := .int .i64 x6.1) (aop_move (hS.lk rfl)) fun s hS => ?_
                    obtain ⟨y126, hy126, h25⟩ := bind_some h25
                    replace hS := hS.pull 1
                    refine q_cl hS (wn rfl) (vs := [.agg #[strV x6.2.1, strV x6.2.2.1, .slice (some ⟨i116, 0, none⟩) x6.2.2.2.1.length 1, .slice (some ⟨i122, 0, none⟩) (x6.2.2.2.2.1 ++ ([((gt x6.2.2.2.1 (w64 ((x6.2.2.2.1.length : Int) - y100))), (w64 ((w64 (x6.1 + o103.1)) + 1)))] : List (Int × Int))).length 2, .int .i64 x6.2.2.2.2.2], vB 72, .int .i64 x6.1]) (ws := [.agg #[strV x6.2.1, strV x6.2.2.1, .slice (some ⟨i116, 0, none⟩) x6.2.2.2.1.length 1, .slice (some ⟨i122, 0, none⟩) (x6.2.2.2.2.1 ++ ([((gt x6.2.2.2.1 (w64 ((x6.2.2.2.1.length : Int) - y100))), (w64 ((w64 (x6.1 + o103.1)) + 1)))] : List (Int × Int))).length 2, .int .i64 x6.2.2.2.2.2], vB 72, .int .i64 x6.1]) rfl rfl rfl rfl rfl 2 rfl (g_ref01_with.ok hy126 (Own.blk ex118 hC119) (Own.blk0 hC124)) fun s v S' F' hp127 hF hS => ?_
                    obtain ⟨a128, z129, B131, a132, z133, B135, rfl, rfl, rfl, h130, h134⟩ := hp127
                    obtain ⟨y136, hy136, h25⟩ := bind_some h25
                    refine q_cl hS (wn rfl) (vs := [.agg #[strV y126.1, strV y126.2.1, .slice a128 y126.2.2.1.length z129, .slice a132 y126.2.2.2.1.length z133, .int .i64 y126.2.2.2.2]]) (ws := [.agg #[strV y126.1, strV y126.2.1, .slice a128 y126.2.2.1.length z129, .slice a132 y126.2.2.2.1.length z133, .int .i64 y126.2.2.2.2]]) rfl rfl rfl rfl rfl 2 rfl (g_ref01_hidden.ok hy136 h130 h134) fun s v S' F' hp137 hF hS => ?_
                    obtain ⟨a138, z139, B141, a142, z143, B145, rfl, rfl, rfl, h140, h144⟩ := hp137
                    refine q_sto hS (wn rfl) rfl rfl rfl rfl (p := 2) rfl tz31 rfl [strV y136.1, strV y136.2.1, .slice a138 y136.2.2.1.length z139, .slice a142 y136.2.2.2.1.length z143, .int .i64 y136.2.2.2.2] rfl fun s hS => ?_
                    refine KW.nil ?_
                    refine WW.seq ?_
                    refine WW.seq ?_
                    refine WW.region ?_
                    refine q_pu hS (wn rfl) rfl rfl rfl (v := .int .i64 x6.1) (aop_move (hS.lk rfl)) fun s hS => ?_
                    refine q_pu hS (wn rfl) rfl rfl rfl (v := .int .i64 (w64 (x6.1 + 1))) (aop_int (hS.lk rfl) (hS.lk rfl) rfl) fun s hS => ?_
                    refine q_pu hS (wn rfl) rfl rfl rfl (v := .int .i64 (w64 (x6.1 + 1))) (aop_assign (hS.lk rfl)) fun s hS => ?_
                    refine KW.nil ?_
                    refine WW.block ?_
                    obtain ⟨o155, ho155, h25⟩ := bind_some h25
                    refine WW.loop (LW.iter ho155 (fun (x146 : Int × List UInt8 × List UInt8 × List Int × (List (Int × Int)) × Int) s => ∃ (a147 : Option Addr) (z148 : Nat) (B150 : Seg) (a151 : Option Addr) (z152 : Nat) (B154 : Seg), Stt EV s [(0, strV p0_0), (2, .pointer (some ⟨i1, 0, none⟩)), (4, .pointer (some ⟨i5, 0, none⟩)), (5, .int .i64 x6.1), (9, .int .i64 o103.1), (11, .int .i64 x146.1)] [B150, B154, [(i5, .row [strV x146.2.1, strV x146.2.2.1, .slice a147 x146.2.2.2.1.length z148, .slice a151 x146.2.2.2.2.1.length z152, .int .i64 x146.2.2.2.2.2] 31 0 true)], [(i1, .row [strV ([]), strV ([]), .slice none 0 0, .slice none 0 0, .int .i64 0] 31 0 true)]] F L F nx0 ∧ Own (elI .i64 3) F a147 z148 x146.2.2.2.1 B150 ∧ Own el34 F a151 z152 x146.2.2.2.2.1 B154) (fun (y156 : Int × List UInt8 × List UInt8 × List Int × (List (Int × Int)) × Int) e s => (e = .exit 8 ∧ ∃ (a157 : Option Addr) (z158 : Nat) (B160 : Seg) (a161 : Option Addr) (z162 : Nat) (B164 : Seg), Stt EV s [(0, strV p0_0), (2, .pointer (some ⟨i1, 0, none⟩)), (4, .pointer (some ⟨i5, 0, none⟩)), (5, .int .i64 x6.1), (9, .int .i64 o103.1), (11, .int .i64 y156.1)] [B160, B164, [(i5, .row [strV y156.2.1, strV y156.2.2.1, .slice a157 y156.2.2.2.1.length z158, .slice a161 y156.2.2.2.2.1.length z162, .int .i64 y156.2.2.2.2.2] 31 0 true)], [(i1, .row [strV ([]), strV ([]), .slice none 0 0, .slice none 0 0, .int .i64 0] 31 0 true)]] F L F nx0 ∧ Own (elI .i64 3) F a157 z158 y156.2.2.2.1 B160 ∧ Own el34 F a161 z162 y156.2.2.2.2.1 B164)) ⟨_, _, _, _, _, _, (hS.sub (.c rfl (.c rfl (.c rfl (.c rfl (.c rfl (.c rfl .n))))))), h140, h144⟩ ?_ ?_)
                    · clear hS
                      rintro x146 s ⟨a147, z148, B150, a151, z152, B154, hS, h149, h153⟩ o155' h165
                      unfold g_ref01_Squeezed.b4 at h165
                      refine WW.seq ?_
                      refine WW.seq ?_
                      refine WW.region ?_
                      refine q_pu hS (wn rfl) rfl rfl rfl (v := .int .i64 x146.1) (aop_move (hS.lk rfl)) fun s hS => ?_
                      refine q_pu hS (wn rfl) rfl rfl rfl (v := .int .i64 x6.1) (aop_move (hS.lk rfl)) fun s hS => ?_
                      refine q_pu hS (wn rfl) rfl rfl rfl (v := .int .i64 o103.1) (aop_move (hS.lk rfl)) fun s hS => ?_
                      refine q_pu hS (wn rfl) rfl rfl rfl (v := .int .i64 (w64 (x6.1 + o103.1))) (aop_int (hS.lk rfl) (hS.lk rfl) rfl) fun s hS => ?_
                      refine q_pu hS (wn rfl) rfl rfl rfl (v := .bool (decide (x146.1 ≤ (w64 (x6.1 + o103.1))))) (aop_int (hS.lk rfl) (hS.lk rfl) rfl) fun s hS => ?_
                      refine KW.nil ?_
                      rcases bool_cases ((decide (x146.1 ≤ (w64 (x6.1 + o103.1))))) with hc166 | hc166
                      · rw [ite_t hc166] at h165
                        replace hS := hS.know (t := 152) rfl (congrArg Value.bool hc166)
                        refine WW.condK hS rfl rfl ?_
                        refine WW.skip ?_
                        refine WW.seq ?_
                        refine WW.block ?_
                        refine WW.regionD (i := [[], [0], [1, 0], [0], [3, 2, 1, 0], [], [], []]) (by kernel_rfl) ?_
                        have hq := RS.start [i5, i1]
                        refine K.ldA hS hq rfl (wn rfl) rfl rfl rfl (hS.at (k := 2) rfl) tg31 tz31 (vs := [strV x146.2.1, strV x146.2.2.1, .slice a147 x146.2.2.2.1.length z148, .slice a151 x146.2.2.2.2.1.length z152, .int .i64 x146.2.2.2.2.2]) rfl 0 rfl rfl fun s rs hS hq => ?_
                        refine K.pu hS hq rfl (wn rfl) rfl rfl rfl (v := strV p0_0) (aop_move (hS.lk rfl)) fun s rs hS hq => ?_
                        refine K.pu hS hq rfl (wn rfl) rfl rfl rfl (v := .int .i64 x146.1) (aop_move (hS.lk rfl)) fun s rs hS hq => ?_
                        obtain ⟨hk167, h165⟩ := ite_some h165
                        refine K.pu hS hq rfl (wn rfl) rfl rfl rfl (v := vB (gt p0_0 x146.1)) (aop_idxS tu9 (hS.lk rfl) (hS.lk rfl) hk167) fun s rs hS hq => ?_
                        refine K.pu hS hq rfl (wn rfl) rfl rfl rfl (v := .int .i64 x146.1) (aop_move (hS.lk rfl)) fun s rs hS hq => ?_
                        obtain ⟨y168, hy168, h165⟩ := bind_some h165
                        refine K.cl hS hq rfl (wn rfl) (vs := [.agg #[strV x146.2.1, strV x146.2.2.1, .slice a147 x146.2.2.2.1.length z148, .slice a151 x146.2.2.2.2.1.length z152, .int .i64 x146.2.2.2.2.2], vB (gt p0_0 x146.1), .int .i64 x146.1]) (ws := [.agg #[strV x146.2.1, strV x146.2.2.1, .slice a147 x146.2.2.2.1.length z148, .slice a151 x146.2.2.2.2.1.length z152, .int .i64 x146.2.2.2.2.2], vB (gt p0_0 x146.1), .int .i64 x146.1]) rfl rfl rfl rfl rfl 2 rfl (g_ref01_with.ok hy168 h149 h153)  [0, 1] rfl rfl (aw_c rfl mm0 (aw_c rfl (mm1 mm0) aw_n)) fun s rs v S' F' hp169 hF hS hq => ?_
                        obtain ⟨a170, z171, B173, a174, z175, B177, rfl, rfl, rfl, h172, h176⟩ := hp169
                        obtain ⟨y178, hy178, h165⟩ := bind_some h165
                        refine K.cl hS hq rfl (wn rfl) (vs := [.agg #[strV y168.1, strV y168.2.1, .slice a170 y168.2.2.1.length z171, .slice a174 y168.2.2.2.1.length z175, .int .i64 y168.2.2.2.2]]) (ws := [.agg #[strV y168.1, strV y168.2.1, .slice a170 y168.2.2.1.length z171, .slice a174 y168.2.2.2.1.length z175, .int .i64 y168.2.2.2.2]]) rfl rfl rfl rfl rfl 2 rfl (g_ref01_hidden.ok hy178 h172 h176)  [0, 1] rfl rfl (aw_c rfl mm0 (aw_c rfl (mm1 mm0) aw_n)) fun s rs v S' F' hp179 hF hS hq => ?_
                        obtain ⟨a180, z181, B183, a184, z185, B187, rfl, rfl, rfl, h182, h186⟩ := hp179
                        refine K.sto hS hq rfl (wn rfl) rfl rfl rfl rfl (p := 2) rfl tz31 rfl [strV y178.1, strV y178.2.1, .slice a180 y178.2.2.1.length z181, .slice a184 y178.2.2.2.1.length z185, .int .i64 y178.2.2.2.2] rfl [1] rfl (aw_c rfl (mm1 (mm1 mm0)) aw_n) fun s rs hS hq => ?_
                        refine KW.nil ?_
                        refine WW.region ?_
                        refine q_pu hS (wn rfl) rfl rfl rfl (v := .int .i64 x146.1) (aop_move (hS.lk rfl)) fun s hS => ?_
                        refine q_pu hS (wn rfl) rfl rfl rfl (v := .int .i64 (w64 (x146.1 + 1))) (aop_int (hS.lk rfl) (hS.lk rfl) rfl) fun s hS => ?_
                        refine q_pu hS (wn rfl) rfl rfl rfl (v := .int .i64 (w64 (x146.1 + 1))) (aop_assign (hS.lk rfl)) fun s hS => ?_
                        refine KW.nil ?_
                        obtain rfl := Option.some.inj h165
                        exact ⟨_, rfl, _, _, _, _, _, _, (hS.sub (.c rfl (.c rfl (.c rfl (.c rfl (.c rfl (.c rfl .n))))))), h182, h186⟩
                      · rw [ite_f hc166] at h165
                        replace hS := hS.know (t := 152) rfl (congrArg Value.bool hc166)
                        refine WW.condF hS rfl rfl ?_
                        refine WW.exit ?_
                        refine thenQ_exit ?_
                        obtain rfl := Option.some.inj h165
                        exact ⟨_, rfl, rfl, _, _, _, _, _, _, (hS.sub (.c rfl (.c rfl (.c rfl (.c rfl (.c rfl (.c rfl .n))))))), h149, h153⟩
                    · clear hS
                      rintro e s ⟨rfl, a188, z189, B191, a192, z193, B195, hS, h190, h194⟩
                      refine blockQ_exit ?_
                      refine WW.seq ?_
                      refine WW.region ?_
                      refine q_pu hS (wn rfl) rfl rfl rfl (v := .int .i64 x6.1) (aop_move (hS.lk rfl)) fun s hS => ?_
                      refine q_pu hS (wn rfl) rfl rfl rfl (v := .int .i64 o103.1) (aop_move (hS.lk rfl)) fun s hS => ?_
                      refine q_pu hS (wn rfl) rfl rfl rfl (v := .int .i64 (w64 (x6.1 + o103.1))) (aop_int (hS.lk rfl) (hS.lk rfl) rfl) fun s hS => ?_
                      refine q_pu hS (wn rfl) rfl rfl rfl (v := .int .i64 (w64 ((w64 (x6.1 + o103.1)) + 1))) (aop_int (hS.lk rfl) (hS.lk rfl) rfl) fun s hS => ?_
                      refine q_pu hS (wn rfl) rfl rfl rfl (v := .int .i64 (w64 ((w64 (x6.1 + o103.1)) + 1))) (aop_assign (hS.lk rfl)) fun s hS => ?_
                      refine KW.nil ?_
                      refine WW.exit ?_
                      refine thenQ_exit ?_
                      refine blockQ_exit ?_
                      replace hS := hS.pull 3
                      replace hS := hS.pull 3
                      replace hS := hS.pull 2
                      replace hS := hS.pull 3
                      obtain rfl := Option.some.inj h25
                      exact ⟨_, rfl, _, _, _, _, _, _, (hS.sub (.c rfl (.c rfl (.c rfl (.c rfl .n))))), h190, h194⟩
            · rw [ite_f hc99] at h25
              replace hS := hS.know (t := 87) rfl (congrArg Value.bool hc99)
              refine WW.condF hS rfl rfl ?_
              refine WW.skip ?_
              refine WW.seq ?_
              refine WW.regionD (i := [[], [0], [1, 0], [2, 1, 0], [2, 1, 0], [0], [0], [0], [7, 6, 5, 4, 3, 2, 1, 0], [], []]) (by kernel_rfl) ?_
              have hq := RS.start [i5, i1]
              refine K.ldA hS hq rfl (wn rfl) rfl rfl rfl (hS.at (k := 2) rfl) tg31 tz31 (vs := [strV x6.2.1, strV x6.2.2.1, .slice a7 x6.2.2.2.1.length z8, .slice a11 x6.2.2.2.2.1.length z12, .int .i64 x6.2.2.2.2.2]) rfl 0 rfl rfl fun s rs hS hq => ?_
              refine K.pu hS hq rfl (wn rfl) rfl rfl rfl (v := strV p0_0) (aop_move (hS.lk rfl)) fun s rs hS hq => ?_
              refine K.pu hS hq rfl (wn rfl) rfl rfl rfl (v := .int .i64 x6.1) (aop_move (hS.lk rfl)) fun s rs hS hq => ?_
              refine K.pu hS hq rfl (wn rfl) rfl rfl rfl (v := .int .i64 x6.1) (aop_move (hS.lk rfl)) fun s rs hS hq => ?_
              refine K.pu hS hq rfl (wn rfl) rfl rfl rfl (v := .int .i64 (w64 (x6.1 + 1))) (aop_int (hS.lk rfl) (hS.lk rfl) rfl) fun s rs hS hq => ?_
              obtain ⟨hk196, h25⟩ := ite_some h25
              refine K.pu hS hq rfl (wn rfl) rfl rfl rfl (v := strV (mid p0_0 x6.1 (w64 (x6.1 + 1)))) (aop_slS tu9 (hS.lk rfl) (i := x6.1) (j := (w64 (x6.1 + 1))) (bnd_eq hS rfl) (bnd_eq hS rfl) hk196) fun s rs hS hq => ?_
              obtain ⟨y197, hy197, h25⟩ := bind_some h25
              refine K.cl hS hq rfl (wn rfl) (vs := [strV (mid p0_0 x6.1 (w64 (x6.1 + 1)))]) (ws := [strV (mid p0_0 x6.1 (w64 (x6.1 + 1)))]) rfl rfl rfl rfl rfl 0 rfl (g_ref01_upper.ok hy197)  [0, 1] rfl rfl (aw_c rfl (mm1 (mm1 mm0)) (aw_c rfl (mm1 (mm1 (mm1 mm0))) aw_n)) fun s rs v S' F' hp198 hF hS hq => ?_
              obtain ⟨rfl, rfl, rfl⟩ := hp198
              obtain ⟨hk199, h25⟩ := ite_some h25
              refine K.pu hS hq rfl (wn rfl) rfl rfl rfl (v := vB (gt y197 (0 : Int))) (aop_idxS tu9 (hS.lk rfl) (hS.lk rfl) hk199) fun s rs hS hq => ?_
              refine K.pu hS hq rfl (wn rfl) rfl rfl rfl (v := .int .i64 x6.1) (aop_move (hS.lk rfl)) fun s rs hS hq => ?_
              obtain ⟨y200, hy200, h25⟩ := bind_some h25
              replace hS := hS.pull 1
              refine K.cl hS hq rfl (wn rfl) (vs := [.agg #[strV x6.2.1, strV x6.2.2.1, .slice a7 x6.2.2.2.1.length z8, .slice a11 x6.2.2.2.2.1.length z12, .int .i64 x6.2.2.2.2.2], vB (gt y197 (0 : Int)), .int .i64 x6.1]) (ws := [.agg #[strV x6.2.1, strV x6.2.2.1, .slice a7 x6.2.2.2.1.length z8, .slice a11 x6.2.2.2.2.1.length z12, .int .i64 x6.2.2.2.2.2], vB (gt y197 (0 : Int)), .int .i64 x6.1]) rfl rfl rfl rfl rfl 2 rfl (g_ref01_with.ok hy200 h9 h13)  [0, 1] rfl rfl (aw_c rfl mm0 (aw_c rfl (mm1 mm0) aw_n)) fun s rs v S' F' hp201 hF hS hq => ?_
              obtain ⟨a202, z203, B205, a206, z207, B209, rfl, rfl, rfl, h204, h208⟩ := hp201
              refine K.sto hS hq rfl (wn rfl) rfl rfl rfl rfl (p := 2) rfl tz31 rfl [strV y200.1, strV y200.2.1, .slice a202 y200.2.2.1.length z203, .slice a206 y200.2.2.2.1.length z207, .int .i64 y200.2.2.2.2] rfl [1] rfl (aw_c rfl (mm1 (mm1 mm0)) aw_n) fun s rs hS hq => ?_
              refine KW.nil ?_
              refine WW.region ?_
              refine q_pu hS (wn rfl) rfl rfl rfl (v := .int .i64 x6.1) (aop_move (hS.lk rfl)) fun s hS => ?_
              refine q_pu hS (wn rfl) rfl rfl rfl (v := .int .i64 (w64 (x6.1 + 1))) (aop_int (hS.lk rfl) (hS.lk rfl) rfl) fun s hS => ?_
              refine q_pu hS (wn rfl) rfl rfl rfl (v := .int .i64 (w64 (x6.1 + 1))) (aop_assign (hS.lk rfl)) fun s hS => ?_
              refine KW.nil ?_
              replace hS := hS.pull 3
              replace hS := hS.pull 3
              replace hS := hS.pull 2
              replace hS := hS.pull 3
              obtain rfl := Option.some.inj h25
              exact ⟨_, rfl, _, _, _, _, _, _, (hS.sub (.c rfl (.c rfl (.c rfl (.c rfl .n))))), h204, h208⟩
      · rw [ite_f hc26] at h25
        replace hS := hS.know (t := 21) rfl (congrArg Value.bool hc26)
        refine WW.condF hS rfl rfl ?_
        refine WW.exit ?_
        refine thenQ_exit ?_
        obtain rfl := Option.some.inj h25
        exact ⟨_, rfl, rfl, _, _, _, _, _, _, (hS.sub (.c rfl (.c rfl (.c rfl (.c rfl .n))))), h9, h13⟩
    · clear hS
      rcases o15 with y210 | y210
      · rintro e s ⟨rfl, a211, z212, B214, a215, z216, B218, hS, h213, h217⟩
        replace h := match_inl h
        refine blockQ_exit ?_
        refine WW.seq ?_
        refine WW.region ?_
        refine q_ldA hS (wn rfl) rfl rfl rfl (hS.at (k := 2) rfl) tg31 tz31 (vs := [strV y210.2.1, strV y210.2.2.1, .slice a211 y210.2.2.2.1.length z212, .slice a215 y210.2.2.2.2.1.length z216, .int .i64 y210.2.2.2.2.2]) rfl fun s hS => ?_
        refine q_sto hS (wn rfl) rfl rfl rfl rfl (p := 3) rfl tz31 rfl [strV y210.2.1, strV y210.2.2.1, .slice a211 y210.2.2.2.1.length z212, .slice a215 y210.2.2.2.2.1.length z216, .int .i64 y210.2.2.2.2.2] rfl fun s hS => ?_
        refine KW.nil ?_
        refine WW.ret ?_
        have hres := (res_cell hS (t := 2) (ty := 31) rfl (p := 3) rfl tg31 tz31 (ws := [strV y210.2.1, strV y210.2.2.1, .slice a211 y210.2.2.2.1.length z212, .slice a215 y210.2.2.2.2.1.length z216, .int .i64 y210.2.2.2.2.2]) rfl (res_nil (E := EV) (s := s)))
        replace hS := (hS.pull 2).drop
        replace hS := (hS.pull 2).drop
        replace hS := hS.pull 1
        obtain rfl := Option.some.inj h
        exact fin hS (.inr rfl) hres (v := .agg #[strV y210.2.1, strV y210.2.2.1, .slice a211 y210.2.2.2.1.length z212, .slice a215 y210.2.2.2.2.1.length z216, .int .i64 y210.2.2.2.2.2]) rfl ⟨_, _, _, _, _, _, rfl, rfl, rfl, h213, h217⟩
      · rintro e s ⟨rfl, hfin⟩
        replace h := match_inr h
        obtain rfl := Option.some.inj h
        exact hfin
/-! ### formulary/formularybase.Before (46) -/
noncomputable def g_base_Before.F (self : (List Int × List Int) → Option (Bool)) (p0_0 : List Int) (p1_0 : List Int) : Option (Bool) :=
  (if (((p0_0.length : Int) == 0) || ((p1_0.length : Int) == 0)) then some (decide ((p0_0.length : Int) < (p1_0.length : Int))) else (if 0 ≤ (0 : Int) ∧ (0 : Int) < (p0_0.length : Int) then (if 0 ≤ (0 : Int) ∧ (0 : Int) < (p1_0.length : Int) then (if (decide ((gt p0_0 (0 : Int)) < (gt p1_0 (0 : Int)))) then some true else (if 0 ≤ (0 : Int) ∧ (0 : Int) < (p0_0.length : Int) then (if 0 ≤ (0 : Int) ∧ (0 : Int) < (p1_0.length : Int) then (if ((gt p0_0 (0 : Int)) == (gt p1_0 (0 : Int))) then (if 0 ≤ (1 : Int) ∧ (1 : Int) ≤ (p0_0.length : Int) ∧ (p0_0.length : Int) ≤ (p0_0.length : Int) then (if 0 ≤ (1 : Int) ∧ (1 : Int) ≤ (p1_0.length : Int) ∧ (p1_0.length : Int) ≤ (p1_0.length : Int) then Option.bind (self ((mid p0_0 (1 : Int) (p0_0.length : Int)), (mid p1_0 (1 : Int) (p1_0.length : Int)))) fun y44 => some y44 else none) else none) else some false) else none) else none)) else none) else none))
noncomputable def g_base_Before.f (p0_0 : List Int) (p1_0 : List Int) : Option (Bool) := fixO (fun self (x : List Int × List Int) => g_base_Before.F self x.1 x.2) (p0_0, p1_0)
set_option maxHeartbeats 4000000 in
theorem g_base_Before.okN (n : Nat) : ∀ {ap0_2 : Option Addr} {zp0_3 : Nat} {ap1_2 : Option Addr} {zp1_3 : Nat} {p0_0 : List Int} {p1_0 : List Int} {F : FZ} {r : Bool} (h : fixN (fun self (x : List Int × List Int) => g_base_Before.F self x.1 x.2) n (p0_0, p1_0) = some r) (hp0_4 : Frz (elI .i64 3) F ap0_2 zp0_3 p0_0) (hp1_4 : Frz (elI .i64 3) F ap1_2 zp1_3 p1_0),
    Cl EV 46 [.slice ap0_2 p0_0.length zp0_3, .slice ap1_2 p1_0.length zp1_3] [] F (fun v S' F' => F = F' ∧ v = .bool r ∧ S' = []) := by
  induction n with
  | zero => intros; rename_i h _; cases ‹fixN _ 0 _ = some _›
  | succ n ih =>
  intro ap0_2 zp0_3 ap1_2 zp1_3 p0_0 p1_0 F r h hp0_4 hp1_4
  refine Cl.of Tryz.func46 rfl (fun _ _ => rfl) (by kernel_rfl) fun s L nx0 hS => ?_
  replace h : g_base_Before.F (fixN (fun self (x : List Int × List Int) => g_base_Before.F self x.1 x.2) n) p0_0 p1_0 = some r := h
  generalize hself : fixN (fun self (x : List Int × List Int) => g_base_Before.F self x.1 x.2) n = self at h ih
  unfold g_base_Before.F at h
  refine WW.seq ?_
  refine WW.region ?_
  refine q_pu hS (wn rfl) rfl rfl rfl (v := .bool false) (aop_assign (hS.lk rfl)) fun s hS => ?_
  refine KW.nil ?_
  refine WW.seq ?_
  refine WW.seq ?_
  refine WW.region ?_
  refine q_pu hS (wn rfl) rfl rfl rfl (v := .slice ap0_2 p0_0.length zp0_3) (aop_move (hS.lk rfl)) fun s hS => ?_
  refine q_pu hS (wn rfl) rfl rfl rfl (v := .int .i64 (p0_0.length : Int)) (aop_lenSl rfl rfl tu23 (hS.lk rfl)) fun s hS => ?_
  refine q_pu hS (wn rfl) rfl rfl rfl (v := .bool ((p0_0.length : Int) == 0)) (aop_int (hS.lk rfl) (hS.lk rfl) rfl) fun s hS => ?_
  refine q_pu hS (wn rfl) rfl rfl rfl (v := .bool ((p0_0.length : Int) == 0)) (aop_move (hS.lk rfl)) fun s hS => ?_
  refine q_cut 4 (fun s => Stt EV s [(12, .bool (((p0_0.length : Int) == 0) || ((p1_0.length : Int) == 0))), (0, .slice ap0_2 p0_0.length zp0_3), (1, .slice ap1_2 p1_0.length zp1_3), (4, .bool false)] [] F L F nx0) ?_ fun s hS => ?_
  ·
    rcases bool_cases (((p0_0.length : Int) == 0)) with hcj | hcj
    ·
      replace hS := hS.know (t := 7) rfl (congrArg Value.bool hcj)
      replace hS := hS.know (t := 8) rfl (congrArg Value.bool hcj)
      refine q_no hS (wf hS rfl rfl rfl rfl) rfl fun s hS => ?_
      refine q_no hS (wf hS rfl rfl rfl rfl) rfl fun s hS => ?_
      refine q_no hS (wf hS rfl rfl rfl rfl) rfl fun s hS => ?_
      refine q_pu hS (wn rfl) rfl rfl rfl (v := .bool true) (aop_pickT (hS.lk rfl) (hS.lk rfl)) fun s hS => ?_
      refine KW.nil ?_
      exact (hS.know (t := 12) (u' := .bool (((p0_0.length : Int) == 0) || ((p1_0.length : Int) == 0))) rfl (jn_or_t hcj)).sub (.c rfl (.c rfl (.c rfl (.c rfl .n))))
    ·
      replace hS := hS.know (t := 7) rfl (congrArg Value.bool hcj)
      replace hS := hS.know (t := 8) rfl (congrArg Value.bool hcj)
      refine q_pu hS (wt hS rfl rfl rfl rfl) rfl rfl rfl (v := .slice ap1_2 p1_0.length zp1_3) (aop_move (hS.lk rfl)) fun s hS => ?_
      refine q_pu hS (wt hS rfl rfl rfl rfl) rfl rfl rfl (v := .int .i64 (p1_0.length : Int)) (aop_lenSl rfl rfl tu23 (hS.lk rfl)) fun s hS => ?_
      refine q_pu hS (wt hS rfl rfl rfl rfl) rfl rfl rfl (v := .bool ((p1_0.length : Int) == 0)) (aop_int (hS.lk rfl) (hS.lk rfl) rfl) fun s hS => ?_
      refine q_pu hS (wn rfl) rfl rfl rfl (v := .bool ((p1_0.length : Int) == 0)) (aop_pickF (hS.lk rfl) (hS.lk rfl)) fun s hS => ?_
      refine KW.nil ?_
      exact (hS.know (t := 12) (u' := .bool (((p0_0.length : Int) == 0) || ((p1_0.length : Int) == 0))) rfl (jn_or_f hcj)).sub (.c rfl (.c rfl (.c rfl (.c rfl .n))))
  refine KW.nil ?_
  rcases bool_cases ((((p0_0.length : Int) == 0) || ((p1_0.length : Int) == 0))) with hc1 | hc1
  · rw [ite_t hc1] at h
    replace hS := hS.know (t := 12) rfl (congrArg Value.bool hc1)
    refine WW.condK hS rfl rfl ?_
    refine WW.seq ?_
    refine WW.region ?_
    refine q_pu hS (wn rfl) rfl rfl rfl (v := .slice ap0_2 p0_0.length zp0_3) (aop_move (hS.lk rfl)) fun s hS => ?_
    refine q_pu hS (wn rfl) rfl rfl rfl (v := .int .i64 (p0_0.length : Int)) (aop_lenSl rfl rfl tu23 (hS.lk rfl)) fun s hS => ?_
    refine q_pu hS (wn rfl) rfl rfl rfl (v := .slice ap1_2 p1_0.length zp1_3) (aop_move (hS.lk rfl)) fun s hS => ?_
    refine q_pu hS (wn rfl) rfl rfl rfl (v := .int .i64 (p1_0.length : Int)) (aop_lenSl rfl rfl tu23 (hS.lk rfl)) fun s hS => ?_
    refine q_pu hS (wn rfl) rfl rfl rfl (v := .bool (decide ((p0_0.length : Int) < (p1_0.length : Int)))) (aop_int (hS.lk rfl) (hS.lk rfl) rfl) fun s hS => ?_
    refine q_pu hS (wn rfl) rfl rfl rfl (v := .bool (decide ((p0_0.length : Int) < (p1_0.length : Int)))) (aop_assign (hS.lk rfl)) fun s hS => ?_
    refine KW.nil ?_
    refine WW.ret ?_
    have hres := (res_tmp hS (t := 4) (v := .bool (decide ((p0_0.length : Int) < (p1_0.length : Int)))) rfl (res_nil (E := EV) (s := s)))
    obtain rfl := Option.some.inj h
    exact fin hS (.inr rfl) hres (v := .bool (decide ((p0_0.length : Int) < (p1_0.length : Int)))) rfl ⟨rfl, rfl, rfl⟩
  · rw [ite_f hc1] at h
    replace hS := hS.know (t := 12) rfl (congrArg Value.bool hc1)
    refine WW.condF hS rfl rfl ?_
    refine WW.skip ?_
    refine WW.seq ?_
    refine WW.regionD (i := [[], [], [], [2, 1, 0], [2, 1, 0], [2, 1, 0], [], [], [], [], [], [10, 9, 8], [10, 9, 8], [10, 9, 8], [], [], [], [], [17, 16], [17, 16], [], [], [], []]) (by kernel_rfl) ?_
    have hq := RS.start []
    refine K.pu hS hq rfl (wn rfl) rfl rfl rfl (v := .slice ap0_2 p0_0.length zp0_3) (aop_move (hS.lk rfl)) fun s rs hS hq => ?_
    obtain ⟨hk2, h⟩ := ite_some h
    obtain ⟨i8, of9, rfl⟩ := Frz.addr hp0_4 (by omega)
    obtain ⟨_, _, _, _, c3, hF10, hR4, hN5, hN6, hT7⟩ := Frz.at hp0_4 hk2 (m := 1) rfl
    obtain rfl := hR4
    refine K.pu hS hq rfl (wn rfl) rfl rfl rfl (v := .pointer (some ⟨i8, of9 + ((0 : Int)).toNat * 1, none⟩)) (aop_ia (hS.lk rfl) (hS.lk rfl) te23 hk2) fun s rs hS hq => ?_
    replace hq := hq.more i8 rfl rfl rfl
    refine K.ld hS hq rfl (wn rfl) rfl rfl rfl (hS.fat hF10) tg3 (v := .int .i64 (gt p0_0 (0 : Int))) hN5 0 rfl rfl fun s rs hS hq => ?_
    refine K.pu hS hq rfl (wn rfl) rfl rfl rfl (v := .slice ap1_2 p1_0.length zp1_3) (aop_move (hS.lk rfl)) fun s rs hS hq => ?_
    obtain ⟨hk11, h⟩ := ite_some h
    obtain ⟨i17, of18, rfl⟩ := Frz.addr hp1_4 (by omega)
    obtain ⟨_, _, _, _, c12, hF19, hR13, hN14, hN15, hT16⟩ := Frz.at hp1_4 hk11 (m := 1) rfl
    obtain rfl := hR13
    refine K.pu hS hq rfl (wn rfl) rfl rfl rfl (v := .pointer (some ⟨i17, of18 + ((0 : Int)).toNat * 1, none⟩)) (aop_ia (hS.lk rfl) (hS.lk rfl) te23 hk11) fun s rs hS hq => ?_
    replace hq := hq.more i17 rfl rfl rfl
    refine K.ld hS hq rfl (wn rfl) rfl rfl rfl (hS.fat hF19) tg3 (v := .int .i64 (gt p1_0 (0 : Int))) hN14 1 rfl rfl fun s rs hS hq => ?_
    refine K.pu hS hq rfl (wn rfl) rfl rfl rfl (v := .bool (decide ((gt p0_0 (0 : Int)) < (gt p1_0 (0 : Int))))) (aop_int (hS.lk rfl) (hS.lk rfl) rfl) fun s rs hS hq => ?_
    refine K.pu hS hq rfl (wn rfl) rfl rfl rfl (v := .bool (decide ((gt p0_0 (0 : Int)) < (gt p1_0 (0 : Int))))) (aop_move (hS.lk rfl)) fun s rs hS hq => ?_
    rcases bool_cases ((decide ((gt p0_0 (0 : Int)) < (gt p1_0 (0 : Int))))) with hc20 | hc20
    · rw [ite_t hc20] at h
      replace hS := hS.know (t := 24) rfl (congrArg Value.bool hc20)
      replace hS := hS.know (t := 25) rfl (congrArg Value.bool hc20)
      refine K.no hS hq rfl (wf hS rfl rfl rfl rfl) rfl fun s rs hS hq => ?_
      refine K.no hS hq rfl (wf hS rfl rfl rfl rfl) rfl fun s rs hS hq => ?_
      refine K.no hS hq rfl (wf hS rfl rfl rfl rfl) rfl fun s rs hS hq => ?_
      refine K.no hS hq rfl (wf hS rfl rfl rfl rfl) rfl fun s rs hS hq => ?_
      refine K.no hS hq rfl (wf hS rfl rfl rfl rfl) rfl fun s rs hS hq => ?_
      refine K.no hS hq rfl (wf hS rfl rfl rfl rfl) rfl fun s rs hS hq => ?_
      refine K.no hS hq rfl (wf hS rfl rfl rfl rfl) rfl fun s rs hS hq => ?_
      refine K.no hS hq rfl (wf hS rfl rfl rfl rfl) rfl fun s rs hS hq => ?_
      refine K.no hS hq rfl (wu hS rfl rfl rfl) rfl fun s rs hS hq => ?_
      refine K.no hS hq rfl (wu hS rfl rfl rfl) rfl fun s rs hS hq => ?_
      refine K.no hS hq rfl (wu hS rfl rfl rfl) rfl fun s rs hS hq => ?_
      refine K.no hS hq rfl (wu hS rfl rfl rfl) rfl fun s rs hS hq => ?_
      refine K.no hS hq rfl (wu hS rfl rfl rfl) rfl fun s rs hS hq => ?_
      refine K.no hS hq rfl (wf hS rfl rfl rfl rfl) rfl fun s rs hS hq => ?_
      refine K.pu hS hq rfl (wn rfl) rfl rfl rfl (v := .bool true) (aop_pickT (hS.lk rfl) (hS.lk rfl)) fun s rs hS hq => ?_
      refine K.pu hS hq rfl (wn rfl) rfl rfl rfl (v := .bool true) (aop_assign (hS.lk rfl)) fun s rs hS hq => ?_
      refine KW.nil ?_
      refine WW.ret ?_
      have hres := (res_tmp hS (t := 4) (v := .bool true) rfl (res_nil (E := EV) (s := s)))
      obtain rfl := Option.some.inj h
      exact fin hS (.inr rfl) hres (v := .bool true) rfl ⟨rfl, rfl, rfl⟩
    · rw [ite_f hc20] at h
      replace hS := hS.know (t := 24) rfl (congrArg Value.bool hc20)
      replace hS := hS.know (t := 25) rfl (congrArg Value.bool hc20)
      refine K.pu hS hq rfl (wt hS rfl rfl rfl rfl) rfl rfl rfl (v := .slice (some ⟨i8, of9, none⟩) p0_0.length zp0_3) (aop_move (hS.lk rfl)) fun s rs hS hq => ?_
      obtain ⟨hk21, h⟩ := ite_some h
      obtain ⟨_, _, _, _, c22, hF27, hR23, hN24, hN25, hT26⟩ := Frz.at hp0_4 hk21 (m := 1) rfl
      obtain rfl := hR23
      refine K.pu hS hq rfl (wt hS rfl rfl rfl rfl) rfl rfl rfl (v := .pointer (some ⟨i8, of9 + ((0 : Int)).toNat * 1, none⟩)) (aop_ia (hS.lk rfl) (hS.lk rfl) te23 hk21) fun s rs hS hq => ?_
      refine K.ld hS hq rfl (wt hS rfl rfl rfl rfl) rfl rfl rfl (hS.fat hF27) tg3 (v := .int .i64 (gt p0_0 (0 : Int))) hN24 0 rfl rfl fun s rs hS hq => ?_
      refine K.pu hS hq rfl (wt hS rfl rfl rfl rfl) rfl rfl rfl (v := .slice (some ⟨i17, of18, none⟩) p1_0.length zp1_3) (aop_move (hS.lk rfl)) fun s rs hS hq => ?_
      obtain ⟨hk28, h⟩ := ite_some h
      obtain ⟨_, _, _, _, c29, hF34, hR30, hN31, hN32, hT33⟩ := Frz.at hp1_4 hk28 (m := 1) rfl
      obtain rfl := hR30
      refine K.pu hS hq rfl (wt hS rfl rfl rfl rfl) rfl rfl rfl (v := .pointer (some ⟨i17, of18 + ((0 : Int)).toNat * 1, none⟩)) (aop_ia (hS.lk rfl) (hS.lk rfl) te23 hk28) fun s rs hS hq => ?_
      refine K.ld hS hq rfl (wt hS rfl rfl rfl rfl) rfl rfl rfl (hS.fat hF34) tg3 (v := .int .i64 (gt p1_0 (0 : Int))) hN31 1 rfl rfl fun s rs hS hq => ?_
      refine K.pu hS hq rfl (wt hS rfl rfl rfl rfl) rfl rfl rfl (v := .bool ((gt p0_0 (0 : Int)) == (gt p1_0 (0 : Int)))) (aop_int (hS.lk rfl) (hS.lk rfl) rfl) fun s rs hS hq => ?_
      refine K.pu hS hq rfl (wt hS rfl rfl rfl rfl) rfl rfl rfl (v := .bool ((gt p0_0 (0 : Int)) == (gt p1_0 (0 : Int)))) (aop_move (hS.lk rfl)) fun s rs hS hq => ?_
      rcases bool_cases (((gt p0_0 (0 : Int)) == (gt p1_0 (0 : Int)))) with hc35 | hc35
      · rw [ite_t hc35] at h
        replace hS := hS.know (t := 32) rfl (congrArg Value.bool hc35)
        replace hS := hS.know (t := 33) rfl (congrArg Value.bool hc35)
        refine K.pu hS hq rfl (wt hS rfl rfl rfl rfl) rfl rfl rfl (v := .slice (some ⟨i8, of9, none⟩) p0_0.length zp0_3) (aop_move (hS.lk rfl)) fun s rs hS hq => ?_
        obtain ⟨hk36, h⟩ := ite_some h
        obtain ⟨a37, he38, hz39⟩ := Frz.slice hp0_4 hk36 (m := 1) rfl
        refine K.pu hS hq rfl (wt hS rfl rfl rfl rfl) rfl rfl rfl (v := .slice a37 (mid p0_0 (1 : Int) (p0_0.length : Int)).length zp0_3) (aop_slSl te23 (hS.lk rfl) (i := (1 : Int)) (h := (p0_0.length : Int)) (bnd_eq hS rfl) rfl he38) fun s rs hS hq => ?_
        refine K.pu hS hq rfl (wt hS rfl rfl rfl rfl) rfl rfl rfl (v := .slice (some ⟨i17, of18, none⟩) p1_0.length zp1_3) (aop_move (hS.lk rfl)) fun s rs hS hq => ?_
        obtain ⟨hk40, h⟩ := ite_some h
        obtain ⟨a41, he42, hz43⟩ := Frz.slice hp1_4 hk40 (m := 1) rfl
        refine K.pu hS hq rfl (wt hS rfl rfl rfl rfl) rfl rfl rfl (v := .slice a41 (mid p1_0 (1 : Int) (p1_0.length : Int)).length zp1_3) (aop_slSl te23 (hS.lk rfl) (i := (1 : Int)) (h := (p1_0.length : Int)) (bnd_eq hS rfl) rfl he42) fun s rs hS hq => ?_
        obtain ⟨y44, hy44, h⟩ := bind_some h
        refine K.cl hS hq rfl (wt hS rfl rfl rfl rfl) (vs := [.slice a37 (mid p0_0 (1 : Int) (p0_0.length : Int)).length zp0_3, .slice a41 (mid p1_0 (1 : Int) (p1_0.length : Int)).length zp1_3]) (ws := [.slice a37 (mid p0_0 (1 : Int) (p0_0.length : Int)).length zp0_3, .slice a41 (mid p1_0 (1 : Int) (p1_0.length : Int)).length zp1_3]) rfl rfl rfl rfl rfl 0 rfl (ih hy44 hz39 hz43)  [0, 1] rfl rfl (aw_f rfl hF27 (aw_f rfl hF34 aw_n)) fun s rs v S' F' hp45 hF hS hq => ?_
        obtain ⟨rfl, rfl, rfl⟩ := hp45
        refine K.pu hS hq rfl (wt hS rfl rfl rfl rfl) rfl rfl rfl (v := .bool y44) (aop_pickT (hS.lk rfl) (hS.lk rfl)) fun s rs hS hq => ?_
        refine K.pu hS hq rfl (wn rfl) rfl rfl rfl (v := .bool y44) (aop_pickF (hS.lk rfl) (hS.lk rfl)) fun s rs hS hq => ?_
        refine K.pu hS hq rfl (wn rfl) rfl rfl rfl (v := .bool y44) (aop_assign (hS.lk rfl)) fun s rs hS hq => ?_
        refine KW.nil ?_
        refine WW.ret ?_
        have hres := (res_tmp hS (t := 4) (v := .bool y44) rfl (res_nil (E := EV) (s := s)))
        obtain rfl := Option.some.inj h
        exact fin hS (.inr rfl) hres (v := .bool y44) rfl ⟨rfl, rfl, rfl⟩
      · rw [ite_f hc35] at h
        replace hS := hS.know (t := 32) rfl (congrArg Value.bool hc35)
        replace hS := hS.know (t := 33) rfl (congrArg Value.bool hc35)
        refine K.no hS hq rfl (wf hS rfl rfl rfl rfl) rfl fun s rs hS hq => ?_
        refine K.no hS hq rfl (wf hS rfl rfl rfl rfl) rfl fun s rs hS hq => ?_
        refine K.no hS hq rfl (wf hS rfl rfl rfl rfl) rfl fun s rs hS hq => ?_
        refine K.no hS hq rfl (wf hS rfl rfl rfl rfl) rfl fun s rs hS hq => ?_
        refine K.no hS hq rfl (wf hS rfl rfl rfl rfl) rfl fun s rs hS hq => ?_
        refine K.pu hS hq rfl (wt hS rfl rfl rfl rfl) rfl rfl rfl (v := .bool false) (aop_pickF (hS.lk rfl) (hS.lk rfl)) fun s rs hS hq => ?_
        refine K.pu hS hq rfl (wn rfl) rfl rfl rfl (v := .bool false) (aop_pickF (hS.lk rfl) (hS.lk rfl)) fun s rs hS hq => ?_
        refine K.pu hS hq rfl (wn rfl) rfl rfl rfl (v := .bool false) (aop_assign (hS.lk rfl)) fun s rs hS hq => ?_
        refine KW.nil ?_
        refine WW.ret ?_
        have hres := (res_tmp hS (t := 4) (v := .bool false) rfl (res_nil (E := EV) (s := s)))
        obtain rfl := Option.some.inj h
        exact fin hS (.inr rfl) hres (v := .bool false) rfl ⟨rfl, rfl, rfl⟩
theorem g_base_Before.ok {ap0_2 : Option Addr} {zp0_3 : Nat} {ap1_2 : Option Addr} {zp1_3 : Nat} {p0_0 : List Int} {p1_0 : List Int} {F : FZ} {r : Bool} (h : g_base_Before.f p0_0 p1_0 = some r) (hp0_4 : Frz (elI .i64 3) F ap0_2 zp0_3 p0_0) (hp1_4 : Frz (elI .i64 3) F ap1_2 zp1_3 p1_0) :
    Cl EV 46 [.slice ap0_2 p0_0.length zp0_3, .slice ap1_2 p1_0.length zp1_3] [] F (fun v S' F' => F = F' ∧ v = .bool r ∧ S' = []) := by
  obtain ⟨n, hn⟩ := fixO_some h
  exact g_base_Before.okN n hn hp0_4 hp1_4
/-! ### formulary/formularybase.Ints (15) -/
noncomputable def g_base_Ints.f (p0_0 : List Int) (p1_0 : List Int) : Option (Bool) :=
  Option.bind ((if ((p0_0.length : Int) == (p1_0.length : Int)) then Option.bind (g_base_Before.f p0_0 p1_0) fun y3 => some (!y3) else some false)) fun z1 => Option.bind ((if z1 then Option.bind (g_base_Before.f p1_0 p0_0) fun y7 => some (!y7) else some false)) fun z5 => some z5
set_option maxHeartbeats 4000000 in
theorem g_base_Ints.ok {ap0_2 : Option Addr} {zp0_3 : Nat} {ap1_2 : Option Addr} {zp1_3 : Nat} {p0_0 : List Int} {p1_0 : List Int} {F : FZ} {r : Bool} (h : g_base_Ints.f p0_0 p1_0 = some r) (hp0_4 : Frz (elI .i64 3) F ap0_2 zp0_3 p0_0) (hp1_4 : Frz (elI .i64 3) F ap1_2 zp1_3 p1_0) :
    Cl EV 15 [.slice ap0_2 p0_0.length zp0_3, .slice ap1_2 p1_0.length zp1_3] [] F (fun v S' F' => F = F' ∧ v = .bool r ∧ S' = []) := by
  refine Cl.of Tryz.func15 rfl (fun _ _ => rfl) (by kernel_rfl) fun s L nx0 hS => ?_
  unfold g_base_Ints.f at h
  refine WW.seq ?_
  refine WW.region ?_
  refine q_pu hS (wn rfl) rfl rfl rfl (v := .bool false) (aop_assign (hS.lk rfl)) fun s hS => ?_
  refine KW.nil ?_
  refine WW.seq ?_
  refine WW.region ?_
  refine q_pu hS (wn rfl) rfl rfl rfl (v := .slice ap0_2 p0_0.length zp0_3) (aop_move (hS.lk rfl)) fun s hS => ?_
  refine q_pu hS (wn rfl) rfl rfl rfl (v := .int .i64 (p0_0.length : Int)) (aop_lenSl rfl rfl tu23 (hS.lk rfl)) fun s hS => ?_
  refine q_pu hS (wn rfl) rfl rfl rfl (v := .slice ap1_2 p1_0.length zp1_3) (aop_move (hS.lk rfl)) fun s hS => ?_
  refine q_pu hS (wn rfl) rfl rfl rfl (v := .int .i64 (p1_0.length : Int)) (aop_lenSl rfl rfl tu23 (hS.lk rfl)) fun s hS => ?_
  refine q_pu hS (wn rfl) rfl rfl rfl (v := .bool ((p0_0.length : Int) == (p1_0.length : Int))) (aop_int (hS.lk rfl) (hS.lk rfl) rfl) fun s hS => ?_
  refine q_pu hS (wn rfl) rfl rfl rfl (v := .bool ((p0_0.length : Int) == (p1_0.length : Int))) (aop_move (hS.lk rfl)) fun s hS => ?_
  obtain ⟨z1, hz1, h⟩ := bind_some h
  refine q_cut 5 (fun s => Stt EV s [(15, .bool z1), (0, .slice ap0_2 p0_0.length zp0_3), (1, .slice ap1_2 p1_0.length zp1_3), (4, .bool false)] [] F L F nx0) ?_ fun s hS => ?_
  ·
    rcases bool_cases (((p0_0.length : Int) == (p1_0.length : Int))) with hc2 | hc2
    · rw [ite_t hc2] at hz1
      replace hS := hS.know (t := 9) rfl (congrArg Value.bool hc2)
      replace hS := hS.know (t := 10) rfl (congrArg Value.bool hc2)
      refine q_pu hS (wt hS rfl rfl rfl rfl) rfl rfl rfl (v := .slice ap0_2 p0_0.length zp0_3) (aop_move (hS.lk rfl)) fun s hS => ?_
      refine q_pu hS (wt hS rfl rfl rfl rfl) rfl rfl rfl (v := .slice ap1_2 p1_0.length zp1_3) (aop_move (hS.lk rfl)) fun s hS => ?_
      obtain ⟨y3, hy3, hz1⟩ := bind_some hz1
      refine q_cl hS (wt hS rfl rfl rfl rfl) (vs := [.slice ap0_2 p0_0.length zp0_3, .slice ap1_2 p1_0.length zp1_3]) (ws := [.slice ap0_2 p0_0.length zp0_3, .slice ap1_2 p1_0.length zp1_3]) rfl rfl rfl rfl rfl 0 rfl (g_base_Before.ok hy3 hp0_4 hp1_4) fun s v S' F' hp4 hF hS => ?_
      obtain ⟨rfl, rfl, rfl⟩ := hp4
      refine q_pu hS (wt hS rfl rfl rfl rfl) rfl rfl rfl (v := .bool (!y3)) (aop_not (hS.lk rfl)) fun s hS => ?_
      refine q_pu hS (wn rfl) rfl rfl rfl (v := .bool (!y3)) (aop_pickT (hS.lk rfl) (hS.lk rfl)) fun s hS => ?_
      refine KW.nil ?_
      obtain rfl := Option.some.inj hz1
      exact hS.sub (.c rfl (.c rfl (.c rfl (.c rfl .n))))
    · rw [ite_f hc2] at hz1
      replace hS := hS.know (t := 9) rfl (congrArg Value.bool hc2)
      replace hS := hS.know (t := 10) rfl (congrArg Value.bool hc2)
      refine q_no hS (wf hS rfl rfl rfl rfl) rfl fun s hS => ?_
      refine q_no hS (wf hS rfl rfl rfl rfl) rfl fun s hS => ?_
      refine q_no hS (wf hS rfl rfl rfl rfl) rfl fun s hS => ?_
      refine q_no hS (wf hS rfl rfl rfl rfl) rfl fun s hS => ?_
      refine q_pu hS (wn rfl) rfl rfl rfl (v := .bool false) (aop_pickF (hS.lk rfl) (hS.lk rfl)) fun s hS => ?_
      refine KW.nil ?_
      obtain rfl := Option.some.inj hz1
      exact hS.sub (.c rfl (.c rfl (.c rfl (.c rfl .n))))
  refine q_pu hS (wn rfl) rfl rfl rfl (v := .bool z1) (aop_move (hS.lk rfl)) fun s hS => ?_
  obtain ⟨z5, hz5, h⟩ := bind_some h
  refine q_cut 5 (fun s => Stt EV s [(21, .bool z5), (4, .bool false)] [] F L F nx0) ?_ fun s hS => ?_
  ·
    rcases bool_cases (z1) with hc6 | hc6
    · rw [ite_t hc6] at hz5
      replace hS := hS.know (t := 15) rfl (congrArg Value.bool hc6)
      replace hS := hS.know (t := 16) rfl (congrArg Value.bool hc6)
      refine q_pu hS (wt hS rfl rfl rfl rfl) rfl rfl rfl (v := .slice ap1_2 p1_0.length zp1_3) (aop_move (hS.lk rfl)) fun s hS => ?_
      refine q_pu hS (wt hS rfl rfl rfl rfl) rfl rfl rfl (v := .slice ap0_2 p0_0.length zp0_3) (aop_move (hS.lk rfl)) fun s hS => ?_
      obtain ⟨y7, hy7, hz5⟩ := bind_some hz5
      refine q_cl hS (wt hS rfl rfl rfl rfl) (vs := [.slice ap1_2 p1_0.length zp1_3, .slice ap0_2 p0_0.length zp0_3]) (ws := [.slice ap1_2 p1_0.length zp1_3, .slice ap0_2 p0_0.length zp0_3]) rfl rfl rfl rfl rfl 0 rfl (g_base_Before.ok hy7 hp1_4 hp0_4) fun s v S' F' hp8 hF hS => ?_
      obtain ⟨rfl, rfl, rfl⟩ := hp8
      refine q_pu hS (wt hS rfl rfl rfl rfl) rfl rfl rfl (v := .bool (!y7)) (aop_not (hS.lk rfl)) fun s hS => ?_
      refine q_pu hS (wn rfl) rfl rfl rfl (v := .bool (!y7)) (aop_pickT (hS.lk rfl) (hS.lk rfl)) fun s hS => ?_
      refine KW.nil ?_
      obtain rfl := Option.some.inj hz5
      exact hS.sub (.c rfl (.c rfl .n))
    · rw [ite_f hc6] at hz5
      replace hS := hS.know (t := 15) rfl (congrArg Value.bool hc6)
      replace hS := hS.know (t := 16) rfl (congrArg Value.bool hc6)
      refine q_no hS (wf hS rfl rfl rfl rfl) rfl fun s hS => ?_
      refine q_no hS (wf hS rfl rfl rfl rfl) rfl fun s hS => ?_
      refine q_no hS (wf hS rfl rfl rfl rfl) rfl fun s hS => ?_
      refine q_no hS (wf hS rfl rfl rfl rfl) rfl fun s hS => ?_
      refine q_pu hS (wn rfl) rfl rfl rfl (v := .bool false) (aop_pickF (hS.lk rfl) (hS.lk rfl)) fun s hS => ?_
      refine KW.nil ?_
      obtain rfl := Option.some.inj hz5
      exact hS.sub (.c rfl (.c rfl .n))
  refine q_pu hS (wn rfl) rfl rfl rfl (v := .bool z5) (aop_assign (hS.lk rfl)) fun s hS => ?_
  refine KW.nil ?_
  refine WW.ret ?_
  have hres := (res_tmp hS (t := 4) (v := .bool z5) rfl (res_nil (E := EV) (s := s)))
  obtain rfl := Option.some.inj h
  exact fin hS (.inr rfl) hres (v := .bool z5) rfl ⟨rfl, rfl, rfl⟩
/-! ### formulary/formularylaw01.SourceSqueezes (3) -/
noncomputable def g_law01_SourceSqueezes.b0 (y13 : (List (Int × Int)) × Int) (y21 : List UInt8 × List UInt8 × List Int × (List (Int × Int)) × Int) (x44 : Int) : Option ((Int) ⊕ ((Int) ⊕ (Bool))) :=
  (if (decide (x44 < (y13.1.length : Int))) then (if 0 ≤ x44 ∧ x44 < (y13.1.length : Int) then (if 0 ≤ x44 ∧ x44 < (y21.2.2.2.1.length : Int) then (if (!((((gt y13.1 x44).1) == ((gt y21.2.2.2.1 x44).1)) && (((gt y13.1 x44).2) == ((gt y21.2.2.2.1 x44).2)))) then some (.inr (.inr false)) else some (.inl (w64 (x44 + 1)))) else none) else none) else some (.inr (.inl x44)))
noncomputable def g_law01_SourceSqueezes.f (p0_0 : List UInt8) : Option (Bool) :=
  Option.bind (g_awake.f) fun y1 => (if (!y1) then some false else (if (decide ((p0_0.length : Int) > 1400)) then some true else Option.bind (g_source_Squeezed.f p0_0) fun y5 => Option.bind (g_source_ConstantsIn.f p0_0) fun y13 => Option.bind (g_ref01_Squeezed.f p0_0) fun y21 => (if ((y5.2.2 != y21.2.2.2.2) || (y13.2 != y21.2.2.2.2)) then some false else (if (y21.2.2.2.2 != 0) then some (((decide (y5.1 = [])) && ((y5.2.1.length : Int) == 0)) && ((y13.1.length : Int) == 0)) else (if (!decide (y5.1 = y21.1)) then some false else Option.bind (g_base_Ints.f y5.2.1 y21.2.2.1) fun y41 => (if ((!y41) || ((y13.1.length : Int) != (y21.2.2.2.1.length : Int))) then some false else Option.bind (iter (g_law01_SourceSqueezes.b0 y13 y21) 0) fun o45 => onSum o45 fun y70 => some true))))))
set_option maxHeartbeats 4000000 in
theorem g_law01_SourceSqueezes.ok {p0_0 : List UInt8} {F : FZ} {r : Bool} (h : g_law01_SourceSqueezes.f p0_0 = some r) (hG : Gl F) :
    Cl EV 3 [strV p0_0] [] F (fun v S' F' => FLe F F' ∧ v = .bool r ∧ S' = []) := by
  refine Cl.of Tryz.func3 rfl (fun _ _ => rfl) (by kernel_rfl) fun s L nx0 hS => ?_
  unfold g_law01_SourceSqueezes.f at h
  refine WW.seq ?_
  refine WW.region ?_
  refine q_pu hS (wn rfl) rfl rfl rfl (v := .bool false) (aop_assign (hS.lk rfl)) fun s hS => ?_
  refine KW.nil ?_
  refine WW.seq ?_
  refine WW.seq ?_
  refine WW.region ?_
  obtain ⟨y1, hy1, h⟩ := bind_some h
  refine q_cl hS (wn rfl) (vs := []) (ws := []) rfl rfl rfl rfl rfl 0 rfl (g_awake.ok hy1) fun s v S' F' hp2 hF hS => ?_
  obtain ⟨rfl, rfl, rfl⟩ := hp2
  refine q_pu hS (wn rfl) rfl rfl rfl (v := .bool (!y1)) (aop_not (hS.lk rfl)) fun s hS => ?_
  refine KW.nil ?_
  rcases bool_cases ((!y1)) with hc3 | hc3
  · rw [ite_t hc3] at h
    replace hS := hS.know (t := 11) rfl (congrArg Value.bool hc3)
    refine WW.condK hS rfl rfl ?_
    refine WW.seq ?_
    refine WW.region ?_
    refine q_pu hS (wn rfl) rfl rfl rfl (v := .bool false) (aop_assign (hS.lk rfl)) fun s hS => ?_
    refine KW.nil ?_
    refine WW.ret ?_
    have hres := (res_tmp hS (t := 2) (v := .bool false) rfl (res_nil (E := EV) (s := s)))
    obtain rfl := Option.some.inj h
    exact fin hS (.inr rfl) hres (v := .bool false) rfl ⟨(FLe.refl _), rfl, rfl⟩
  · rw [ite_f hc3] at h
    replace hS := hS.know (t := 11) rfl (congrArg Value.bool hc3)
    refine WW.condF hS rfl rfl ?_
    refine WW.skip ?_
    refine WW.seq ?_
    refine WW.seq ?_
    refine WW.region ?_
    refine q_pu hS (wn rfl) rfl rfl rfl (v := strV p0_0) (aop_move (hS.lk rfl)) fun s hS => ?_
    refine q_pu hS (wn rfl) rfl rfl rfl (v := .int .i64 (p0_0.length : Int)) (aop_lenS rfl rfl tu9 (hS.lk rfl)) fun s hS => ?_
    refine q_pu hS (wn rfl) rfl rfl rfl (v := .bool (decide ((p0_0.length : Int) > 1400))) (aop_int (hS.lk rfl) (hS.lk rfl) rfl) fun s hS => ?_
    refine KW.nil ?_
    rcases bool_cases ((decide ((p0_0.length : Int) > 1400))) with hc4 | hc4
    · rw [ite_t hc4] at h
      replace hS := hS.know (t := 14) rfl (congrArg Value.bool hc4)
      refine WW.condK hS rfl rfl ?_
      refine WW.seq ?_
      refine WW.region ?_
      refine q_pu hS (wn rfl) rfl rfl rfl (v := .bool true) (aop_assign (hS.lk rfl)) fun s hS => ?_
      refine KW.nil ?_
      refine WW.ret ?_
      have hres := (res_tmp hS (t := 2) (v := .bool true) rfl (res_nil (E := EV) (s := s)))
      obtain rfl := Option.some.inj h
      exact fin hS (.inr rfl) hres (v := .bool true) rfl ⟨(FLe.refl _), rfl, rfl⟩
    · rw [ite_f hc4] at h
      replace hS := hS.know (t := 14) rfl (congrArg Value.bool hc4)
      refine WW.condF hS rfl rfl ?_
      refine WW.skip ?_
      refine WW.seq ?_
      refine WW.region ?_
      refine q_pu hS (wn rfl) rfl rfl rfl (v := strV p0_0) (aop_move (hS.lk rfl)) fun s hS => ?_
      obtain ⟨y5, hy5, h⟩ := bind_some h
      refine q_cl hS (wn rfl) (vs := [strV p0_0]) (ws := [strV p0_0]) rfl rfl rfl rfl rfl 0 rfl (g_source_Squeezed.ok hy5 hG) fun s v S' F7 hp6 hF hS => ?_
      obtain ⟨a8, z9, B11, hF12, rfl, rfl, h10⟩ := hp6
      refine q_pu hS (wn rfl) rfl rfl rfl (v := .tuple #[strV y5.1, .slice a8 y5.2.1.length z9, .int .i64 y5.2.2]) (aop_move (hS.lk rfl)) fun s hS => ?_
      refine q_pu hS (wn rfl) rfl rfl rfl (v := strV y5.1) (aop_ext (hS.lk rfl) rfl) fun s hS => ?_
      refine q_pu hS (wn rfl) rfl rfl rfl (v := .slice a8 y5.2.1.length z9) (aop_ext (hS.lk rfl) rfl) fun s hS => ?_
      refine q_pu hS (wn rfl) rfl rfl rfl (v := .int .i64 y5.2.2) (aop_ext (hS.lk rfl) rfl) fun s hS => ?_
      refine q_pu hS (wn rfl) rfl rfl rfl (v := strV y5.1) (aop_assign (hS.lk rfl)) fun s hS => ?_
      refine q_pu hS (wn rfl) rfl rfl rfl (v := .slice a8 y5.2.1.length z9) (aop_assign (hS.lk rfl)) fun s hS => ?_
      refine q_pu hS (wn rfl) rfl rfl rfl (v := .int .i64 y5.2.2) (aop_assign (hS.lk rfl)) fun s hS => ?_
      refine KW.nil ?_
      refine WW.seq ?_
      refine WW.region ?_
      refine q_pu hS (wn rfl) rfl rfl rfl (v := strV p0_0) (aop_move (hS.lk rfl)) fun s hS => ?_
      obtain ⟨y13, hy13, h⟩ := bind_some h
      refine q_cl hS (wn rfl) (vs := [strV p0_0]) (ws := [strV p0_0]) rfl rfl rfl rfl rfl 0 rfl (g_source_ConstantsIn.ok hy13 (hG.mono hF12)) fun s v S' F15 hp14 hF hS => ?_
      obtain ⟨a16, z17, B19, hF20, rfl, rfl, h18⟩ := hp14
      refine q_pu hS (wn rfl) rfl rfl rfl (v := .tuple #[.slice a16 y13.1.length z17, .int .i64 y13.2]) (aop_move (hS.lk rfl)) fun s hS => ?_
      refine q_pu hS (wn rfl) rfl rfl rfl (v := .slice a16 y13.1.length z17) (aop_ext (hS.lk rfl) rfl) fun s hS => ?_
      refine q_pu hS (wn rfl) rfl rfl rfl (v := .int .i64 y13.2) (aop_ext (hS.lk rfl) rfl) fun s hS => ?_
      refine q_pu hS (wn rfl) rfl rfl rfl (v := .slice a16 y13.1.length z17) (aop_assign (hS.lk rfl)) fun s hS => ?_
      refine q_pu hS (wn rfl) rfl rfl rfl (v := .int .i64 y13.2) (aop_assign (hS.lk rfl)) fun s hS => ?_
      refine KW.nil ?_
      refine WW.seq ?_
      refine WW.region ?_
      refine q_pu hS (wn rfl) rfl rfl rfl (v := strV p0_0) (aop_move (hS.lk rfl)) fun s hS => ?_
      obtain ⟨y21, hy21, h⟩ := bind_some h
      refine q_cl hS (wn rfl) (vs := [strV p0_0]) (ws := [strV p0_0]) rfl rfl rfl rfl rfl 0 rfl (g_ref01_Squeezed.ok hy21) fun s v S' F' hp22 hF hS => ?_
      obtain ⟨a23, z24, B26, a27, z28, B30, rfl, rfl, rfl, h25, h29⟩ := hp22
      refine q_nw hS (wn rfl) rfl rfl rfl (v := fun i => .pointer (some ⟨i, 0, none⟩)) (b := .row [strV ([]), strV ([]), .slice none 0 0, .slice none 0 0, .int .i64 0] 31 0 true) (aop_alloc t0_31) fun s i31 hS => ?_
      refine q_sto hS (wn rfl) rfl rfl rfl rfl (p := 0) rfl tz31 rfl [strV y21.1, strV y21.2.1, .slice a23 y21.2.2.1.length z24, .slice a27 y21.2.2.2.1.length z28, .int .i64 y21.2.2.2.2] rfl fun s hS => ?_
      refine KW.nil ?_
      refine WW.seq ?_
      refine WW.seq ?_
      refine WW.region ?_
      refine q_pu hS (wn rfl) rfl rfl rfl (v := .int .i64 y5.2.2) (aop_move (hS.lk rfl)) fun s hS => ?_
      refine q_pu hS (wn rfl) rfl rfl rfl (v := .pointer (some ⟨i31, 4, none⟩)) (aop_fa (hS.lk rfl) tf31_4 rfl rfl) fun s hS => ?_
      refine q_ld hS (wn rfl) rfl rfl rfl (hS.at (k := 0) rfl) tg3 (v := .int .i64 y21.2.2.2.2) rfl fun s hS => ?_
      refine q_pu hS (wn rfl) rfl rfl rfl (v := .bool (y5.2.2 != y21.2.2.2.2)) (aop_int (hS.lk rfl) (hS.lk rfl) rfl) fun s hS => ?_
      refine q_pu hS (wn rfl) rfl rfl rfl (v := .bool (y5.2.2 != y21.2.2.2.2)) (aop_move (hS.lk rfl)) fun s hS => ?_
      refine q_cut 5 (fun s => Stt EV s [(37, .bool ((y5.2.2 != y21.2.2.2.2) || (y13.2 != y21.2.2.2.2))), (2, .bool false), (3, strV y5.1), (4, .slice a8 y5.2.1.length z9), (6, .slice a16 y13.1.length z17), (8, .pointer (some ⟨i31, 0, none⟩))] [[(i31, .row [strV y21.1, strV y21.2.1, .slice a23 y21.2.2.1.length z24, .slice a27 y21.2.2.2.1.length z28, .int .i64 y21.2.2.2.2] 31 0 true)], B26, B30, B19, B11] F15 L F nx0) ?_ fun s hS => ?_
      ·
        rcases bool_cases ((y5.2.2 != y21.2.2.2.2)) with hcj | hcj
        ·
          replace hS := hS.know (t := 31) rfl (congrArg Value.bool hcj)
          replace hS := hS.know (t := 32) rfl (congrArg Value.bool hcj)
          refine q_no hS (wf hS rfl rfl rfl rfl) rfl fun s hS => ?_
          refine q_no hS (wf hS rfl rfl rfl rfl) rfl fun s hS => ?_
          refine q_no hS (wf hS rfl rfl rfl rfl) rfl fun s hS => ?_
          refine q_no hS (wf hS rfl rfl rfl rfl) rfl fun s hS => ?_
          refine q_pu hS (wn rfl) rfl rfl rfl (v := .bool true) (aop_pickT (hS.lk rfl) (hS.lk rfl)) fun s hS => ?_
          refine KW.nil ?_
          exact (hS.know (t := 37) (u' := .bool ((y5.2.2 != y21.2.2.2.2) || (y13.2 != y21.2.2.2.2))) rfl (jn_or_t hcj)).sub (.c rfl (.c rfl (.c rfl (.c rfl (.c rfl (.c rfl .n))))))
        ·
          replace hS := hS.know (t := 31) rfl (congrArg Value.bool hcj)
          replace hS := hS.know (t := 32) rfl (congrArg Value.bool hcj)
          refine q_pu hS (wt hS rfl rfl rfl rfl) rfl rfl rfl (v := .int .i64 y13.2) (aop_move (hS.lk rfl)) fun s hS => ?_
          refine q_pu hS (wt hS rfl rfl rfl rfl) rfl rfl rfl (v := .pointer (some ⟨i31, 4, none⟩)) (aop_fa (hS.lk rfl) tf31_4 rfl rfl) fun s hS => ?_
          refine q_ld hS (wt hS rfl rfl rfl rfl) rfl rfl rfl (hS.at (k := 0) rfl) tg3 (v := .int .i64 y21.2.2.2.2) rfl fun s hS => ?_
          refine q_pu hS (wt hS rfl rfl rfl rfl) rfl rfl rfl (v := .bool (y13.2 != y21.2.2.2.2)) (aop_int (hS.lk rfl) (hS.lk rfl) rfl) fun s hS => ?_
          refine q_pu hS (wn rfl) rfl rfl rfl (v := .bool (y13.2 != y21.2.2.2.2)) (aop_pickF (hS.lk rfl) (hS.lk rfl)) fun s hS => ?_
          refine KW.nil ?_
          exact (hS.know (t := 37) (u' := .bool ((y5.2.2 != y21.2.2.2.2) || (y13.2 != y21.2.2.2.2))) rfl (jn_or_f hcj)).sub (.c rfl (.c rfl (.c rfl (.c rfl (.c rfl (.c rfl .n))))))
      refine KW.nil ?_
      rcases bool_cases (((y5.2.2 != y21.2.2.2.2) || (y13.2 != y21.2.2.2.2))) with hc32 | hc32
      · rw [ite_t hc32] at h
        replace hS := hS.know (t := 37) rfl (congrArg Value.bool hc32)
        refine WW.condK hS rfl rfl ?_
        refine WW.seq ?_
        refine WW.region ?_
        refine q_pu hS (wn rfl) rfl rfl rfl (v := .bool false) (aop_assign (hS.lk rfl)) fun s hS => ?_
        refine KW.nil ?_
        refine WW.ret ?_
        have hres := (res_tmp hS (t := 2) (v := .bool false) rfl (res_nil (E := EV) (s := s)))
        replace hS := hS.drop
        replace hS := hS.drop
        replace hS := hS.drop
        replace hS := hS.drop
        replace hS := hS.drop
        obtain rfl := Option.some.inj h
        exact fin hS (.inr rfl) hres (v := .bool false) rfl ⟨((FLe.trans hF12 hF20)), rfl, rfl⟩
      · rw [ite_f hc32] at h
        replace hS := hS.know (t := 37) rfl (congrArg Value.bool hc32)
        refine WW.condF hS rfl rfl ?_
        refine WW.skip ?_
        refine WW.seq ?_
        refine WW.seq ?_
        refine WW.region ?_
        refine q_pu hS (wn rfl) rfl rfl rfl (v := .pointer (some ⟨i31, 4, none⟩)) (aop_fa (hS.lk rfl) tf31_4 rfl rfl) fun s hS => ?_
        refine q_ld hS (wn rfl) rfl rfl rfl (hS.at (k := 0) rfl) tg3 (v := .int .i64 y21.2.2.2.2) rfl fun s hS => ?_
        refine q_pu hS (wn rfl) rfl rfl rfl (v := .bool (y21.2.2.2.2 != 0)) (aop_int (hS.lk rfl) (hS.lk rfl) rfl) fun s hS => ?_
        refine KW.nil ?_
        rcases bool_cases ((y21.2.2.2.2 != 0)) with hc33 | hc33
        · rw [ite_t hc33] at h
          replace hS := hS.know (t := 40) rfl (congrArg Value.bool hc33)
          refine WW.condK hS rfl rfl ?_
          refine WW.seq ?_
          refine WW.region ?_
          refine q_pu hS (wn rfl) rfl rfl rfl (v := strV y5.1) (aop_move (hS.lk rfl)) fun s hS => ?_
          refine q_pu hS (wn rfl) rfl rfl rfl (v := .bool (decide (y5.1 = []))) (aop_seq (hS.lk rfl) (hS.lk rfl)) fun s hS => ?_
          refine q_pu hS (wn rfl) rfl rfl rfl (v := .bool (decide (y5.1 = []))) (aop_move (hS.lk rfl)) fun s hS => ?_
          refine q_cut 4 (fun s => Stt EV s [(47, .bool ((decide (y5.1 = [])) && ((y5.2.1.length : Int) == 0))), (2, .bool false), (3, strV y5.1), (4, .slice a8 y5.2.1.length z9), (6, .slice a16 y13.1.length z17), (8, .pointer (some ⟨i31, 0, none⟩))] [[(i31, .row [strV y21.1, strV y21.2.1, .slice a23 y21.2.2.1.length z24, .slice a27 y21.2.2.2.1.length z28, .int .i64 y21.2.2.2.2] 31 0 true)], B26, B30, B19, B11] F15 L F nx0) ?_ fun s hS => ?_
          ·
            rcases bool_cases ((decide (y5.1 = []))) with hcj | hcj
            ·
              replace hS := hS.know (t := 42) rfl (congrArg Value.bool hcj)
              replace hS := hS.know (t := 43) rfl (congrArg Value.bool hcj)
              refine q_pu hS (wt hS rfl rfl rfl rfl) rfl rfl rfl (v := .slice a8 y5.2.1.length z9) (aop_move (hS.lk rfl)) fun s hS => ?_
              refine q_pu hS (wt hS rfl rfl rfl rfl) rfl rfl rfl (v := .int .i64 (y5.2.1.length : Int)) (aop_lenSl rfl rfl tu23 (hS.lk rfl)) fun s hS => ?_
              refine q_pu hS (wt hS rfl rfl rfl rfl) rfl rfl rfl (v := .bool ((y5.2.1.length : Int) == 0)) (aop_int (hS.lk rfl) (hS.lk rfl) rfl) fun s hS => ?_
              refine q_pu hS (wn rfl) rfl rfl rfl (v := .bool ((y5.2.1.length : Int) == 0)) (aop_pickT (hS.lk rfl) (hS.lk rfl)) fun s hS => ?_
              refine KW.nil ?_
              exact (hS.know (t := 47) (u' := .bool ((decide (y5.1 = [])) && ((y5.2.1.length : Int) == 0))) rfl (jn_and_t hcj)).sub (.c rfl (.c rfl (.c rfl (.c rfl (.c rfl (.c rfl .n))))))
            ·
              replace hS := hS.know (t := 42) rfl (congrArg Value.bool hcj)
              replace hS := hS.know (t := 43) rfl (congrArg Value.bool hcj)
              refine q_no hS (wf hS rfl rfl rfl rfl) rfl fun s hS => ?_
              refine q_no hS (wf hS rfl rfl rfl rfl) rfl fun s hS => ?_
              refine q_no hS (wf hS rfl rfl rfl rfl) rfl fun s hS => ?_
              refine q_pu hS (wn rfl) rfl rfl rfl (v := .bool false) (aop_pickF (hS.lk rfl) (hS.lk rfl)) fun s hS => ?_
              refine KW.nil ?_
              exact (hS.know (t := 47) (u' := .bool ((decide (y5.1 = [])) && ((y5.2.1.length : Int) == 0))) rfl (jn_and_f hcj)).sub (.c rfl (.c rfl (.c rfl (.c rfl (.c rfl (.c rfl .n))))))
          refine q_pu hS (wn rfl) rfl rfl rfl (v := .bool ((decide (y5.1 = [])) && ((y5.2.1.length : Int) == 0))) (aop_move (hS.lk rfl)) fun s hS => ?_
          refine q_cut 4 (fun s => Stt EV s [(52, .bool (((decide (y5.1 = [])) && ((y5.2.1.length : Int) == 0)) && ((y13.1.length : Int) == 0))), (2, .bool false), (3, strV y5.1), (4, .slice a8 y5.2.1.length z9), (6, .slice a16 y13.1.length z17), (8, .pointer (some ⟨i31, 0, none⟩))] [[(i31, .row [strV y21.1, strV y21.2.1, .slice a23 y21.2.2.1.length z24, .slice a27 y21.2.2.2.1.length z28, .int .i64 y21.2.2.2.2] 31 0 true)], B26, B30, B19, B11] F15 L F nx0) ?_ fun s hS => ?_
          ·
            rcases bool_cases (((decide (y5.1 = [])) && ((y5.2.1.length : Int) == 0))) with hcj | hcj
            ·
              replace hS := hS.know (t := 47) rfl (congrArg Value.bool hcj)
              replace hS := hS.know (t := 48) rfl (congrArg Value.bool hcj)
              refine q_pu hS (wt hS rfl rfl rfl rfl) rfl rfl rfl (v := .slice a16 y13.1.length z17) (aop_move (hS.lk rfl)) fun s hS => ?_
              refine q_pu hS (wt hS rfl rfl rfl rfl) rfl rfl rfl (v := .int .i64 (y13.1.length : Int)) (aop_lenSl rfl rfl tu27 (hS.lk rfl)) fun s hS => ?_
              refine q_pu hS (wt hS rfl rfl rfl rfl) rfl rfl rfl (v := .bool ((y13.1.length : Int) == 0)) (aop_int (hS.lk rfl) (hS.lk rfl) rfl) fun s hS => ?_
              refine q_pu hS (wn rfl) rfl rfl rfl (v := .bool ((y13.1.length : Int) == 0)) (aop_pickT (hS.lk rfl) (hS.lk rfl)) fun s hS => ?_
              refine KW.nil ?_
              exact (hS.know (t := 52) (u' := .bool (((decide (y5.1 = [])) && ((y5.2.1.length : Int) == 0)) && ((y13.1.length : Int) == 0))) rfl (jn_and_t hcj)).sub (.c rfl (.c rfl (.c rfl (.c rfl (.c rfl (.c rfl .n))))))
            ·
              replace hS := hS.know (t := 47) rfl (congrArg Value.bool hcj)
              replace hS := hS.know (t := 48) rfl (congrArg Value.bool hcj)
              refine q_no hS (wf hS rfl rfl rfl rfl) rfl fun s hS => ?_
              refine q_no hS (wf hS rfl rfl rfl rfl) rfl fun s hS => ?_
              refine q_no hS (wf hS rfl rfl rfl rfl) rfl fun s hS => ?_
              refine q_pu hS (wn rfl) rfl rfl rfl (v := .bool false) (aop_pickF (hS.lk rfl) (hS.lk rfl)) fun s hS => ?_
              refine KW.nil ?_
              exact (hS.know (t := 52) (u' := .bool (((decide (y5.1 = [])) && ((y5.2.1.length : Int) == 0)) && ((y13.1.length : Int) == 0))) rfl (jn_and_f hcj)).sub (.c rfl (.c rfl (.c rfl (.c rfl (.c rfl (.c rfl .n))))))
          refine q_pu hS (wn rfl) rfl rfl rfl (v := .bool (((decide (y5.1 = [])) && ((y5.2.1.length : Int) == 0)) && ((y13.1.length : Int) == 0))) (aop_assign (hS.lk rfl)) fun s hS => ?_
          refine KW.nil ?_
          refine WW.ret ?_
          have hres := (res_tmp hS (t := 2) (v := .bool (((decide (y5.1 = [])) && ((y5.2.1.length : Int) == 0)) && ((y13.1.length : Int) == 0))) rfl (res_nil (E := EV) (s := s)))
          replace hS := hS.drop
          replace hS := hS.drop
          replace hS := hS.drop
          replace hS := hS.drop
          replace hS := hS.drop
          obtain rfl := Option.some.inj h
          exact fin hS (.inr rfl) hres (v := .bool (((decide (y5.1 = [])) && ((y5.2.1.length : Int) == 0)) && ((y13.1.length : Int) == 0))) rfl ⟨((FLe.trans hF12 hF20)), rfl, rfl⟩
        · rw [ite_f hc33] at h
          replace hS := hS.know (t := 40) rfl (congrArg Value.bool hc33)
          refine WW.condF hS rfl rfl ?_
          refine WW.skip ?_
          refine WW.seq ?_
          refine WW.seq ?_
          refine WW.region ?_
          refine q_pu hS (wn rfl) rfl rfl rfl (v := strV y5.1) (aop_move (hS.lk rfl)) fun s hS => ?_
          refine q_pu hS (wn rfl) rfl rfl rfl (v := .pointer (some ⟨i31, 0, none⟩)) (aop_fa (hS.lk rfl) tf31_0 rfl rfl) fun s hS => ?_
          refine q_ld hS (wn rfl) rfl rfl rfl (hS.at (k := 0) rfl) tg9 (v := strV y21.1) rfl fun s hS => ?_
          refine q_pu hS (wn rfl) rfl rfl rfl (v := .bool (!decide (y5.1 = y21.1))) (aop_sne (hS.lk rfl) (hS.lk rfl)) fun s hS => ?_
          refine q_pu hS (wn rfl) rfl rfl rfl (v := .bool (!decide (y5.1 = y21.1))) (aop_move (hS.lk rfl)) fun s hS => ?_
          rcases bool_cases ((!decide (y5.1 = y21.1))) with hc34 | hc34
          · rw [ite_t hc34] at h
            replace hS := hS.know (t := 56) rfl (congrArg Value.bool hc34)
            replace hS := hS.know (t := 57) rfl (congrArg Value.bool hc34)
            refine q_no hS (wf hS rfl rfl rfl rfl) rfl fun s hS => ?_
            refine q_no hS (wf hS rfl rfl rfl rfl) rfl fun s hS => ?_
            refine q_no hS (wf hS rfl rfl rfl rfl) rfl fun s hS => ?_
            refine q_no hS (wf hS rfl rfl rfl rfl) rfl fun s hS => ?_
            refine q_no hS (wf hS rfl rfl rfl rfl) rfl fun s hS => ?_
            refine q_pu hS (wn rfl) rfl rfl rfl (v := .bool true) (aop_pickT (hS.lk rfl) (hS.lk rfl)) fun s hS => ?_
            refine q_pu hS (wn rfl) rfl rfl rfl (v := .bool true) (aop_move (hS.lk rfl)) fun s hS => ?_
            refine q_no hS (wf hS rfl rfl rfl rfl) rfl fun s hS => ?_
            refine q_no hS (wf hS rfl rfl rfl rfl) rfl fun s hS => ?_
            refine q_no hS (wf hS rfl rfl rfl rfl) rfl fun s hS => ?_
            refine q_no hS (wf hS rfl rfl rfl rfl) rfl fun s hS => ?_
            refine q_no hS (wf hS rfl rfl rfl rfl) rfl fun s hS => ?_
            refine q_no hS (wf hS rfl rfl rfl rfl) rfl fun s hS => ?_
            refine q_pu hS (wn rfl) rfl rfl rfl (v := .bool true) (aop_pickT (hS.lk rfl) (hS.lk rfl)) fun s hS => ?_
            refine KW.nil ?_
            refine WW.condK hS rfl rfl ?_
            refine WW.seq ?_
            refine WW.region ?_
            refine q_pu hS (wn rfl) rfl rfl rfl (v := .bool false) (aop_assign (hS.lk rfl)) fun s hS => ?_
            refine KW.nil ?_
            refine WW.ret ?_
            have hres := (res_tmp hS (t := 2) (v := .bool false) rfl (res_nil (E := EV) (s := s)))
            replace hS := hS.drop
            replace hS := hS.drop
            replace hS := hS.drop
            replace hS := hS.drop
            replace hS := hS.drop
            obtain rfl := Option.some.inj h
            exact fin hS (.inr rfl) hres (v := .bool false) rfl ⟨((FLe.trans hF12 hF20)), rfl, rfl⟩
          · rw [ite_f hc34] at h
            replace hS := hS.know (t := 56) rfl (congrArg Value.bool hc34)
            replace hS := hS.know (t := 57) rfl (congrArg Value.bool hc34)
            refine q_pu hS (wt hS rfl rfl rfl rfl) rfl rfl rfl (v := .slice a8 y5.2.1.length z9) (aop_move (hS.lk rfl)) fun s hS => ?_
            refine q_pu hS (wt hS rfl rfl rfl rfl) rfl rfl rfl (v := .pointer (some ⟨i31, 2, none⟩)) (aop_fa (hS.lk rfl) tf31_2 rfl rfl) fun s hS => ?_
            refine q_ld hS (wt hS rfl rfl rfl rfl) rfl rfl rfl (hS.at (k := 0) rfl) tg23 (v := .slice a23 y21.2.2.1.length z24) rfl fun s hS => ?_
            replace hS := hS.pull 4
            obtain ⟨F35, hF36, hS, hz37⟩ := hS.frzO (h10.mono hF20)
            replace hS := hS.pull 1
            obtain ⟨F38, hF39, hS, hz40⟩ := hS.frzO (h25.mono hF36)
            obtain ⟨y41, hy41, h⟩ := bind_some h
            refine q_cl hS (wt hS rfl rfl rfl rfl) (vs := [.slice a8 y5.2.1.length z9, .slice a23 y21.2.2.1.length z24]) (ws := [.slice a8 y5.2.1.length z9, .slice a23 y21.2.2.1.length z24]) rfl rfl rfl rfl rfl 0 rfl (g_base_Ints.ok hy41 (hz37.mono hF39) hz40) fun s v S' F' hp42 hF hS => ?_
            obtain ⟨rfl, rfl, rfl⟩ := hp42
            refine q_pu hS (wt hS rfl rfl rfl rfl) rfl rfl rfl (v := .bool (!y41)) (aop_not (hS.lk rfl)) fun s hS => ?_
            refine q_pu hS (wn rfl) rfl rfl rfl (v := .bool (!y41)) (aop_pickF (hS.lk rfl) (hS.lk rfl)) fun s hS => ?_
            refine q_pu hS (wn rfl) rfl rfl rfl (v := .bool (!y41)) (aop_move (hS.lk rfl)) fun s hS => ?_
            refine q_cut 7 (fun s => Stt EV s [(71, .bool ((!y41) || ((y13.1.length : Int) != (y21.2.2.2.1.length : Int)))), (2, .bool false), (6, .slice a16 y13.1.length z17), (8, .pointer (some ⟨i31, 0, none⟩))] [[(i31, .row [strV y21.1, strV y21.2.1, .slice a23 y21.2.2.1.length z24, .slice a27 y21.2.2.2.1.length z28, .int .i64 y21.2.2.2.2] 31 0 true)], B30, B19] F38 L F nx0) ?_ fun s hS => ?_
            ·
              rcases bool_cases ((!y41)) with hcj | hcj
              ·
                replace hS := hS.know (t := 62) rfl (congrArg Value.bool hcj)
                replace hS := hS.know (t := 63) rfl (congrArg Value.bool hcj)
                replace hS := hS.know (t := 64) rfl (congrArg Value.bool hcj)
                refine q_no hS (wf hS rfl rfl rfl rfl) rfl fun s hS => ?_
                refine q_no hS (wf hS rfl rfl rfl rfl) rfl fun s hS => ?_
                refine q_no hS (wf hS rfl rfl rfl rfl) rfl fun s hS => ?_
                refine q_no hS (wf hS rfl rfl rfl rfl) rfl fun s hS => ?_
                refine q_no hS (wf hS rfl rfl rfl rfl) rfl fun s hS => ?_
                refine q_no hS (wf hS rfl rfl rfl rfl) rfl fun s hS => ?_
                refine q_pu hS (wn rfl) rfl rfl rfl (v := .bool true) (aop_pickT (hS.lk rfl) (hS.lk rfl)) fun s hS => ?_
                refine KW.nil ?_
                exact (hS.know (t := 71) (u' := .bool ((!y41) || ((y13.1.length : Int) != (y21.2.2.2.1.length : Int)))) rfl (jn_or_t hcj)).sub (.c rfl (.c rfl (.c rfl (.c rfl .n))))
              ·
                replace hS := hS.know (t := 62) rfl (congrArg Value.bool hcj)
                replace hS := hS.know (t := 63) rfl (congrArg Value.bool hcj)
                replace hS := hS.know (t := 64) rfl (congrArg Value.bool hcj)
                refine q_pu hS (wt hS rfl rfl rfl rfl) rfl rfl rfl (v := .slice a16 y13.1.length z17) (aop_move (hS.lk rfl)) fun s hS => ?_
                refine q_pu hS (wt hS rfl rfl rfl rfl) rfl rfl rfl (v := .int .i64 (y13.1.length : Int)) (aop_lenSl rfl rfl tu27 (hS.lk rfl)) fun s hS => ?_
                refine q_pu hS (wt hS rfl rfl rfl rfl) rfl rfl rfl (v := .pointer (some ⟨i31, 3, none⟩)) (aop_fa (hS.lk rfl) tf31_3 rfl rfl) fun s hS => ?_
                refine q_ld hS (wt hS rfl rfl rfl rfl) rfl rfl rfl (hS.at (k := 0) rfl) tg27 (v := .slice a27 y21.2.2.2.1.length z28) rfl fun s hS => ?_
                refine q_pu hS (wt hS rfl rfl rfl rfl) rfl rfl rfl (v := .int .i64 (y21.2.2.2.1.length : Int)) (aop_lenSl rfl rfl tu27 (hS.lk rfl)) fun s hS => ?_
                refine q_pu hS (wt hS rfl rfl rfl rfl) rfl rfl rfl (v := .bool ((y13.1.length : Int) != (y21.2.2.2.1.length : Int))) (aop_int (hS.lk rfl) (hS.lk rfl) rfl) fun s hS => ?_
                refine q_pu hS (wn rfl) rfl rfl rfl (v := .bool ((y13.1.length : Int) != (y21.2.2.2.1.length : Int))) (aop_pickF (hS.lk rfl) (hS.lk rfl)) fun s hS => ?_
                refine KW.nil ?_
                exact (hS.know (t := 71) (u' := .bool ((!y41) || ((y13.1.length : Int) != (y21.2.2.2.1.length : Int)))) rfl (jn_or_f hcj)).sub (.c rfl (.c rfl (.c rfl (.c rfl .n))))
            refine KW.nil ?_
            rcases bool_cases (((!y41) || ((y13.1.length : Int) != (y21.2.2.2.1.length : Int)))) with hc43 | hc43
            · rw [ite_t hc43] at h
              replace hS := hS.know (t := 71) rfl (congrArg Value.bool hc43)
              refine WW.condK hS rfl rfl ?_
              refine WW.seq ?_
              refine WW.region ?_
              refine q_pu hS (wn rfl) rfl rfl rfl (v := .bool false) (aop_assign (hS.lk rfl)) fun s hS => ?_
              refine KW.nil ?_
              refine WW.ret ?_
              have hres := (res_tmp hS (t := 2) (v := .bool false) rfl (res_nil (E := EV) (s := s)))
              replace hS := hS.drop
              replace hS := hS.drop
              replace hS := hS.drop
              obtain rfl := Option.some.inj h
              exact fin hS (.inr rfl) hres (v := .bool false) rfl ⟨((FLe.trans hF12 (FLe.trans hF20 (FLe.trans hF36 hF39)))), rfl, rfl⟩
            · rw [ite_f hc43] at h
              replace hS := hS.know (t := 71) rfl (congrArg Value.bool hc43)
              refine WW.condF hS rfl rfl ?_
              refine WW.skip ?_
              refine WW.seq ?_
              refine WW.seq ?_
              refine WW.region ?_
              refine q_pu hS (wn rfl) rfl rfl rfl (v := .int .i64 0) (aop_assign (hS.lk rfl)) fun s hS => ?_
              refine KW.nil ?_
              refine WW.block ?_
              obtain ⟨o45, ho45, h⟩ := bind_some h
              refine WW.loop (LW.iter ho45 (fun (x44 : Int) s => Stt EV s [(2, .bool false), (6, .slice a16 y13.1.length z17), (8, .pointer (some ⟨i31, 0, none⟩)), (9, .int .i64 x44)] [[(i31, .row [strV y21.1, strV y21.2.1, .slice a23 y21.2.2.1.length z24, .slice a27 y21.2.2.2.1.length z28, .int .i64 y21.2.2.2.2] 31 0 true)], B30, B19] F38 L F nx0) (fun (o : (Int) ⊕ (Bool)) e s => match o with | .inl y46 => (e = .exit 0 ∧ Stt EV s [(2, .bool false), (6, .slice a16 y13.1.length z17), (8, .pointer (some ⟨i31, 0, none⟩)), (9, .int .i64 y46)] [[(i31, .row [strV y21.1, strV y21.2.1, .slice a23 y21.2.2.1.length z24, .slice a27 y21.2.2.2.1.length z28, .int .i64 y21.2.2.2.2] 31 0 true)], B30, B19] F38 L F nx0) | .inr r => (e = .ret ∧ FinQ EV Tryz.f3 L F nx0 (fun v S' F' => FLe F F' ∧ v = .bool r ∧ S' = []) e s)) (hS.sub (.c rfl (.c rfl (.c rfl (.c rfl .n))))) ?_ ?_)
              · clear hS
                rintro x44 s hS o45' h47
                unfold g_law01_SourceSqueezes.b0 at h47
                refine WW.seq ?_
                refine WW.seq ?_
                refine WW.region ?_
                refine q_pu hS (wn rfl) rfl rfl rfl (v := .int .i64 x44) (aop_move (hS.lk rfl)) fun s hS => ?_
                refine q_pu hS (wn rfl) rfl rfl rfl (v := .slice a16 y13.1.length z17) (aop_move (hS.lk rfl)) fun s hS => ?_
                refine q_pu hS (wn rfl) rfl rfl rfl (v := .int .i64 (y13.1.length : Int)) (aop_lenSl rfl rfl tu27 (hS.lk rfl)) fun s hS => ?_
                refine q_pu hS (wn rfl) rfl rfl rfl (v := .bool (decide (x44 < (y13.1.length : Int)))) (aop_int (hS.lk rfl) (hS.lk rfl) rfl) fun s hS => ?_
                refine KW.nil ?_
                rcases bool_cases ((decide (x44 < (y13.1.length : Int)))) with hc48 | hc48
                · rw [ite_t hc48] at h47
                  replace hS := hS.know (t := 75) rfl (congrArg Value.bool hc48)
                  refine WW.condK hS rfl rfl ?_
                  refine WW.skip ?_
                  refine WW.seq ?_
                  refine WW.block ?_
                  refine WW.seq ?_
                  refine WW.regionD (i := [[], [0], [], [], [3, 2, 1, 0], [3, 2, 1, 0], [5, 4, 3, 2, 1, 0], [3, 2, 1, 0], [3, 2, 1, 0], []]) (by kernel_rfl) ?_
                  have hq := RS.start [i31]
                  refine K.pu hS hq rfl (wn rfl) rfl rfl rfl (v := .slice a16 y13.1.length z17) (aop_move (hS.lk rfl)) fun s rs hS hq => ?_
                  refine K.pu hS hq rfl (wn rfl) rfl rfl rfl (v := .int .i64 x44) (aop_move (hS.lk rfl)) fun s rs hS hq => ?_
                  obtain ⟨hk49, h47⟩ := ite_some h47
                  obtain ⟨i55, cs56, ex57, rfl, rfl, rfl, hC58⟩ := Own.some_ h18 (by omega)
                  obtain ⟨c50, hR51, hN53, hN52, hT54⟩ := Cells.loadF (hC58.mono (FLe.trans hF36 hF39)) ex57 hk49 (z := 2) rfl
                  obtain rfl := hR51
                  refine K.pu hS hq rfl (wn rfl) rfl rfl rfl (v := .pointer (some ⟨i55, 0 + (x44).toNat * 2, none⟩)) (aop_ia (hS.lk rfl) (hS.lk rfl) te27 hk49) fun s rs hS hq => ?_
                  replace hq := hq.more i55 rfl rfl rfl
                  refine K.ldA hS hq rfl (wn rfl) rfl rfl rfl (hS.at (k := 2) rfl) tg34 tz34 (vs := [.int .i64 ((gt y13.1 x44).1), .int .i64 ((gt y13.1 x44).2)]) hT54 1 rfl rfl fun s rs hS hq => ?_
                  refine K.pu hS hq rfl (wn rfl) rfl rfl rfl (v := .pointer (some ⟨i31, 3, none⟩)) (aop_fa (hS.lk rfl) tf31_3 rfl rfl) fun s rs hS hq => ?_
                  refine K.ld hS hq rfl (wn rfl) rfl rfl rfl (hS.at (k := 0) rfl) tg27 (v := .slice a27 y21.2.2.2.1.length z28) rfl 0 rfl rfl fun s rs hS hq => ?_
                  refine K.pu hS hq rfl (wn rfl) rfl rfl rfl (v := .int .i64 x44) (aop_move (hS.lk rfl)) fun s rs hS hq => ?_
                  obtain ⟨hk59, h47⟩ := ite_some h47
                  obtain ⟨i65, cs66, ex67, rfl, rfl, rfl, hC68⟩ := Own.some_ h29 (by omega)
                  obtain ⟨c60, hR61, hN63, hN62, hT64⟩ := Cells.loadF (hC68.mono (FLe.trans hF36 hF39)) ex67 hk59 (z := 2) rfl
                  obtain rfl := hR61
                  refine K.pu hS hq rfl (wn rfl) rfl rfl rfl (v := .pointer (some ⟨i65, 0 + (x44).toNat * 2, none⟩)) (aop_ia (hS.lk rfl) (hS.lk rfl) te27 hk59) fun s rs hS hq => ?_
                  replace hq := hq.more i65 rfl rfl rfl
                  refine K.ldA hS hq rfl (wn rfl) rfl rfl rfl (hS.at (k := 1) rfl) tg34 tz34 (vs := [.int .i64 ((gt y21.2.2.2.1 x44).1), .int .i64 ((gt y21.2.2.2.1 x44).2)]) hT64 2 rfl rfl fun s rs hS hq => ?_
                  refine K.pu hS hq rfl (wn rfl) rfl rfl rfl (v := .bool (!((((gt y13.1 x44).1) == ((gt y21.2.2.2.1 x44).1)) && (((gt y13.1 x44).2) == ((gt y21.2.2.2.1 x44).2))))) (ta34 (hS.lk rfl) (hS.lk rfl)) fun s rs hS hq => ?_
                  refine KW.nil ?_
                  rcases bool_cases ((!((((gt y13.1 x44).1) == ((gt y21.2.2.2.1 x44).1)) && (((gt y13.1 x44).2) == ((gt y21.2.2.2.1 x44).2))))) with hc69 | hc69
                  · rw [ite_t hc69] at h47
                    replace hS := hS.know (t := 87) rfl (congrArg Value.bool hc69)
                    refine WW.condK hS rfl rfl ?_
                    refine WW.seq ?_
                    refine WW.region ?_
                    refine q_pu hS (wn rfl) rfl rfl rfl (v := .bool false) (aop_assign (hS.lk rfl)) fun s hS => ?_
                    refine KW.nil ?_
                    refine WW.ret ?_
                    have hres := (res_tmp hS (t := 2) (v := .bool false) rfl (res_nil (E := EV) (s := s)))
                    replace hS := hS.drop
                    replace hS := hS.drop
                    replace hS := hS.drop
                    obtain rfl := Option.some.inj h47
                    exact ⟨_, rfl, rfl, fin hS (.inr rfl) hres (v := .bool false) rfl ⟨((FLe.trans hF12 (FLe.trans hF20 (FLe.trans hF36 hF39)))), rfl, rfl⟩⟩
                  · rw [ite_f hc69] at h47
                    replace hS := hS.know (t := 87) rfl (congrArg Value.bool hc69)
                    refine WW.condF hS rfl rfl ?_
                    refine WW.skip ?_
                    refine WW.region ?_
                    refine q_pu hS (wn rfl) rfl rfl rfl (v := .int .i64 x44) (aop_move (hS.lk rfl)) fun s hS => ?_
                    refine q_pu hS (wn rfl) rfl rfl rfl (v := .int .i64 (w64 (x44 + 1))) (aop_int (hS.lk rfl) (hS.lk rfl) rfl) fun s hS => ?_
                    refine q_pu hS (wn rfl) rfl rfl rfl (v := .int .i64 (w64 (x44 + 1))) (aop_assign (hS.lk rfl)) fun s hS => ?_
                    refine KW.nil ?_
                    obtain rfl := Option.some.inj h47
                    exact ⟨_, rfl, (hS.sub (.c rfl (.c rfl (.c rfl (.c rfl .n)))))⟩
                · rw [ite_f hc48] at h47
                  replace hS := hS.know (t := 75) rfl (congrArg Value.bool hc48)
                  refine WW.condF hS rfl rfl ?_
                  refine WW.exit ?_
                  refine thenQ_exit ?_
                  obtain rfl := Option.some.inj h47
                  exact ⟨_, rfl, rfl, (hS.sub (.c rfl (.c rfl (.c rfl (.c rfl .n)))))⟩
              · clear hS
                rcases o45 with y70 | y70
                · rintro e s ⟨rfl, hS⟩
                  replace h := match_inl h
                  refine blockQ_exit ?_
                  refine WW.seq ?_
                  refine WW.region ?_
                  refine q_pu hS (wn rfl) rfl rfl rfl (v := .bool true) (aop_assign (hS.lk rfl)) fun s hS => ?_
                  refine KW.nil ?_
                  refine WW.ret ?_
                  have hres := (res_tmp hS (t := 2) (v := .bool true) rfl (res_nil (E := EV) (s := s)))
                  replace hS := hS.drop
                  replace hS := hS.drop
                  replace hS := hS.drop
                  obtain rfl := Option.some.inj h
                  exact fin hS (.inr rfl) hres (v := .bool true) rfl ⟨((FLe.trans hF12 (FLe.trans hF20 (FLe.trans hF36 hF39)))), rfl, rfl⟩
                · rintro e s ⟨rfl, hfin⟩
                  replace h := match_inr h
                  obtain rfl := Option.some.inj h
                  exact hfin
/-! ### formulary/formularylaw01.SourceAgain (4) -/
noncomputable def g_law01_SourceAgain.b1 (p0_0 : List UInt8) (y5 : List UInt8 × List Int × Int) (x39 : Int × Int) (x89 : Int) : Option ((Int) ⊕ ((Int) ⊕ (Bool))) :=
  (if 0 ≤ x39.2 ∧ x39.2 < (y5.2.1.length : Int) then (if (decide (x89 < (gt y5.2.1 x39.2))) then (if 0 ≤ x89 ∧ x89 < (p0_0.length : Int) then (if (((gt p0_0 x89).toNat : Int) != ((32 : UInt8).toNat : Int)) then some (.inr (.inr false)) else some (.inl (w64 (x89 + 1)))) else none) else some (.inr (.inl x89))) else none)
noncomputable def g_law01_SourceAgain.b0 (p0_0 : List UInt8) (y5 : List UInt8 × List Int × Int) (y22 : List UInt8 × List Int × Int) (x39 : Int × Int) : Option ((Int × Int) ⊕ ((Int × Int) ⊕ (Bool))) :=
  (if (decide (x39.2 < (y5.1.length : Int))) then (if 0 ≤ x39.2 ∧ x39.2 < (y5.2.1.length : Int) then Option.bind ((if (decide ((gt y5.2.1 x39.2) ≤ x39.1)) then some true else (if 0 ≤ x39.2 ∧ x39.2 < (y5.2.1.length : Int) then some (decide ((gt y5.2.1 x39.2) ≥ (p0_0.length : Int))) else none))) fun z54 => Option.bind ((if z54 then some true else (if 0 ≤ x39.2 ∧ x39.2 < (y22.2.1.length : Int) then some ((gt y22.2.1 x39.2) != x39.2) else none))) fun z62 => (if z62 then some (.inr (.inr false)) else (if 0 ≤ x39.2 ∧ x39.2 < (y5.2.1.length : Int) then (if 0 ≤ (gt y5.2.1 x39.2) ∧ (gt y5.2.1 x39.2) < (p0_0.length : Int) then (if 0 ≤ x39.2 ∧ x39.2 < (y5.1.length : Int) then Option.bind ((if (((gt p0_0 (gt y5.2.1 x39.2)).toNat : Int) != ((gt y5.1 x39.2).toNat : Int)) then Option.bind ((if ((decide (((gt p0_0 (gt y5.2.1 x39.2)).toNat : Int) < ((97 : UInt8).toNat : Int))) || (decide (((gt p0_0 (gt y5.2.1 x39.2)).toNat : Int) > ((122 : UInt8).toNat : Int)))) then some true else (if 0 ≤ x39.2 ∧ x39.2 < (y5.1.length : Int) then some ((((gt p0_0 (gt y5.2.1 x39.2)) - 32).toNat : Int) != ((gt y5.1 x39.2).toNat : Int)) else none))) fun z85 => some z85 else some false)) fun z83 => (if z83 then some (.inr (.inr false)) else Option.bind (iter (g_law01_SourceAgain.b1 p0_0 y5 x39) (w64 (x39.1 + 1))) fun o90 => onSum2 o90 (fun r => some (.inr (.inr r))) fun y102 => (if 0 ≤ x39.2 ∧ x39.2 < (y5.2.1.length : Int) then some (.inl ((gt y5.2.1 x39.2), (w64 (x39.2 + 1)))) else none)) else none) else none) else none)) else none) else some (.inr (.inl (x39.1, x39.2))))
noncomputable def g_law01_SourceAgain.b2 (p0_0 : List UInt8) (x110 : Int) : Option ((Int) ⊕ ((Int) ⊕ (Bool))) :=
  (if (decide (x110 < (p0_0.length : Int))) then (if 0 ≤ x110 ∧ x110 < (p0_0.length : Int) then (if (((gt p0_0 x110).toNat : Int) != ((32 : UInt8).toNat : Int)) then some (.inr (.inr false)) else some (.inl (w64 (x110 + 1)))) else none) else some (.inr (.inl x110)))
noncomputable def g_law01_SourceAgain.f (p0_0 : List UInt8) : Option (Bool) :=
  Option.bind (g_awake.f) fun y1 => (if (!y1) then some false else (if (decide ((p0_0.length : Int) > 1320)) then some true else Option.bind (g_source_Squeezed.f p0_0) fun y5 => (if (y5.2.2 != 0) then some true else Option.bind (g_source_ConstantsIn.f p0_0) fun y14 => Option.bind (g_source_Squeezed.f y5.1) fun y22 => Option.bind (g_source_ConstantsIn.f y5.1) fun y30 => (if (((((((y14.2 != 0) || (y22.2.2 != 0)) || (y30.2 != 0)) || (!decide (y22.1 = y5.1))) || ((y5.2.1.length : Int) != (y5.1.length : Int))) || ((y22.2.1.length : Int) != (y5.1.length : Int))) || ((y14.1.length : Int) != (y30.1.length : Int))) then some false else Option.bind (iter (g_law01_SourceAgain.b0 p0_0 y5 y22) ((-1), 0)) fun o40 => onSum o40 fun y109 => Option.bind (iter (g_law01_SourceAgain.b2 p0_0) (w64 (y109.1 + 1))) fun o111 => onSum o111 fun y117 => some true))))
set_option maxHeartbeats 4000000 in
theorem g_law01_SourceAgain.ok {p0_0 : List UInt8} {F : FZ} {r : Bool} (h : g_law01_SourceAgain.f p0_0 = some r) (hG : Gl F) :
    Cl EV 4 [strV p0_0] [] F (fun v S' F' => FLe F F' ∧ v = .bool r ∧ S' = []) := by
  refine Cl.of Tryz.func4 rfl (fun _ _ => rfl) (by kernel_rfl) fun s L nx0 hS => ?_
  unfold g_law01_SourceAgain.f at h
  refine WW.seq ?_
  refine WW.region ?_
  refine q_pu hS (wn rfl) rfl rfl rfl (v := .bool false) (aop_assign (hS.lk rfl)) fun s hS => ?_
  refine KW.nil ?_
  refine WW.seq ?_
  refine WW.seq ?_
  refine WW.region ?_
  obtain ⟨y1, hy1, h⟩ := bind_some h
  refine q_cl hS (wn rfl) (vs := []) (ws := []) rfl rfl rfl rfl rfl 0 rfl (g_awake.ok hy1) fun s v S' F' hp2 hF hS => ?_
  obtain ⟨rfl, rfl, rfl⟩ := hp2
  refine q_pu hS (wn rfl) rfl rfl rfl (v := .bool (!y1)) (aop_not (hS.lk rfl)) fun s hS => ?_
  refine KW.nil ?_
  rcases bool_cases ((!y1)) with hc3 | hc3
  · rw [ite_t hc3] at h
    replace hS := hS.know (t := 19) rfl (congrArg Value.bool hc3)
    refine WW.condK hS rfl rfl ?_
    refine WW.seq ?_
    refine WW.region ?_
    refine q_pu hS (wn rfl) rfl rfl rfl (v := .bool false) (aop_assign (hS.lk rfl)) fun s hS => ?_
    refine KW.nil ?_
    refine WW.ret ?_
    have hres := (res_tmp hS (t := 2) (v := .bool false) rfl (res_nil (E := EV) (s := s)))
    obtain rfl := Option.some.inj h
    exact fin hS (.inr rfl) hres (v := .bool false) rfl ⟨(FLe.refl _), rfl, rfl⟩
  · rw [ite_f hc3] at h
    replace hS := hS.know (t := 19) rfl (congrArg Value.bool hc3)
    refine WW.condF hS rfl rfl ?_
    refine WW.skip ?_
    refine WW.seq ?_
    refine WW.seq ?_
    refine WW.region ?_
    refine q_pu hS (wn rfl) rfl rfl rfl (v := strV p0_0) (aop_move (hS.lk rfl)) fun s hS => ?_
    refine q_pu hS (wn rfl) rfl rfl rfl (v := .int .i64 (p0_0.length : Int)) (aop_lenS rfl rfl tu9 (hS.lk rfl)) fun s hS => ?_
    refine q_pu hS (wn rfl) rfl rfl rfl (v := .bool (decide ((p0_0.length : Int) > 1320))) (aop_int (hS.lk rfl) (hS.lk rfl) rfl) fun s hS => ?_
    refine KW.nil ?_
    rcases bool_cases ((decide ((p0_0.length : Int) > 1320))) with hc4 | hc4
    · rw [ite_t hc4] at h
      replace hS := hS.know (t := 22) rfl (congrArg Value.bool hc4)
      refine WW.condK hS rfl rfl ?_
      refine WW.seq ?_
      refine WW.region ?_
      refine q_pu hS (wn rfl) rfl rfl rfl (v := .bool true) (aop_assign (hS.lk rfl)) fun s hS => ?_
      refine KW.nil ?_
      refine WW.ret ?_
      have hres := (res_tmp hS (t := 2) (v := .bool true) rfl (res_nil (E := EV) (s := s)))
      obtain rfl := Option.some.inj h
      exact fin hS (.inr rfl) hres (v := .bool true) rfl ⟨(FLe.refl _), rfl, rfl⟩
    · rw [ite_f hc4] at h
      replace hS := hS.know (t := 22) rfl (congrArg Value.bool hc4)
      refine WW.condF hS rfl rfl ?_
      refine WW.skip ?_
      refine WW.seq ?_
      refine WW.region ?_
      refine q_pu hS (wn rfl) rfl rfl rfl (v := strV p0_0) (aop_move (hS.lk rfl)) fun s hS => ?_
      obtain ⟨y5, hy5, h⟩ := bind_some h
      refine q_cl hS (wn rfl) (vs := [strV p0_0]) (ws := [strV p0_0]) rfl rfl rfl rfl rfl 0 rfl (g_source_Squeezed.ok hy5 hG) fun s v S' F7 hp6 hF hS => ?_
      obtain ⟨a8, z9, B11, hF12, rfl, rfl, h10⟩ := hp6
      refine q_pu hS (wn rfl) rfl rfl rfl (v := .tuple #[strV y5.1, .slice a8 y5.2.1.length z9, .int .i64 y5.2.2]) (aop_move (hS.lk rfl)) fun s hS => ?_
      refine q_pu hS (wn rfl) rfl rfl rfl (v := strV y5.1) (aop_ext (hS.lk rfl) rfl) fun s hS => ?_
      refine q_pu hS (wn rfl) rfl rfl rfl (v := .slice a8 y5.2.1.length z9) (aop_ext (hS.lk rfl) rfl) fun s hS => ?_
      refine q_pu hS (wn rfl) rfl rfl rfl (v := .int .i64 y5.2.2) (aop_ext (hS.lk rfl) rfl) fun s hS => ?_
      refine q_pu hS (wn rfl) rfl rfl rfl (v := strV y5.1) (aop_assign (hS.lk rfl)) fun s hS => ?_
      refine q_pu hS (wn rfl) rfl rfl rfl (v := .slice a8 y5.2.1.length z9) (aop_assign (hS.lk rfl)) fun s hS => ?_
      refine q_pu hS (wn rfl) rfl rfl rfl (v := .int .i64 y5.2.2) (aop_assign (hS.lk rfl)) fun s hS => ?_
      refine KW.nil ?_
      refine WW.seq ?_
      refine WW.seq ?_
      refine WW.region ?_
      refine q_pu hS (wn rfl) rfl rfl rfl (v := .int .i64 y5.2.2) (aop_move (hS.lk rfl)) fun s hS => ?_
      refine q_pu hS (wn rfl) rfl rfl rfl (v := .bool (y5.2.2 != 0)) (aop_int (hS.lk rfl) (hS.lk rfl) rfl) fun s hS => ?_
      refine KW.nil ?_
      rcases bool_cases ((y5.2.2 != 0)) with hc13 | hc13
      · rw [ite_t hc13] at h
        replace hS := hS.know (t := 30) rfl (congrArg Value.bool hc13)
        refine WW.condK hS rfl rfl ?_
        refine WW.seq ?_
        refine WW.region ?_
        refine q_pu hS (wn rfl) rfl rfl rfl (v := .bool true) (aop_assign (hS.lk rfl)) fun s hS => ?_
        refine KW.nil ?_
        refine WW.ret ?_
        have hres := (res_tmp hS (t := 2) (v := .bool true) rfl (res_nil (E := EV) (s := s)))
        replace hS := hS.drop
        obtain rfl := Option.some.inj h
        exact fin hS (.inr rfl) hres (v := .bool true) rfl ⟨(hF12), rfl, rfl⟩
      · rw [ite_f hc13] at h
        replace hS := hS.know (t := 30) rfl (congrArg Value.bool hc13)
        refine WW.condF hS rfl rfl ?_
        refine WW.skip ?_
        refine WW.seq ?_
        refine WW.region ?_
        refine q_pu hS (wn rfl) rfl rfl rfl (v := strV p0_0) (aop_move (hS.lk rfl)) fun s hS => ?_
        obtain ⟨y14, hy14, h⟩ := bind_some h
        refine q_cl hS (wn rfl) (vs := [strV p0_0]) (ws := [strV p0_0]) rfl rfl rfl rfl rfl 0 rfl (g_source_ConstantsIn.ok hy14 (hG.mono hF12)) fun s v S' F16 hp15 hF hS => ?_
        obtain ⟨a17, z18, B20, hF21, rfl, rfl, h19⟩ := hp15
        refine q_pu hS (wn rfl) rfl rfl rfl (v := .tuple #[.slice a17 y14.1.length z18, .int .i64 y14.2]) (aop_move (hS.lk rfl)) fun s hS => ?_
        refine q_pu hS (wn rfl) rfl rfl rfl (v := .slice a17 y14.1.length z18) (aop_ext (hS.lk rfl) rfl) fun s hS => ?_
        refine q_pu hS (wn rfl) rfl rfl rfl (v := .int .i64 y14.2) (aop_ext (hS.lk rfl) rfl) fun s hS => ?_
        refine q_pu hS (wn rfl) rfl rfl rfl (v := .slice a17 y14.1.length z18) (aop_assign (hS.lk rfl)) fun s hS => ?_
        refine q_pu hS (wn rfl) rfl rfl rfl (v := .int .i64 y14.2) (aop_assign (hS.lk rfl)) fun s hS => ?_
        refine KW.nil ?_
        refine WW.seq ?_
        refine WW.region ?_
        refine q_pu hS (wn rfl) rfl rfl rfl (v := strV y5.1) (aop_move (hS.lk rfl)) fun s hS => ?_
        obtain ⟨y22, hy22, h⟩ := bind_some h
        refine q_cl hS (wn rfl) (vs := [strV y5.1]) (ws := [strV y5.1]) rfl rfl rfl rfl rfl 0 rfl (g_source_Squeezed.ok hy22 (hG.mono (FLe.trans hF12 hF21))) fun s v S' F24 hp23 hF hS => ?_
        obtain ⟨a25, z26, B28, hF29, rfl, rfl, h27⟩ := hp23
        refine q_pu hS (wn rfl) rfl rfl rfl (v := .tuple #[strV y22.1, .slice a25 y22.2.1.length z26, .int .i64 y22.2.2]) (aop_move (hS.lk rfl)) fun s hS => ?_
        refine q_pu hS (wn rfl) rfl rfl rfl (v := strV y22.1) (aop_ext (hS.lk rfl) rfl) fun s hS => ?_
        refine q_pu hS (wn rfl) rfl rfl rfl (v := .slice a25 y22.2.1.length z26) (aop_ext (hS.lk rfl) rfl) fun s hS => ?_
        refine q_pu hS (wn rfl) rfl rfl rfl (v := .int .i64 y22.2.2) (aop_ext (hS.lk rfl) rfl) fun s hS => ?_
        refine q_pu hS (wn rfl) rfl rfl rfl (v := strV y22.1) (aop_assign (hS.lk rfl)) fun s hS => ?_
        refine q_pu hS (wn rfl) rfl rfl rfl (v := .slice a25 y22.2.1.length z26) (aop_assign (hS.lk rfl)) fun s hS => ?_
        refine q_pu hS (wn rfl) rfl rfl rfl (v := .int .i64 y22.2.2) (aop_assign (hS.lk rfl)) fun s hS => ?_
        refine KW.nil ?_
        refine WW.seq ?_
        refine WW.region ?_
        refine q_pu hS (wn rfl) rfl rfl rfl (v := strV y5.1) (aop_move (hS.lk rfl)) fun s hS => ?_
        obtain ⟨y30, hy30, h⟩ := bind_some h
        refine q_cl hS (wn rfl) (vs := [strV y5.1]) (ws := [strV y5.1]) rfl rfl rfl rfl rfl 0 rfl (g_source_ConstantsIn.ok hy30 (hG.mono (FLe.trans hF12 (FLe.trans hF21 hF29)))) fun s v S' F32 hp31 hF hS => ?_
        obtain ⟨a33, z34, B36, hF37, rfl, rfl, h35⟩ := hp31
        refine q_pu hS (wn rfl) rfl rfl rfl (v := .tuple #[.slice a33 y30.1.length z34, .int .i64 y30.2]) (aop_move (hS.lk rfl)) fun s hS => ?_
        refine q_pu hS (wn rfl) rfl rfl rfl (v := .slice a33 y30.1.length z34) (aop_ext (hS.lk rfl) rfl) fun s hS => ?_
        refine q_pu hS (wn rfl) rfl rfl rfl (v := .int .i64 y30.2) (aop_ext (hS.lk rfl) rfl) fun s hS => ?_
        refine q_pu hS (wn rfl) rfl rfl rfl (v := .slice a33 y30.1.length z34) (aop_assign (hS.lk rfl)) fun s hS => ?_
        refine q_pu hS (wn rfl) rfl rfl rfl (v := .int .i64 y30.2) (aop_assign (hS.lk rfl)) fun s hS => ?_
        refine KW.nil ?_
        refine WW.seq ?_
        refine WW.seq ?_
        refine WW.region ?_
        refine q_pu hS (wn rfl) rfl rfl rfl (v := .int .i64 y14.2) (aop_move (hS.lk rfl)) fun s hS => ?_
        refine q_pu hS (wn rfl) rfl rfl rfl (v := .bool (y14.2 != 0)) (aop_int (hS.lk rfl) (hS.lk rfl) rfl) fun s hS => ?_
        refine q_pu hS (wn rfl) rfl rfl rfl (v := .bool (y14.2 != 0)) (aop_move (hS.lk rfl)) fun s hS => ?_
        refine q_cut 3 (fun s => Stt EV s [(52, .bool ((y14.2 != 0) || (y22.2.2 != 0))), (0, strV p0_0), (2, .bool false), (3, strV y5.1), (4, .slice a8 y5.2.1.length z9), (6, .slice a17 y14.1.length z18), (8, strV y22.1), (9, .slice a25 y22.2.1.length z26), (11, .slice a33 y30.1.length z34), (12, .int .i64 y30.2)] [B36, B28, B20, B11] F32 L F nx0) ?_ fun s hS => ?_
        ·
          rcases bool_cases ((y14.2 != 0)) with hcj | hcj
          ·
            replace hS := hS.know (t := 48) rfl (congrArg Value.bool hcj)
            replace hS := hS.know (t := 49) rfl (congrArg Value.bool hcj)
            refine q_no hS (wf hS rfl rfl rfl rfl) rfl fun s hS => ?_
            refine q_no hS (wf hS rfl rfl rfl rfl) rfl fun s hS => ?_
            refine q_pu hS (wn rfl) rfl rfl rfl (v := .bool true) (aop_pickT (hS.lk rfl) (hS.lk rfl)) fun s hS => ?_
            refine KW.nil ?_
            exact (hS.know (t := 52) (u' := .bool ((y14.2 != 0) || (y22.2.2 != 0))) rfl (jn_or_t hcj)).sub (.c rfl (.c rfl (.c rfl (.c rfl (.c rfl (.c rfl (.c rfl (.c rfl (.c rfl (.c rfl .n))))))))))
          ·
            replace hS := hS.know (t := 48) rfl (congrArg Value.bool hcj)
            replace hS := hS.know (t := 49) rfl (congrArg Value.bool hcj)
            refine q_pu hS (wt hS rfl rfl rfl rfl) rfl rfl rfl (v := .int .i64 y22.2.2) (aop_move (hS.lk rfl)) fun s hS => ?_
            refine q_pu hS (wt hS rfl rfl rfl rfl) rfl rfl rfl (v := .bool (y22.2.2 != 0)) (aop_int (hS.lk rfl) (hS.lk rfl) rfl) fun s hS => ?_
            refine q_pu hS (wn rfl) rfl rfl rfl (v := .bool (y22.2.2 != 0)) (aop_pickF (hS.lk rfl) (hS.lk rfl)) fun s hS => ?_
            refine KW.nil ?_
            exact (hS.know (t := 52) (u' := .bool ((y14.2 != 0) || (y22.2.2 != 0))) rfl (jn_or_f hcj)).sub (.c rfl (.c rfl (.c rfl (.c rfl (.c rfl (.c rfl (.c rfl (.c rfl (.c rfl (.c rfl .n))))))))))
        refine q_pu hS (wn rfl) rfl rfl rfl (v := .bool ((y14.2 != 0) || (y22.2.2 != 0))) (aop_move (hS.lk rfl)) fun s hS => ?_
        refine q_cut 3 (fun s => Stt EV s [(56, .bool (((y14.2 != 0) || (y22.2.2 != 0)) || (y30.2 != 0))), (0, strV p0_0), (2, .bool false), (3, strV y5.1), (4, .slice a8 y5.2.1.length z9), (6, .slice a17 y14.1.length z18), (8, strV y22.1), (9, .slice a25 y22.2.1.length z26), (11, .slice a33 y30.1.length z34)] [B36, B28, B20, B11] F32 L F nx0) ?_ fun s hS => ?_
        ·
          rcases bool_cases (((y14.2 != 0) || (y22.2.2 != 0))) with hcj | hcj
          ·
            replace hS := hS.know (t := 52) rfl (congrArg Value.bool hcj)
            replace hS := hS.know (t := 53) rfl (congrArg Value.bool hcj)
            refine q_no hS (wf hS rfl rfl rfl rfl) rfl fun s hS => ?_
            refine q_no hS (wf hS rfl rfl rfl rfl) rfl fun s hS => ?_
            refine q_pu hS (wn rfl) rfl rfl rfl (v := .bool true) (aop_pickT (hS.lk rfl) (hS.lk rfl)) fun s hS => ?_
            refine KW.nil ?_
            exact (hS.know (t := 56) (u' := .bool (((y14.2 != 0) || (y22.2.2 != 0)) || (y30.2 != 0))) rfl (jn_or_t hcj)).sub (.c rfl (.c rfl (.c rfl (.c rfl (.c rfl (.c rfl (.c rfl (.c rfl (.c rfl .n)))))))))
          ·
            replace hS := hS.know (t := 52) rfl (congrArg Value.bool hcj)
            replace hS := hS.know (t := 53) rfl (congrArg Value.bool hcj)
            refine q_pu hS (wt hS rfl rfl rfl rfl) rfl rfl rfl (v := .int .i64 y30.2) (aop_move (hS.lk rfl)) fun s hS => ?_
            refine q_pu hS (wt hS rfl rfl rfl rfl) rfl rfl rfl (v := .bool (y30.2 != 0)) (aop_int (hS.lk rfl) (hS.lk rfl) rfl) fun s hS => ?_
            refine q_pu hS (wn rfl) rfl rfl rfl (v := .bool (y30.2 != 0)) (aop_pickF (hS.lk rfl) (hS.lk rfl)) fun s hS => ?_
            refine KW.nil ?_
            exact (hS.know (t := 56) (u' := .bool (((y14.2 != 0) || (y22.2.2 != 0)) || (y30.2 != 0))) rfl (jn_or_f hcj)).sub (.c rfl (.c rfl (.c rfl (.c rfl (.c rfl (.c rfl (.c rfl (.c rfl (.c rfl .n)))))))))
        refine q_pu hS (wn rfl) rfl rfl rfl (v := .bool (((y14.2 != 0) || (y22.2.2 != 0)) || (y30.2 != 0))) (aop_move (hS.lk rfl)) fun s hS => ?_
        refine q_cut 4 (fun s => Stt EV s [(61, .bool ((((y14.2 != 0) || (y22.2.2 != 0)) || (y30.2 != 0)) || (!decide (y22.1 = y5.1)))), (0, strV p0_0), (2, .bool false), (3, strV y5.1), (4, .slice a8 y5.2.1.length z9), (6, .slice a17 y14.1.length z18), (9, .slice a25 y22.2.1.length z26), (11, .slice a33 y30.1.length z34)] [B36, B28, B20, B11] F32 L F nx0) ?_ fun s hS => ?_
        ·
          rcases bool_cases ((((y14.2 != 0) || (y22.2.2 != 0)) || (y30.2 != 0))) with hcj | hcj
          ·
            replace hS := hS.know (t := 56) rfl (congrArg Value.bool hcj)
            replace hS := hS.know (t := 57) rfl (congrArg Value.bool hcj)
            refine q_no hS (wf hS rfl rfl rfl rfl) rfl fun s hS => ?_
            refine q_no hS (wf hS rfl rfl rfl rfl) rfl fun s hS => ?_
            refine q_no hS (wf hS rfl rfl rfl rfl) rfl fun s hS => ?_
            refine q_pu hS (wn rfl) rfl rfl rfl (v := .bool true) (aop_pickT (hS.lk rfl) (hS.lk rfl)) fun s hS => ?_
            refine KW.nil ?_
            exact (hS.know (t := 61) (u' := .bool ((((y14.2 != 0) || (y22.2.2 != 0)) || (y30.2 != 0)) || (!decide (y22.1 = y5.1)))) rfl (jn_or_t hcj)).sub (.c rfl (.c rfl (.c rfl (.c rfl (.c rfl (.c rfl (.c rfl (.c rfl .n))))))))
          ·
            replace hS := hS.know (t := 56) rfl (congrArg Value.bool hcj)
            replace hS := hS.know (t := 57) rfl (congrArg Value.bool hcj)
            refine q_pu hS (wt hS rfl rfl rfl rfl) rfl rfl rfl (v := strV y22.1) (aop_move (hS.lk rfl)) fun s hS => ?_
            refine q_pu hS (wt hS rfl rfl rfl rfl) rfl rfl rfl (v := strV y5.1) (aop_move (hS.lk rfl)) fun s hS => ?_
            refine q_pu hS (wt hS rfl rfl rfl rfl) rfl rfl rfl (v := .bool (!decide (y22.1 = y5.1))) (aop_sne (hS.lk rfl) (hS.lk rfl)) fun s hS => ?_
            refine q_pu hS (wn rfl) rfl rfl rfl (v := .bool (!decide (y22.1 = y5.1))) (aop_pickF (hS.lk rfl) (hS.lk rfl)) fun s hS => ?_
            refine KW.nil ?_
            exact (hS.know (t := 61) (u' := .bool ((((y14.2 != 0) || (y22.2.2 != 0)) || (y30.2 != 0)) || (!decide (y22.1 = y5.1)))) rfl (jn_or_f hcj)).sub (.c rfl (.c rfl (.c rfl (.c rfl (.c rfl (.c rfl (.c rfl (.c rfl .n))))))))
        refine q_pu hS (wn rfl) rfl rfl rfl (v := .bool ((((y14.2 != 0) || (y22.2.2 != 0)) || (y30.2 != 0)) || (!decide (y22.1 = y5.1)))) (aop_move (hS.lk rfl)) fun s hS => ?_
        refine q_cut 6 (fun s => Stt EV s [(68, .bool (((((y14.2 != 0) || (y22.2.2 != 0)) || (y30.2 != 0)) || (!decide (y22.1 = y5.1))) || ((y5.2.1.length : Int) != (y5.1.length : Int)))), (0, strV p0_0), (2, .bool false), (3, strV y5.1), (4, .slice a8 y5.2.1.length z9), (6, .slice a17 y14.1.length z18), (9, .slice a25 y22.2.1.length z26), (11, .slice a33 y30.1.length z34)] [B36, B28, B20, B11] F32 L F nx0) ?_ fun s hS => ?_
        ·
          rcases bool_cases (((((y14.2 != 0) || (y22.2.2 != 0)) || (y30.2 != 0)) || (!decide (y22.1 = y5.1)))) with hcj | hcj
          ·
            replace hS := hS.know (t := 61) rfl (congrArg Value.bool hcj)
            replace hS := hS.know (t := 62) rfl (congrArg Value.bool hcj)
            refine q_no hS (wf hS rfl rfl rfl rfl) rfl fun s hS => ?_
            refine q_no hS (wf hS rfl rfl rfl rfl) rfl fun s hS => ?_
            refine q_no hS (wf hS rfl rfl rfl rfl) rfl fun s hS => ?_
            refine q_no hS (wf hS rfl rfl rfl rfl) rfl fun s hS => ?_
            refine q_no hS (wf hS rfl rfl rfl rfl) rfl fun s hS => ?_
            refine q_pu hS (wn rfl) rfl rfl rfl (v := .bool true) (aop_pickT (hS.lk rfl) (hS.lk rfl)) fun s hS => ?_
            refine KW.nil ?_
            exact (hS.know (t := 68) (u' := .bool (((((y14.2 != 0) || (y22.2.2 != 0)) || (y30.2 != 0)) || (!decide (y22.1 = y5.1))) || ((y5.2.1.length : Int) != (y5.1.length : Int)))) rfl (jn_or_t hcj)).sub (.c rfl (.c rfl (.c rfl (.c rfl (.c rfl (.c rfl (.c rfl (.c rfl .n))))))))
          ·
            replace hS := hS.know (t := 61) rfl (congrArg Value.bool hcj)
            replace hS := hS.know (t := 62) rfl (congrArg Value.bool hcj)
            refine q_pu hS (wt hS rfl rfl rfl rfl) rfl rfl rfl (v := .slice a8 y5.2.1.length z9) (aop_move (hS.lk rfl)) fun s hS => ?_
            refine q_pu hS (wt hS rfl rfl rfl rfl) rfl rfl rfl (v := .int .i64 (y5.2.1.length : Int)) (aop_lenSl rfl rfl tu23 (hS.lk rfl)) fun s hS => ?_
            refine q_pu hS (wt hS rfl rfl rfl rfl) rfl rfl rfl (v := strV y5.1) (aop_move (hS.lk rfl)) fun s hS => ?_
            refine q_pu hS (wt hS rfl rfl rfl rfl) rfl rfl rfl (v := .int .i64 (y5.1.length : Int)) (aop_lenS rfl rfl tu9 (hS.lk rfl)) fun s hS => ?_
            refine q_pu hS (wt hS rfl rfl rfl rfl) rfl rfl rfl (v := .bool ((y5.2.1.length : Int) != (y5.1.length : Int))) (aop_int (hS.lk rfl) (hS.lk rfl) rfl) fun s hS => ?_
            refine q_pu hS (wn rfl) rfl rfl rfl (v := .bool ((y5.2.1.length : Int) != (y5.1.length : Int))) (aop_pickF (hS.lk rfl) (hS.lk rfl)) fun s hS => ?_
            refine KW.nil ?_
            exact (hS.know (t := 68) (u' := .bool (((((y14.2 != 0) || (y22.2.2 != 0)) || (y30.2 != 0)) || (!decide (y22.1 = y5.1))) || ((y5.2.1.length : Int) != (y5.1.length : Int)))) rfl (jn_or_f hcj)).sub (.c rfl (.c rfl (.c rfl (.c rfl (.c rfl (.c rfl (.c rfl (.c rfl .n))))))))
        refine q_pu hS (wn rfl) rfl rfl rfl (v := .bool (((((y14.2 != 0) || (y22.2.2 != 0)) || (y30.2 != 0)) || (!decide (y22.1 = y5.1))) || ((y5.2.1.length : Int) != (y5.1.length : Int)))) (aop_move (hS.lk rfl)) fun s hS => ?_
        refine q_cut 6 (fun s => Stt EV s [(75, .bool ((((((y14.2 != 0) || (y22.2.2 != 0)) || (y30.2 != 0)) || (!decide (y22.1 = y5.1))) || ((y5.2.1.length : Int) != (y5.1.length : Int))) || ((y22.2.1.length : Int) != (y5.1.length : Int)))), (0, strV p0_0), (2, .bool false), (3, strV y5.1), (4, .slice a8 y5.2.1.length z9), (6, .slice a17 y14.1.length z18), (9, .slice a25 y22.2.1.length z26), (11, .slice a33 y30.1.length z34)] [B36, B28, B20, B11] F32 L F nx0) ?_ fun s hS => ?_
        ·
          rcases bool_cases ((((((y14.2 != 0) || (y22.2.2 != 0)) || (y30.2 != 0)) || (!decide (y22.1 = y5.1))) || ((y5.2.1.length : Int) != (y5.1.length : Int)))) with hcj | hcj
          ·
            replace hS := hS.know (t := 68) rfl (congrArg Value.bool hcj)
            replace hS := hS.know (t := 69) rfl (congrArg Value.bool hcj)
            refine q_no hS (wf hS rfl rfl rfl rfl) rfl fun s hS => ?_
            refine q_no hS (wf hS rfl rfl rfl rfl) rfl fun s hS => ?_
            refine q_no hS (wf hS rfl rfl rfl rfl) rfl fun s hS => ?_
            refine q_no hS (wf hS rfl rfl rfl rfl) rfl fun s hS => ?_
            refine q_no hS (wf hS rfl rfl rfl rfl) rfl fun s hS => ?_
            refine q_pu hS (wn rfl) rfl rfl rfl (v := .bool true) (aop_pickT (hS.lk rfl) (hS.lk rfl)) fun s hS => ?_
            refine KW.nil ?_
            exact (hS.know (t := 75) (u' := .bool ((((((y14.2 != 0) || (y22.2.2 != 0)) || (y30.2 != 0)) || (!decide (y22.1 = y5.1))) || ((y5.2.1.length : Int) != (y5.1.length : Int))) || ((y22.2.1.length : Int) != (y5.1.length : Int)))) rfl (jn_or_t hcj)).sub (.c rfl (.c rfl (.c rfl (.c rfl (.c rfl (.c rfl (.c rfl (.c rfl .n))))))))
          ·
            replace hS := hS.know (t := 68) rfl (congrArg Value.bool hcj)
            replace hS := hS.know (t := 69) rfl (congrArg Value.bool hcj)
            refine q_pu hS (wt hS rfl rfl rfl rfl) rfl rfl rfl (v := .slice a25 y22.2.1.length z26) (aop_move (hS.lk rfl)) fun s hS => ?_
            refine q_pu hS (wt hS rfl rfl rfl rfl) rfl rfl rfl (v := .int .i64 (y22.2.1.length : Int)) (aop_lenSl rfl rfl tu23 (hS.lk rfl)) fun s hS => ?_
            refine q_pu hS (wt hS rfl rfl rfl rfl) rfl rfl rfl (v := strV y5.1) (aop_move (hS.lk rfl)) fun s hS => ?_
            refine q_pu hS (wt hS rfl rfl rfl rfl) rfl rfl rfl (v := .int .i64 (y5.1.length : Int)) (aop_lenS rfl rfl tu9 (hS.lk rfl)) fun s hS => ?_
            refine q_pu hS (wt hS rfl rfl rfl rfl) rfl rfl rfl (v := .bool ((y22.2.1.length : Int) != (y5.1.length : Int))) (aop_int (hS.lk rfl) (hS.lk rfl) rfl) fun s hS => ?_
            refine q_pu hS (wn rfl) rfl rfl rfl (v := .bool ((y22.2.1.length : Int) != (y5.1.length : Int))) (aop_pickF (hS.lk rfl) (hS.lk rfl)) fun s hS => ?_
            refine KW.nil ?_
            exact (hS.know (t := 75) (u' := .bool ((((((y14.2 != 0) || (y22.2.2 != 0)) || (y30.2 != 0)) || (!decide (y22.1 = y5.1))) || ((y5.2.1.length : Int) != (y5.1.length : Int))) || ((y22.2.1.length : Int) != (y5.1.length : Int)))) rfl (jn_or_f hcj)).sub (.c rfl (.c rfl (.c rfl (.c rfl (.c rfl (.c rfl (.c rfl (.c rfl .n))))))))
        refine q_pu hS (wn rfl) rfl rfl rfl (v := .bool ((((((y14.2 != 0) || (y22.2.2 != 0)) || (y30.2 != 0)) || (!decide (y22.1 = y5.1))) || ((y5.2.1.length : Int) != (y5.1.length : Int))) || ((y22.2.1.length : Int) != (y5.1.length : Int)))) (aop_move (hS.lk rfl)) fun s hS => ?_
        refine q_cut 6 (fun s => Stt EV s [(82, .bool (((((((y14.2 != 0) || (y22.2.2 != 0)) || (y30.2 != 0)) || (!decide (y22.1 = y5.1))) || ((y5.2.1.length : Int) != (y5.1.length : Int))) || ((y22.2.1.length : Int) != (y5.1.length : Int))) || ((y14.1.length : Int) != (y30.1.length : Int)))), (0, strV p0_0), (2, .bool false), (3, strV y5.1), (4, .slice a8 y5.2.1.length z9), (9, .slice a25 y22.2.1.length z26)] [B36, B28, B20, B11] F32 L F nx0) ?_ fun s hS => ?_
        ·
          rcases bool_cases (((((((y14.2 != 0) || (y22.2.2 != 0)) || (y30.2 != 0)) || (!decide (y22.1 = y5.1))) || ((y5.2.1.length : Int) != (y5.1.length : Int))) || ((y22.2.1.length : Int) != (y5.1.length : Int)))) with hcj | hcj
          ·
            replace hS := hS.know (t := 75) rfl (congrArg Value.bool hcj)
            replace hS := hS.know (t := 76) rfl (congrArg Value.bool hcj)
            refine q_no hS (wf hS rfl rfl rfl rfl) rfl fun s hS => ?_
            refine q_no hS (wf hS rfl rfl rfl rfl) rfl fun s hS => ?_
            refine q_no hS (wf hS rfl rfl rfl rfl) rfl fun s hS => ?_
            refine q_no hS (wf hS rfl rfl rfl rfl) rfl fun s hS => ?_
            refine q_no hS (wf hS rfl rfl rfl rfl) rfl fun s hS => ?_
            refine q_pu hS (wn rfl) rfl rfl rfl (v := .bool true) (aop_pickT (hS.lk rfl) (hS.lk rfl)) fun s hS => ?_
            refine KW.nil ?_
            exact (hS.know (t := 82) (u' := .bool (((((((y14.2 != 0) || (y22.2.2 != 0)) || (y30.2 != 0)) || (!decide (y22.1 = y5.1))) || ((y5.2.1.length : Int) != (y5.1.length : Int))) || ((y22.2.1.length : Int) != (y5.1.length : Int))) || ((y14.1.length : Int) != (y30.1.length : Int)))) rfl (jn_or_t hcj)).sub (.c rfl (.c rfl (.c rfl (.c rfl (.c rfl (.c rfl .n))))))
          ·
            replace hS := hS.know (t := 75) rfl (congrArg Value.bool hcj)
            replace hS := hS.know (t := 76) rfl (congrArg Value.bool hcj)
            refine q_pu hS (wt hS rfl rfl rfl rfl) rfl rfl rfl (v := .slice a17 y14.1.length z18) (aop_move (hS.lk rfl)) fun s hS => ?_
            refine q_pu hS (wt hS rfl rfl rfl rfl) rfl rfl rfl (v := .int .i64 (y14.1.length : Int)) (aop_lenSl rfl rfl tu27 (hS.lk rfl)) fun s hS => ?_
            refine q_pu hS (wt hS rfl rfl rfl rfl) rfl rfl rfl (v := .slice a33 y30.1.length z34) (aop_move (hS.lk rfl)) fun s hS => ?_
            refine q_pu hS (wt hS rfl rfl rfl rfl) rfl rfl rfl (v := .int .i64 (y30.1.length : Int)) (aop_lenSl rfl rfl tu27 (hS.lk rfl)) fun s hS => ?_
            refine q_pu hS (wt hS rfl rfl rfl rfl) rfl rfl rfl (v := .bool ((y14.1.length : Int) != (y30.1.length : Int))) (aop_int (hS.lk rfl) (hS.lk rfl) rfl) fun s hS => ?_
            refine q_pu hS (wn rfl) rfl rfl rfl (v := .bool ((y14.1.length : Int) != (y30.1.length : Int))) (aop_pickF (hS.lk rfl) (hS.lk rfl)) fun s hS => ?_
            refine KW.nil ?_
            exact (hS.know (t := 82) (u' := .bool (((((((y14.2 != 0) || (y22.2.2 != 0)) || (y30.2 != 0)) || (!decide (y22.1 = y5.1))) || ((y5.2.1.length : Int) != (y5.1.length : Int))) || ((y22.2.1.length : Int) != (y5.1.length : Int))) || ((y14.1.length : Int) != (y30.1.length : Int)))) rfl (jn_or_f hcj)).sub (.c rfl (.c rfl (.c rfl (.c rfl (.c rfl (.c rfl .n))))))
        refine KW.nil ?_
        rcases bool_cases ((((((((y14.2 != 0) || (y22.2.2 != 0)) || (y30.2 != 0)) || (!decide (y22.1 = y5.1))) || ((y5.2.1.length : Int) != (y5.1.length : Int))) || ((y22.2.1.length : Int) != (y5.1.length : Int))) || ((y14.1.length : Int) != (y30.1.length : Int)))) with hc38 | hc38
        · rw [ite_t hc38] at h
          replace hS := hS.know (t := 82) rfl (congrArg Value.bool hc38)
          refine WW.condK hS rfl rfl ?_
          refine WW.seq ?_
          refine WW.region ?_
          refine q_pu hS (wn rfl) rfl rfl rfl (v := .bool false) (aop_assign (hS.lk rfl)) fun s hS => ?_
          refine KW.nil ?_
          refine WW.ret ?_
          have hres := (res_tmp hS (t := 2) (v := .bool false) rfl (res_nil (E := EV) (s := s)))
          replace hS := hS.drop
          replace hS := hS.drop
          replace hS := hS.drop
          replace hS := hS.drop
          obtain rfl := Option.some.inj h
          exact fin hS (.inr rfl) hres (v := .bool false) rfl ⟨((FLe.trans hF12 (FLe.trans hF21 (FLe.trans hF29 hF37)))), rfl, rfl⟩
        · rw [ite_f hc38] at h
          replace hS := hS.know (t := 82) rfl (congrArg Value.bool hc38)
          refine WW.condF hS rfl rfl ?_
          refine WW.skip ?_
          refine WW.seq ?_
          refine WW.region ?_
          refine q_pu hS (wn rfl) rfl rfl rfl (v := .int .i64 (-1)) (aop_assign (hS.lk rfl)) fun s hS => ?_
          refine KW.nil ?_
          refine WW.seq ?_
          refine WW.seq ?_
          refine WW.region ?_
          refine q_pu hS (wn rfl) rfl rfl rfl (v := .int .i64 0) (aop_assign (hS.lk rfl)) fun s hS => ?_
          refine KW.nil ?_
          refine WW.block ?_
          obtain ⟨o40, ho40, h⟩ := bind_some h
          refine WW.loop (LW.iter ho40 (fun (x39 : Int × Int) s => Stt EV s [(0, strV p0_0), (2, .bool false), (3, strV y5.1), (4, .slice a8 y5.2.1.length z9), (9, .slice a25 y22.2.1.length z26), (13, .int .i64 x39.1), (14, .int .i64 x39.2)] [B36, B28, B20, B11] F32 L F nx0) (fun (o : (Int × Int) ⊕ (Bool)) e s => match o with | .inl y41 => (e = .exit 0 ∧ Stt EV s [(0, strV p0_0), (2, .bool false), (3, strV y5.1), (4, .slice a8 y5.2.1.length z9), (9, .slice a25 y22.2.1.length z26), (13, .int .i64 y41.1), (14, .int .i64 y41.2)] [B36, B28, B20, B11] F32 L F nx0) | .inr r => (e = .ret ∧ FinQ EV Tryz.f4 L F nx0 (fun v S' F' => FLe F F' ∧ v = .bool r ∧ S' = []) e s)) (hS.sub (.c rfl (.c rfl (.c rfl (.c rfl (.c rfl (.c rfl (.c rfl .n)))))))) ?_ ?_)
          · clear hS
            rintro x39 s hS o40' h42
            unfold g_law01_SourceAgain.b0 at h42
            refine WW.seq ?_
            refine WW.seq ?_
            refine WW.region ?_
            refine q_pu hS (wn rfl) rfl rfl rfl (v := .int .i64 x39.2) (aop_move (hS.lk rfl)) fun s hS => ?_
            refine q_pu hS (wn rfl) rfl rfl rfl (v := strV y5.1) (aop_move (hS.lk rfl)) fun s hS => ?_
            refine q_pu hS (wn rfl) rfl rfl rfl (v := .int .i64 (y5.1.length : Int)) (aop_lenS rfl rfl tu9 (hS.lk rfl)) fun s hS => ?_
            refine q_pu hS (wn rfl) rfl rfl rfl (v := .bool (decide (x39.2 < (y5.1.length : Int)))) (aop_int (hS.lk rfl) (hS.lk rfl) rfl) fun s hS => ?_
            refine KW.nil ?_
            rcases bool_cases ((decide (x39.2 < (y5.1.length : Int)))) with hc43 | hc43
            · rw [ite_t hc43] at h42
              replace hS := hS.know (t := 86) rfl (congrArg Value.bool hc43)
              refine WW.condK hS rfl rfl ?_
              refine WW.skip ?_
              refine WW.seq ?_
              refine WW.block ?_
              refine WW.seq ?_
              refine WW.seq ?_
              refine WW.region ?_
              refine q_pu hS (wn rfl) rfl rfl rfl (v := .slice a8 y5.2.1.length z9) (aop_move (hS.lk rfl)) fun s hS => ?_
              refine q_pu hS (wn rfl) rfl rfl rfl (v := .int .i64 x39.2) (aop_move (hS.lk rfl)) fun s hS => ?_
              obtain ⟨hk44, h42⟩ := ite_some h42
              obtain ⟨i50, cs51, ex52, rfl, rfl, rfl, hC53⟩ := Own.some_ h10 (by omega)
              obtain ⟨c45, hR46, hN48, hN47, hT49⟩ := Cells.loadF (hC53.mono (FLe.trans hF21 (FLe.trans hF29 hF37))) ex52 hk44 (z := 1) rfl
              obtain rfl := hR46
              refine q_pu hS (wn rfl) rfl rfl rfl (v := .pointer (some ⟨i50, 0 + (x39.2).toNat * 1, none⟩)) (aop_ia (hS.lk rfl) (hS.lk rfl) te23 hk44) fun s hS => ?_
              refine q_ld hS (wn rfl) rfl rfl rfl (hS.at (k := 3) rfl) tg3 (v := .int .i64 (gt y5.2.1 x39.2)) hN47 fun s hS => ?_
              refine q_pu hS (wn rfl) rfl rfl rfl (v := .int .i64 x39.1) (aop_move (hS.lk rfl)) fun s hS => ?_
              refine q_pu hS (wn rfl) rfl rfl rfl (v := .bool (decide ((gt y5.2.1 x39.2) ≤ x39.1))) (aop_int (hS.lk rfl) (hS.lk rfl) rfl) fun s hS => ?_
              refine q_pu hS (wn rfl) rfl rfl rfl (v := .bool (decide ((gt y5.2.1 x39.2) ≤ x39.1))) (aop_move (hS.lk rfl)) fun s hS => ?_
              obtain ⟨z54, hz54, h42⟩ := bind_some h42
              refine q_cut 8 (fun s => Stt EV s [(103, .bool z54), (0, strV p0_0), (2, .bool false), (3, strV y5.1), (4, .slice (some ⟨i50, 0, none⟩) y5.2.1.length 1), (9, .slice a25 y22.2.1.length z26), (13, .int .i64 x39.1), (14, .int .i64 x39.2)] [B36, B28, B20, [(i50, .row (cs51 ++ ex52) 3 1 true)]] F32 L F nx0) ?_ fun s hS => ?_
              ·
                rcases bool_cases ((decide ((gt y5.2.1 x39.2) ≤ x39.1))) with hc55 | hc55
                · rw [ite_t hc55] at hz54
                  replace hS := hS.know (t := 94) rfl (congrArg Value.bool hc55)
                  replace hS := hS.know (t := 95) rfl (congrArg Value.bool hc55)
                  refine q_no hS (wf hS rfl rfl rfl rfl) rfl fun s hS => ?_
                  refine q_no hS (wf hS rfl rfl rfl rfl) rfl fun s hS => ?_
                  refine q_no hS (wf hS rfl rfl rfl rfl) rfl fun s hS => ?_
                  refine q_no hS (wf hS rfl rfl rfl rfl) rfl fun s hS => ?_
                  refine q_no hS (wf hS rfl rfl rfl rfl) rfl fun s hS => ?_
                  refine q_no hS (wf hS rfl rfl rfl rfl) rfl fun s hS => ?_
                  refine q_no hS (wf hS rfl rfl rfl rfl) rfl fun s hS => ?_
                  refine q_pu hS (wn rfl) rfl rfl rfl (v := .bool true) (aop_pickT (hS.lk rfl) (hS.lk rfl)) fun s hS => ?_
                  refine KW.nil ?_
                  obtain rfl := Option.some.inj hz54
                  exact hS.sub (.c rfl (.c rfl (.c rfl (.c rfl (.c rfl (.c rfl (.c rfl (.c rfl .n))))))))
                · rw [ite_f hc55] at hz54
                  replace hS := hS.know (t := 94) rfl (congrArg Value.bool hc55)
                  replace hS := hS.know (t := 95) rfl (congrArg Value.bool hc55)
                  refine q_pu hS (wt hS rfl rfl rfl rfl) rfl rfl rfl (v := .slice (some ⟨i50, 0, none⟩) y5.2.1.length 1) (aop_move (hS.lk rfl)) fun s hS => ?_
                  refine q_pu hS (wt hS rfl rfl rfl rfl) rfl rfl rfl (v := .int .i64 x39.2) (aop_move (hS.lk rfl)) fun s hS => ?_
                  obtain ⟨hk56, hz54⟩ := ite_some hz54
                  obtain ⟨c57, hR58, hN60, hN59, hT61⟩ := Cells.loadF (hC53.mono (FLe.trans hF21 (FLe.trans hF29 hF37))) ex52 hk56 (z := 1) rfl
                  obtain rfl := hR58
                  refine q_pu hS (wt hS rfl rfl rfl rfl) rfl rfl rfl (v := .pointer (some ⟨i50, 0 + (x39.2).toNat * 1, none⟩)) (aop_ia (hS.lk rfl) (hS.lk rfl) te23 hk56) fun s hS => ?_
                  refine q_ld hS (wt hS rfl rfl rfl rfl) rfl rfl rfl (hS.at (k := 3) rfl) tg3 (v := .int .i64 (gt y5.2.1 x39.2)) hN59 fun s hS => ?_
                  refine q_pu hS (wt hS rfl rfl rfl rfl) rfl rfl rfl (v := strV p0_0) (aop_move (hS.lk rfl)) fun s hS => ?_
                  refine q_pu hS (wt hS rfl rfl rfl rfl) rfl rfl rfl (v := .int .i64 (p0_0.length : Int)) (aop_lenS rfl rfl tu9 (hS.lk rfl)) fun s hS => ?_
                  refine q_pu hS (wt hS rfl rfl rfl rfl) rfl rfl rfl (v := .bool (decide ((gt y5.2.1 x39.2) ≥ (p0_0.length : Int)))) (aop_int (hS.lk rfl) (hS.lk rfl) rfl) fun s hS => ?_
                  refine q_pu hS (wn rfl) rfl rfl rfl (v := .bool (decide ((gt y5.2.1 x39.2) ≥ (p0_0.length : Int)))) (aop_pickF (hS.lk rfl) (hS.lk rfl)) fun s hS => ?_
                  refine KW.nil ?_
                  obtain rfl := Option.some.inj hz54
                  exact hS.sub (.c rfl (.c rfl (.c rfl (.c rfl (.c rfl (.c rfl (.c rfl (.c rfl .n))))))))
              refine q_pu hS (wn rfl) rfl rfl rfl (v := .bool z54) (aop_move (hS.lk rfl)) fun s hS => ?_
              obtain ⟨z62, hz62, h42⟩ := bind_some h42
              refine q_cut 7 (fun s => Stt EV s [(111, .bool z62), (0, strV p0_0), (2, .bool false), (3, strV y5.1), (4, .slice (some ⟨i50, 0, none⟩) y5.2.1.length 1), (9, .slice a25 y22.2.1.length z26), (13, .int .i64 x39.1), (14, .int .i64 x39.2)] [B36, B28, B20, [(i50, .row (cs51 ++ ex52) 3 1 true)]] F32 L F nx0) ?_ fun s hS => ?_
              ·
                rcases bool_cases (z54) with hc63 | hc63
                · rw [ite_t hc63] at hz62
                  replace hS := hS.know (t := 103) rfl (congrArg Value.bool hc63)
                  replace hS := hS.know (t := 104) rfl (congrArg Value.bool hc63)
                  refine q_no hS (wf hS rfl rfl rfl rfl) rfl fun s hS => ?_
                  refine q_no hS (wf hS rfl rfl rfl rfl) rfl fun s hS => ?_
                  refine q_no hS (wf hS rfl rfl rfl rfl) rfl fun s hS => ?_
                  refine q_no hS (wf hS rfl rfl rfl rfl) rfl fun s hS => ?_
                  refine q_no hS (wf hS rfl rfl rfl rfl) rfl fun s hS => ?_
                  refine q_no hS (wf hS rfl rfl rfl rfl) rfl fun s hS => ?_
                  refine q_pu hS (wn rfl) rfl rfl rfl (v := .bool true) (aop_pickT (hS.lk rfl) (hS.lk rfl)) fun s hS => ?_
                  refine KW.nil ?_
                  obtain rfl := Option.some.inj hz62
                  exact hS.sub (.c rfl (.c rfl (.c rfl (.c rfl (.c rfl (.c rfl (.c rfl (.c rfl .n))))))))
                · rw [ite_f hc63] at hz62
                  replace hS := hS.know (t := 103) rfl (congrArg Value.bool hc63)
                  replace hS := hS.know (t := 104) rfl (congrArg Value.bool hc63)
                  refine q_pu hS (wt hS rfl rfl rfl rfl) rfl rfl rfl (v := .slice a25 y22.2.1.length z26) (aop_move (hS.lk rfl)) fun s hS => ?_
                  refine q_pu hS (wt hS rfl rfl rfl rfl) rfl rfl rfl (v := .int .i64 x39.2) (aop_move (hS.lk rfl)) fun s hS => ?_
                  obtain ⟨hk64, hz62⟩ := ite_some hz62
                  obtain ⟨i70, cs71, ex72, rfl, rfl, rfl, hC73⟩ := Own.some_ h27 (by omega)
                  obtain ⟨c65, hR66, hN68, hN67, hT69⟩ := Cells.loadF (hC73.mono hF37) ex72 hk64 (z := 1) rfl
                  obtain rfl := hR66
                  refine q_pu hS (wt hS rfl rfl rfl rfl) rfl rfl rfl (v := .pointer (some ⟨i70, 0 + (x39.2).toNat * 1, none⟩)) (aop_ia (hS.lk rfl) (hS.lk rfl) te23 hk64) fun s hS => ?_
                  refine q_ld hS (wt hS rfl rfl rfl rfl) rfl rfl rfl (hS.at (k := 1) rfl) tg3 (v := .int .i64 (gt y22.2.1 x39.2)) hN67 fun s hS => ?_
                  refine q_pu hS (wt hS rfl rfl rfl rfl) rfl rfl rfl (v := .int .i64 x39.2) (aop_move (hS.lk rfl)) fun s hS => ?_
                  refine q_pu hS (wt hS rfl rfl rfl rfl) rfl rfl rfl (v := .bool ((gt y22.2.1 x39.2) != x39.2)) (aop_int (hS.lk rfl) (hS.lk rfl) rfl) fun s hS => ?_
                  refine q_pu hS (wn rfl) rfl rfl rfl (v := .bool ((gt y22.2.1 x39.2) != x39.2)) (aop_pickF (hS.lk rfl) (hS.lk rfl)) fun s hS => ?_
                  refine KW.nil ?_
                  obtain rfl := Option.some.inj hz62
                  exact hS.sub (.c rfl (.c rfl (.c rfl (.c rfl (.c rfl (.c rfl (.c rfl (.c rfl .n))))))))
              refine KW.nil ?_
              rcases bool_cases (z62) with hc74 | hc74
              · rw [ite_t hc74] at h42
                replace hS := hS.know (t := 111) rfl (congrArg Value.bool hc74)
                refine WW.condK hS rfl rfl ?_
                refine WW.seq ?_
                refine WW.region ?_
                refine q_pu hS (wn rfl) rfl rfl rfl (v := .bool false) (aop_assign (hS.lk rfl)) fun s hS => ?_
                refine KW.nil ?_
                refine WW.ret ?_
                have hres := (res_tmp hS (t := 2) (v := .bool false) rfl (res_nil (E := EV) (s := s)))
                replace hS := hS.drop
                replace hS := hS.drop
                replace hS := hS.drop
                replace hS := hS.drop
                obtain rfl := Option.some.inj h42
                exact ⟨_, rfl, rfl, fin hS (.inr rfl) hres (v := .bool false) rfl ⟨((FLe.trans hF12 (FLe.trans hF21 (FLe.trans hF29 hF37)))), rfl, rfl⟩⟩
              · rw [ite_f hc74] at h42
                replace hS := hS.know (t := 111) rfl (congrArg Value.bool hc74)
                refine WW.condF hS rfl rfl ?_
                refine WW.skip ?_
                refine WW.seq ?_
                refine WW.region ?_
                refine q_pu hS (wn rfl) rfl rfl rfl (v := strV p0_0) (aop_move (hS.lk rfl)) fun s hS => ?_
                refine q_pu hS (wn rfl) rfl rfl rfl (v := .slice (some ⟨i50, 0, none⟩) y5.2.1.length 1) (aop_move (hS.lk rfl)) fun s hS => ?_
                refine q_pu hS (wn rfl) rfl rfl rfl (v := .int .i64 x39.2) (aop_move (hS.lk rfl)) fun s hS => ?_
                obtain ⟨hk75, h42⟩ := ite_some h42
                obtain ⟨c76, hR77, hN79, hN78, hT80⟩ := Cells.loadF (hC53.mono (FLe.trans hF21 (FLe.trans hF29 hF37))) ex52 hk75 (z := 1) rfl
                obtain rfl := hR77
                refine q_pu hS (wn rfl) rfl rfl rfl (v := .pointer (some ⟨i50, 0 + (x39.2).toNat * 1, none⟩)) (aop_ia (hS.lk rfl) (hS.lk rfl) te23 hk75) fun s hS => ?_
                refine q_ld hS (wn rfl) rfl rfl rfl (hS.at (k := 3) rfl) tg3 (v := .int .i64 (gt y5.2.1 x39.2)) hN78 fun s hS => ?_
                obtain ⟨hk81, h42⟩ := ite_some h42
                refine q_pu hS (wn rfl) rfl rfl rfl (v := vB (gt p0_0 (gt y5.2.1 x39.2))) (aop_idxS tu9 (hS.lk rfl) (hS.lk rfl) hk81) fun s hS => ?_
                refine q_pu hS (wn rfl) rfl rfl rfl (v := vB (gt p0_0 (gt y5.2.1 x39.2))) (aop_assign (hS.lk rfl)) fun s hS => ?_
                refine KW.nil ?_
                refine WW.seq ?_
                refine WW.seq ?_
                refine WW.region ?_
                refine q_pu hS (wn rfl) rfl rfl rfl (v := vB (gt p0_0 (gt y5.2.1 x39.2))) (aop_move (hS.lk rfl)) fun s hS => ?_
                refine q_pu hS (wn rfl) rfl rfl rfl (v := strV y5.1) (aop_move (hS.lk rfl)) fun s hS => ?_
                refine q_pu hS (wn rfl) rfl rfl rfl (v := .int .i64 x39.2) (aop_move (hS.lk rfl)) fun s hS => ?_
                obtain ⟨hk82, h42⟩ := ite_some h42
                refine q_pu hS (wn rfl) rfl rfl rfl (v := vB (gt y5.1 x39.2)) (aop_idxS tu9 (hS.lk rfl) (hS.lk rfl) hk82) fun s hS => ?_
                refine q_pu hS (wn rfl) rfl rfl rfl (v := .bool (((gt p0_0 (gt y5.2.1 x39.2)).toNat : Int) != ((gt y5.1 x39.2).toNat : Int))) (aop_int (hS.lk rfl) (hS.lk rfl) rfl) fun s hS => ?_
                refine q_pu hS (wn rfl) rfl rfl rfl (v := .bool (((gt p0_0 (gt y5.2.1 x39.2)).toNat : Int) != ((gt y5.1 x39.2).toNat : Int))) (aop_move (hS.lk rfl)) fun s hS => ?_
                obtain ⟨z83, hz83, h42⟩ := bind_some h42
                refine q_cut 15 (fun s => Stt EV s [(138, .bool z83), (0, strV p0_0), (2, .bool false), (3, strV y5.1), (4, .slice (some ⟨i50, 0, none⟩) y5.2.1.length 1), (9, .slice a25 y22.2.1.length z26), (13, .int .i64 x39.1), (14, .int .i64 x39.2)] [B36, B28, B20, [(i50, .row (cs51 ++ ex52) 3 1 true)]] F32 L F nx0) ?_ fun s hS => ?_
                ·
                  rcases bool_cases ((((gt p0_0 (gt y5.2.1 x39.2)).toNat : Int) != ((gt y5.1 x39.2).toNat : Int))) with hc84 | hc84
                  · rw [ite_t hc84] at hz83
                    replace hS := hS.know (t := 122) rfl (congrArg Value.bool hc84)
                    replace hS := hS.know (t := 123) rfl (congrArg Value.bool hc84)
                    refine q_pu hS (wt hS rfl rfl rfl rfl) rfl rfl rfl (v := vB (gt p0_0 (gt y5.2.1 x39.2))) (aop_move (hS.lk rfl)) fun s hS => ?_
                    refine q_pu hS (wt hS rfl rfl rfl rfl) rfl rfl rfl (v := .bool (decide (((gt p0_0 (gt y5.2.1 x39.2)).toNat : Int) < ((97 : UInt8).toNat : Int)))) (aop_int (hS.lk rfl) (hS.lk rfl) rfl) fun s hS => ?_
                    refine q_pu hS (wt hS rfl rfl rfl rfl) rfl rfl rfl (v := .bool (decide (((gt p0_0 (gt y5.2.1 x39.2)).toNat : Int) < ((97 : UInt8).toNat : Int)))) (aop_move (hS.lk rfl)) fun s hS => ?_
                    refine q_cut 3 (fun s => Stt EV s [(129, .bool ((decide (((gt p0_0 (gt y5.2.1 x39.2)).toNat : Int) < ((97 : UInt8).toNat : Int))) || (decide (((gt p0_0 (gt y5.2.1 x39.2)).toNat : Int) > ((122 : UInt8).toNat : Int))))), (0, strV p0_0), (2, .bool false), (3, strV y5.1), (4, .slice (some ⟨i50, 0, none⟩) y5.2.1.length 1), (9, .slice a25 y22.2.1.length z26), (13, .int .i64 x39.1), (14, .int .i64 x39.2), (15, vB (gt p0_0 (gt y5.2.1 x39.2))), (123, .bool true)] [B36, B28, B20, [(i50, .row (cs51 ++ ex52) 3 1 true)]] F32 L F nx0) ?_ fun s hS => ?_
                    ·
                      rcases bool_cases ((decide (((gt p0_0 (gt y5.2.1 x39.2)).toNat : Int) < ((97 : UInt8).toNat : Int)))) with hcj | hcj
                      ·
                        replace hS := hS.know (t := 125) rfl (congrArg Value.bool hcj)
                        replace hS := hS.know (t := 126) rfl (congrArg Value.bool hcj)
                        refine q_no hS (wf hS rfl rfl rfl rfl) rfl fun s hS => ?_
                        refine q_no hS (wf hS rfl rfl rfl rfl) rfl fun s hS => ?_
                        refine q_pu hS (wt hS rfl rfl rfl rfl) rfl rfl rfl (v := .bool true) (aop_pickT (hS.lk rfl) (hS.lk rfl)) fun s hS => ?_
                        refine KW.nil ?_
                        exact (hS.know (t := 129) (u' := .bool ((decide (((gt p0_0 (gt y5.2.1 x39.2)).toNat : Int) < ((97 : UInt8).toNat : Int))) || (decide (((gt p0_0 (gt y5.2.1 x39.2)).toNat : Int) > ((122 : UInt8).toNat : Int))))) rfl (jn_or_t hcj)).sub (.c rfl (.c rfl (.c rfl (.c rfl (.c rfl (.c rfl (.c rfl (.c rfl (.c rfl (.c rfl .n))))))))))
                      ·
                        replace hS := hS.know (t := 125) rfl (congrArg Value.bool hcj)
                        replace hS := hS.know (t := 126) rfl (congrArg Value.bool hcj)
                        refine q_pu hS (wt hS rfl rfl rfl rfl) rfl rfl rfl (v := vB (gt p0_0 (gt y5.2.1 x39.2))) (aop_move (hS.lk rfl)) fun s hS => ?_
                        refine q_pu hS (wt hS rfl rfl rfl rfl) rfl rfl rfl (v := .bool (decide (((gt p0_0 (gt y5.2.1 x39.2)).toNat : Int) > ((122 : UInt8).toNat : Int)))) (aop_int (hS.lk rfl) (hS.lk rfl) rfl) fun s hS => ?_
                        refine q_pu hS (wt hS rfl rfl rfl rfl) rfl rfl rfl (v := .bool (decide (((gt p0_0 (gt y5.2.1 x39.2)).toNat : Int) > ((122 : UInt8).toNat : Int)))) (aop_pickF (hS.lk rfl) (hS.lk rfl)) fun s hS => ?_
                        refine KW.nil ?_
                        exact (hS.know (t := 129) (u' := .bool ((decide (((gt p0_0 (gt y5.2.1 x39.2)).toNat : Int) < ((97 : UInt8).toNat : Int))) || (decide (((gt p0_0 (gt y5.2.1 x39.2)).toNat : Int) > ((122 : UInt8).toNat : Int))))) rfl (jn_or_f hcj)).sub (.c rfl (.c rfl (.c rfl (.c rfl (.c rfl (.c rfl (.c rfl (.c rfl (.c rfl (.c rfl .n))))))))))
                    refine q_pu hS (wt hS rfl rfl rfl rfl) rfl rfl rfl (v := .bool ((decide (((gt p0_0 (gt y5.2.1 x39.2)).toNat : Int) < ((97 : UInt8).toNat : Int))) || (decide (((gt p0_0 (gt y5.2.1 x39.2)).toNat : Int) > ((122 : UInt8).toNat : Int))))) (aop_move (hS.lk rfl)) fun s hS => ?_
                    obtain ⟨z85, hz85, hz83⟩ := bind_some hz83
                    refine q_cut 7 (fun s => Stt EV s [(137, .bool z85), (0, strV p0_0), (2, .bool false), (3, strV y5.1), (4, .slice (some ⟨i50, 0, none⟩) y5.2.1.length 1), (9, .slice a25 y22.2.1.length z26), (13, .int .i64 x39.1), (14, .int .i64 x39.2), (123, .bool true)] [B36, B28, B20, [(i50, .row (cs51 ++ ex52) 3 1 true)]] F32 L F nx0) ?_ fun s hS => ?_
                    ·
                      rcases bool_cases (((decide (((gt p0_0 (gt y5.2.1 x39.2)).toNat : Int) < ((97 : UInt8).toNat : Int))) || (decide (((gt p0_0 (gt y5.2.1 x39.2)).toNat : Int) > ((122 : UInt8).toNat : Int))))) with hc86 | hc86
                      · rw [ite_t hc86] at hz85
                        replace hS := hS.know (t := 129) rfl (congrArg Value.bool hc86)
                        replace hS := hS.know (t := 130) rfl (congrArg Value.bool hc86)
                        refine q_no hS (wf hS rfl rfl rfl rfl) rfl fun s hS => ?_
                        refine q_no hS (wf hS rfl rfl rfl rfl) rfl fun s hS => ?_
                        refine q_no hS (wf hS rfl rfl rfl rfl) rfl fun s hS => ?_
                        refine q_no hS (wf hS rfl rfl rfl rfl) rfl fun s hS => ?_
                        refine q_no hS (wf hS rfl rfl rfl rfl) rfl fun s hS => ?_
                        refine q_no hS (wf hS rfl rfl rfl rfl) rfl fun s hS => ?_
                        refine q_pu hS (wt hS rfl rfl rfl rfl) rfl rfl rfl (v := .bool true) (aop_pickT (hS.lk rfl) (hS.lk rfl)) fun s hS => ?_
                        refine KW.nil ?_
                        obtain rfl := Option.some.inj hz85
                        exact hS.sub (.c rfl (.c rfl (.c rfl (.c rfl (.c rfl (.c rfl (.c rfl (.c rfl (.c rfl .n)))))))))
                      · rw [ite_f hc86] at hz85
                        replace hS := hS.know (t := 129) rfl (congrArg Value.bool hc86)
                        replace hS := hS.know (t := 130) rfl (congrArg Value.bool hc86)
                        refine q_pu hS (wt hS rfl rfl rfl rfl) rfl rfl rfl (v := vB (gt p0_0 (gt y5.2.1 x39.2))) (aop_move (hS.lk rfl)) fun s hS => ?_
                        refine q_pu hS (wt hS rfl rfl rfl rfl) rfl rfl rfl (v := vB ((gt p0_0 (gt y5.2.1 x39.2)) - 32)) (aop_u8sub (hS.lk rfl) (hS.lk rfl)) fun s hS => ?_
                        refine q_pu hS (wt hS rfl rfl rfl rfl) rfl rfl rfl (v := strV y5.1) (aop_move (hS.lk rfl)) fun s hS => ?_
                        refine q_pu hS (wt hS rfl rfl rfl rfl) rfl rfl rfl (v := .int .i64 x39.2) (aop_move (hS.lk rfl)) fun s hS => ?_
                        obtain ⟨hk87, hz85⟩ := ite_some hz85
                        refine q_pu hS (wt hS rfl rfl rfl rfl) rfl rfl rfl (v := vB (gt y5.1 x39.2)) (aop_idxS tu9 (hS.lk rfl) (hS.lk rfl) hk87) fun s hS => ?_
                        refine q_pu hS (wt hS rfl rfl rfl rfl) rfl rfl rfl (v := .bool ((((gt p0_0 (gt y5.2.1 x39.2)) - 32).toNat : Int) != ((gt y5.1 x39.2).toNat : Int))) (aop_int (hS.lk rfl) (hS.lk rfl) rfl) fun s hS => ?_
                        refine q_pu hS (wt hS rfl rfl rfl rfl) rfl rfl rfl (v := .bool ((((gt p0_0 (gt y5.2.1 x39.2)) - 32).toNat : Int) != ((gt y5.1 x39.2).toNat : Int))) (aop_pickF (hS.lk rfl) (hS.lk rfl)) fun s hS => ?_
                        refine KW.nil ?_
                        obtain rfl := Option.some.inj hz85
                        exact hS.sub (.c rfl (.c rfl (.c rfl (.c rfl (.c rfl (.c rfl (.c rfl (.c rfl (.c rfl .n)))))))))
                    refine q_pu hS (wn rfl) rfl rfl rfl (v := .bool z85) (aop_pickT (hS.lk rfl) (hS.lk rfl)) fun s hS => ?_
                    refine KW.nil ?_
                    obtain rfl := Option.some.inj hz83
                    exact hS.sub (.c rfl (.c rfl (.c rfl (.c rfl (.c rfl (.c rfl (.c rfl (.c rfl .n))))))))
                  · rw [ite_f hc84] at hz83
                    replace hS := hS.know (t := 122) rfl (congrArg Value.bool hc84)
                    replace hS := hS.know (t := 123) rfl (congrArg Value.bool hc84)
                    refine q_no hS (wf hS rfl rfl rfl rfl) rfl fun s hS => ?_
                    refine q_no hS (wf hS rfl rfl rfl rfl) rfl fun s hS => ?_
                    refine q_no hS (wf hS rfl rfl rfl rfl) rfl fun s hS => ?_
                    refine q_no hS (wu hS rfl rfl rfl) rfl fun s hS => ?_
                    refine q_no hS (wu hS rfl rfl rfl) rfl fun s hS => ?_
                    refine q_no hS (wf hS rfl rfl rfl rfl) rfl fun s hS => ?_
                    refine q_no hS (wf hS rfl rfl rfl rfl) rfl fun s hS => ?_
                    refine q_no hS (wu hS rfl rfl rfl) rfl fun s hS => ?_
                    refine q_no hS (wu hS rfl rfl rfl) rfl fun s hS => ?_
                    refine q_no hS (wu hS rfl rfl rfl) rfl fun s hS => ?_
                    refine q_no hS (wu hS rfl rfl rfl) rfl fun s hS => ?_
                    refine q_no hS (wu hS rfl rfl rfl) rfl fun s hS => ?_
                    refine q_no hS (wu hS rfl rfl rfl) rfl fun s hS => ?_
                    refine q_no hS (wf hS rfl rfl rfl rfl) rfl fun s hS => ?_
                    refine q_pu hS (wn rfl) rfl rfl rfl (v := .bool false) (aop_pickF (hS.lk rfl) (hS.lk rfl)) fun s hS => ?_
                    refine KW.nil ?_
                    obtain rfl := Option.some.inj hz83
                    exact hS.sub (.c rfl (.c rfl (.c rfl (.c rfl (.c rfl (.c rfl (.c rfl (.c rfl .n))))))))
                refine KW.nil ?_
                rcases bool_cases (z83) with hc88 | hc88
                · rw [ite_t hc88] at h42
                  replace hS := hS.know (t := 138) rfl (congrArg Value.bool hc88)
                  refine WW.condK hS rfl rfl ?_
                  refine WW.seq ?_
                  refine WW.region ?_
                  refine q_pu hS (wn rfl) rfl rfl rfl (v := .bool false) (aop_assign (hS.lk rfl)) fun s hS => ?_
                  refine KW.nil ?_
                  refine WW.ret ?_
                  have hres := (res_tmp hS (t := 2) (v := .bool false) rfl (res_nil (E := EV) (s := s)))
                  replace hS := hS.drop
                  replace hS := hS.drop
                  replace hS := hS.drop
                  replace hS := hS.drop
                  obtain rfl := Option.some.inj h42
                  exact ⟨_, rfl, rfl, fin hS (.inr rfl) hres (v := .bool false) rfl ⟨((FLe.trans hF12 (FLe.trans hF21 (FLe.trans hF29 hF37)))), rfl, rfl⟩⟩
                · rw [ite_f hc88] at h42
                  replace hS := hS.know (t := 138) rfl (congrArg Value.bool hc88)
                  refine WW.condF hS rfl rfl ?_
                  refine WW.skip ?_
                  refine WW.seq ?_
                  refine WW.seq ?_
                  refine WW.region ?_
                  refine q_pu hS (wn rfl) rfl rfl rfl (v := .int .i64 x39.1) (aop_move (hS.lk rfl)) fun s hS => ?_
                  refine q_pu hS (wn rfl) rfl rfl rfl (v := .int .i64 (w64 (x39.1 + 1))) (aop_int (hS.lk rfl) (hS.lk rfl) rfl) fun s hS => ?_
                  refine q_pu hS (wn rfl) rfl rfl rfl (v := .int .i64 (w64 (x39.1 + 1))) (aop_assign (hS.lk rfl)) fun s hS => ?_
                  refine KW.nil ?_
                  refine WW.block ?_
                  obtain ⟨o90, ho90, h42⟩ := bind_some h42
                  refine WW.loop (LW.iter ho90 (fun (x89 : Int) s => Stt EV s [(0, strV p0_0), (2, .bool false), (3, strV y5.1), (4, .slice (some ⟨i50, 0, none⟩) y5.2.1.length 1), (9, .slice a25 y22.2.1.length z26), (13, .int .i64 x39.1), (14, .int .i64 x39.2), (16, .int .i64 x89)] [B36, B28, B20, [(i50, .row (cs51 ++ ex52) 3 1 true)]] F32 L F nx0) (fun (o : (Int) ⊕ (Bool)) e s => match o with | .inl y91 => (e = .exit 2 ∧ Stt EV s [(0, strV p0_0), (2, .bool false), (3, strV y5.1), (4, .slice (some ⟨i50, 0, none⟩) y5.2.1.length 1), (9, .slice a25 y22.2.1.length z26), (13, .int .i64 x39.1), (14, .int .i64 x39.2), (16, .int .i64 y91)] [B36, B28, B20, [(i50, .row (cs51 ++ ex52) 3 1 true)]] F32 L F nx0) | .inr r => (e = .ret ∧ FinQ EV Tryz.f4 L F nx0 (fun v S' F' => FLe F F' ∧ v = .bool r ∧ S' = []) e s)) (hS.sub (.c rfl (.c rfl (.c rfl (.c rfl (.c rfl (.c rfl (.c rfl (.c rfl .n))))))))) ?_ ?_)
                  · clear hS
                    rintro x89 s hS o90' h92
                    unfold g_law01_SourceAgain.b1 at h92
                    refine WW.seq ?_
                    refine WW.seq ?_
                    refine WW.region ?_
                    refine q_pu hS (wn rfl) rfl rfl rfl (v := .int .i64 x89) (aop_move (hS.lk rfl)) fun s hS => ?_
                    refine q_pu hS (wn rfl) rfl rfl rfl (v := .slice (some ⟨i50, 0, none⟩) y5.2.1.length 1) (aop_move (hS.lk rfl)) fun s hS => ?_
                    refine q_pu hS (wn rfl) rfl rfl rfl (v := .int .i64 x39.2) (aop_move (hS.lk rfl)) fun s hS => ?_
                    obtain ⟨hk93, h92⟩ := ite_some h92
                    obtain ⟨c94, hR95, hN97, hN96, hT98⟩ := Cells.loadF (hC53.mono (FLe.trans hF21 (FLe.trans hF29 hF37))) ex52 hk93 (z := 1) rfl
                    obtain rfl := hR95
                    refine q_pu hS (wn rfl) rfl rfl rfl (v := .pointer (some ⟨i50, 0 + (x39.2).toNat * 1, none⟩)) (aop_ia (hS.lk rfl) (hS.lk rfl) te23 hk93) fun s hS => ?_
                    refine q_ld hS (wn rfl) rfl rfl rfl (hS.at (k := 3) rfl) tg3 (v := .int .i64 (gt y5.2.1 x39.2)) hN96 fun s hS => ?_
                    refine q_pu hS (wn rfl) rfl rfl rfl (v := .bool (decide (x89 < (gt y5.2.1 x39.2)))) (aop_int (hS.lk rfl) (hS.lk rfl) rfl) fun s hS => ?_
                    refine KW.nil ?_
                    rcases bool_cases ((decide (x89 < (gt y5.2.1 x39.2)))) with hc99 | hc99
                    · rw [ite_t hc99] at h92
                      replace hS := hS.know (t := 146) rfl (congrArg Value.bool hc99)
                      refine WW.condK hS rfl rfl ?_
                      refine WW.skip ?_
                      refine WW.seq ?_
                      refine WW.block ?_
                      refine WW.seq ?_
                      refine WW.region ?_
                      refine q_pu hS (wn rfl) rfl rfl rfl (v := strV p0_0) (aop_move (hS.lk rfl)) fun s hS => ?_
                      refine q_pu hS (wn rfl) rfl rfl rfl (v := .int .i64 x89) (aop_move (hS.lk rfl)) fun s hS => ?_
                      obtain ⟨hk100, h92⟩ := ite_some h92
                      refine q_pu hS (wn rfl) rfl rfl rfl (v := vB (gt p0_0 x89)) (aop_idxS tu9 (hS.lk rfl) (hS.lk rfl) hk100) fun s hS => ?_
                      refine q_pu hS (wn rfl) rfl rfl rfl (v := .bool (((gt p0_0 x89).toNat : Int) != ((32 : UInt8).toNat : Int))) (aop_int (hS.lk rfl) (hS.lk rfl) rfl) fun s hS => ?_
                      refine KW.nil ?_
                      rcases bool_cases ((((gt p0_0 x89).toNat : Int) != ((32 : UInt8).toNat : Int))) with hc101 | hc101
                      · rw [ite_t hc101] at h92
                        replace hS := hS.know (t := 152) rfl (congrArg Value.bool hc101)
                        refine WW.condK hS rfl rfl ?_
                        refine WW.seq ?_
                        refine WW.region ?_
                        refine q_pu hS (wn rfl) rfl rfl rfl (v := .bool false) (aop_assign (hS.lk rfl)) fun s hS => ?_
                        refine KW.nil ?_
                        refine WW.ret ?_
                        have hres := (res_tmp hS (t := 2) (v := .bool false) rfl (res_nil (E := EV) (s := s)))
                        replace hS := hS.drop
                        replace hS := hS.drop
                        replace hS := hS.drop
                        replace hS := hS.drop
                        obtain rfl := Option.some.inj h92
                        exact ⟨_, rfl, rfl, fin hS (.inr rfl) hres (v := .bool false) rfl ⟨((FLe.trans hF12 (FLe.trans hF21 (FLe.trans hF29 hF37)))), rfl, rfl⟩⟩
                      · rw [ite_f hc101] at h92
                        replace hS := hS.know (t := 152) rfl (congrArg Value.bool hc101)
                        refine WW.condF hS rfl rfl ?_
                        refine WW.skip ?_
                        refine WW.region ?_
                        refine q_pu hS (wn rfl) rfl rfl rfl (v := .int .i64 x89) (aop_move (hS.lk rfl)) fun s hS => ?_
                        refine q_pu hS (wn rfl) rfl rfl rfl (v := .int .i64 (w64 (x89 + 1))) (aop_int (hS.lk rfl) (hS.lk rfl) rfl) fun s hS => ?_
                        refine q_pu hS (wn rfl) rfl rfl rfl (v := .int .i64 (w64 (x89 + 1))) (aop_assign (hS.lk rfl)) fun s hS => ?_
                        refine KW.nil ?_
                        obtain rfl := Option.some.inj h92
                        exact ⟨_, rfl, (hS.sub (.c rfl (.c rfl (.c rfl (.c rfl (.c rfl (.c rfl (.c rfl (.c rfl .n)))))))))⟩
                    · rw [ite_f hc99] at h92
                      replace hS := hS.know (t := 146) rfl (congrArg Value.bool hc99)
                      refine WW.condF hS rfl rfl ?_
                      refine WW.exit ?_
                      refine thenQ_exit ?_
                      obtain rfl := Option.some.inj h92
                      exact ⟨_, rfl, rfl, (hS.sub (.c rfl (.c rfl (.c rfl (.c rfl (.c rfl (.c rfl (.c rfl (.c rfl .n)))))))))⟩
                  · clear hS
                    rcases o90 with y102 | y102
                    · rintro e s ⟨rfl, hS⟩
                      replace h42 := match2_inl h42
                      refine blockQ_exit ?_
                      refine WW.region ?_
                      refine q_pu hS (wn rfl) rfl rfl rfl (v := .slice (some ⟨i50, 0, none⟩) y5.2.1.length 1) (aop_move (hS.lk rfl)) fun s hS => ?_
                      refine q_pu hS (wn rfl) rfl rfl rfl (v := .int .i64 x39.2) (aop_move (hS.lk rfl)) fun s hS => ?_
                      obtain ⟨hk103, h42⟩ := ite_some h42
                      obtain ⟨c104, hR105, hN107, hN106, hT108⟩ := Cells.loadF (hC53.mono (FLe.trans hF21 (FLe.trans hF29 hF37))) ex52 hk103 (z := 1) rfl
                      obtain rfl := hR105
                      refine q_pu hS (wn rfl) rfl rfl rfl (v := .pointer (some ⟨i50, 0 + (x39.2).toNat * 1, none⟩)) (aop_ia (hS.lk rfl) (hS.lk rfl) te23 hk103) fun s hS => ?_
                      refine q_ld hS (wn rfl) rfl rfl rfl (hS.at (k := 3) rfl) tg3 (v := .int .i64 (gt y5.2.1 x39.2)) hN106 fun s hS => ?_
                      refine q_pu hS (wn rfl) rfl rfl rfl (v := .int .i64 (gt y5.2.1 x39.2)) (aop_assign (hS.lk rfl)) fun s hS => ?_
                      refine KW.nil ?_
                      refine WW.region ?_
                      refine q_pu hS (wn rfl) rfl rfl rfl (v := .int .i64 x39.2) (aop_move (hS.lk rfl)) fun s hS => ?_
                      refine q_pu hS (wn rfl) rfl rfl rfl (v := .int .i64 (w64 (x39.2 + 1))) (aop_int (hS.lk rfl) (hS.lk rfl) rfl) fun s hS => ?_
                      refine q_pu hS (wn rfl) rfl rfl rfl (v := .int .i64 (w64 (x39.2 + 1))) (aop_assign (hS.lk rfl)) fun s hS => ?_
                      refine KW.nil ?_
                      obtain rfl := Option.some.inj h42
                      exact ⟨_, rfl, (hS.sub (.c rfl (.c rfl (.c rfl (.c rfl (.c rfl (.c rfl (.c rfl .n))))))))⟩
                    · rintro e s ⟨rfl, hfin⟩
                      replace h42 := match2_inr h42
                      obtain rfl := Option.some.inj h42
                      exact ⟨_, rfl, rfl, hfin⟩
            · rw [ite_f hc43] at h42
              replace hS := hS.know (t := 86) rfl (congrArg Value.bool hc43)
              refine WW.condF hS rfl rfl ?_
              refine WW.exit ?_
              refine thenQ_exit ?_
              obtain rfl := Option.some.inj h42
              exact ⟨_, rfl, rfl, (hS.sub (.c rfl (.c rfl (.c rfl (.c rfl (.c rfl (.c rfl (.c rfl .n))))))))⟩
          · clear hS
            rcases o40 with y109 | y109
            · rintro e s ⟨rfl, hS⟩
              replace h := match_inl h
              refine blockQ_exit ?_
              refine WW.seq ?_
              refine WW.seq ?_
              refine WW.region ?_
              refine q_pu hS (wn rfl) rfl rfl rfl (v := .int .i64 y109.1) (aop_move (hS.lk rfl)) fun s hS => ?_
              refine q_pu hS (wn rfl) rfl rfl rfl (v := .int .i64 (w64 (y109.1 + 1))) (aop_int (hS.lk rfl) (hS.lk rfl) rfl) fun s hS => ?_
              refine q_pu hS (wn rfl) rfl rfl rfl (v := .int .i64 (w64 (y109.1 + 1))) (aop_assign (hS.lk rfl)) fun s hS => ?_
              refine KW.nil ?_
              refine WW.block ?_
              obtain ⟨o111, ho111, h⟩ := bind_some h
              refine WW.loop (LW.iter ho111 (fun (x110 : Int) s => Stt EV s [(0, strV p0_0), (2, .bool false), (17, .int .i64 x110)] [B36, B28, B20, B11] F32 L F nx0) (fun (o : (Int) ⊕ (Bool)) e s => match o with | .inl y112 => (e = .exit 4 ∧ Stt EV s [(0, strV p0_0), (2, .bool false), (17, .int .i64 y112)] [B36, B28, B20, B11] F32 L F nx0) | .inr r => (e = .ret ∧ FinQ EV Tryz.f4 L F nx0 (fun v S' F' => FLe F F' ∧ v = .bool r ∧ S' = []) e s)) (hS.sub (.c rfl (.c rfl (.c rfl .n)))) ?_ ?_)
              · clear hS
                rintro x110 s hS o111' h113
                unfold g_law01_SourceAgain.b2 at h113
                refine WW.seq ?_
                refine WW.seq ?_
                refine WW.region ?_
                refine q_pu hS (wn rfl) rfl rfl rfl (v := .int .i64 x110) (aop_move (hS.lk rfl)) fun s hS => ?_
                refine q_pu hS (wn rfl) rfl rfl rfl (v := strV p0_0) (aop_move (hS.lk rfl)) fun s hS => ?_
                refine q_pu hS (wn rfl) rfl rfl rfl (v := .int .i64 (p0_0.length : Int)) (aop_lenS rfl rfl tu9 (hS.lk rfl)) fun s hS => ?_
                refine q_pu hS (wn rfl) rfl rfl rfl (v := .bool (decide (x110 < (p0_0.length : Int)))) (aop_int (hS.lk rfl) (hS.lk rfl) rfl) fun s hS => ?_
                refine KW.nil ?_
                rcases bool_cases ((decide (x110 < (p0_0.length : Int)))) with hc114 | hc114
                · rw [ite_t hc114] at h113
                  replace hS := hS.know (t := 162) rfl (congrArg Value.bool hc114)
                  refine WW.condK hS rfl rfl ?_
                  refine WW.skip ?_
                  refine WW.seq ?_
                  refine WW.block ?_
                  refine WW.seq ?_
                  refine WW.region ?_
                  refine q_pu hS (wn rfl) rfl rfl rfl (v := strV p0_0) (aop_move (hS.lk rfl)) fun s hS => ?_
                  refine q_pu hS (wn rfl) rfl rfl rfl (v := .int .i64 x110) (aop_move (hS.lk rfl)) fun s hS => ?_
                  obtain ⟨hk115, h113⟩ := ite_some h113
                  refine q_pu hS (wn rfl) rfl rfl rfl (v := vB (gt p0_0 x110)) (aop_idxS tu9 (hS.lk rfl) (hS.lk rfl) hk115) fun s hS => ?_
                  refine q_pu hS (wn rfl) rfl rfl rfl (v := .bool (((gt p0_0 x110).toNat : Int) != ((32 : UInt8).toNat : Int))) (aop_int (hS.lk rfl) (hS.lk rfl) rfl) fun s hS => ?_
                  refine KW.nil ?_
                  rcases bool_cases ((((gt p0_0 x110).toNat : Int) != ((32 : UInt8).toNat : Int))) with hc116 | hc116
                  · rw [ite_t hc116] at h113
                    replace hS := hS.know (t := 168) rfl (congrArg Value.bool hc116)
                    refine WW.condK hS rfl rfl ?_
                    refine WW.seq ?_
                    refine WW.region ?_
                    refine q_pu hS (wn rfl) rfl rfl rfl (v := .bool false) (aop_assign (hS.lk rfl)) fun s hS => ?_
                    refine KW.nil ?_
                    refine WW.ret ?_
                    have hres := (res_tmp hS (t := 2) (v := .bool false) rfl (res_nil (E := EV) (s := s)))
                    replace hS := hS.drop
                    replace hS := hS.drop
                    replace hS := hS.drop
                    replace hS := hS.drop
                    obtain rfl := Option.some.inj h113
                    exact ⟨_, rfl, rfl, fin hS (.inr rfl) hres (v := .bool false) rfl ⟨((FLe.trans hF12 (FLe.trans hF21 (FLe.trans hF29 hF37)))), rfl, rfl⟩⟩
                  · rw [ite_f hc116] at h113
                    replace hS := hS.know (t := 168) rfl (congrArg Value.bool hc116)
                    refine WW.condF hS rfl rfl ?_
                    refine WW.skip ?_
                    refine WW.region ?_
                    refine q_pu hS (wn rfl) rfl rfl rfl (v := .int .i64 x110) (aop_move (hS.lk rfl)) fun s hS => ?_
                    refine q_pu hS (wn rfl) rfl rfl rfl (v := .int .i64 (w64 (x110 + 1))) (aop_int (hS.lk rfl) (hS.lk rfl) rfl) fun s hS => ?_
                    refine q_pu hS (wn rfl) rfl rfl rfl (v := .int .i64 (w64 (x110 + 1))) (aop_assign (hS.lk rfl)) fun s hS => ?_
                    refine KW.nil ?_
                    obtain rfl := Option.some.inj h113
                    exact ⟨_, rfl, (hS.sub (.c rfl (.c rfl (.c rfl .n))))⟩
                · rw [ite_f hc114] at h113
                  replace hS := hS.know (t := 162) rfl (congrArg Value.bool hc114)
                  refine WW.condF hS rfl rfl ?_
                  refine WW.exit ?_
                  refine thenQ_exit ?_
                  obtain rfl := Option.some.inj h113
                  exact ⟨_, rfl, rfl, (hS.sub (.c rfl (.c rfl (.c rfl .n))))⟩
              · clear hS
                rcases o111 with y117 | y117
                · rintro e s ⟨rfl, hS⟩
                  replace h := match_inl h
                  refine blockQ_exit ?_
                  refine WW.seq ?_
                  refine WW.region ?_
                  refine q_pu hS (wn rfl) rfl rfl rfl (v := .bool true) (aop_assign (hS.lk rfl)) fun s hS => ?_
                  refine KW.nil ?_
                  refine WW.ret ?_
                  have hres := (res_tmp hS (t := 2) (v := .bool true) rfl (res_nil (E := EV) (s := s)))
                  replace hS := hS.drop
                  replace hS := hS.drop
                  replace hS := hS.drop
                  replace hS := hS.drop
                  obtain rfl := Option.some.inj h
                  exact fin hS (.inr rfl) hres (v := .bool true) rfl ⟨((FLe.trans hF12 (FLe.trans hF21 (FLe.trans hF29 hF37)))), rfl, rfl⟩
                · rintro e s ⟨rfl, hfin⟩
                  replace h := match_inr h
                  obtain rfl := Option.some.inj h
                  exact hfin
            · rintro e s ⟨rfl, hfin⟩
              replace h := match_inr h
              obtain rfl := Option.some.inj h
              exact hfin
end Go.Proofs.YtjcbhbncncbdjaaGreatDoorAi
