import Derived.Test.YtcafgoomipkljaaGreatDoorApX1b
namespace Go.Proofs.YtcafgoomipkljaaGreatDoorAi
open Go Go.RowKit
set_option linter.unusedVariables false
set_option linter.unusedSimpArgs false
set_option maxRecDepth 100000
noncomputable def g_base_Ints.f (p0_0 : List Int) (p1_0 : List Int) : Option (Bool) :=
  Option.bind ((if ((p0_0.length : Int) == (p1_0.length : Int)) then Option.bind (g_base_Before.f p0_0 p1_0) fun y3 => some (!y3) else some false)) fun z1 => Option.bind ((if z1 then Option.bind (g_base_Before.f p1_0 p0_0) fun y7 => some (!y7) else some false)) fun z5 => some z5
set_option maxHeartbeats 4000000 in
theorem g_base_Ints.ok {ap0_2 : Option Addr} {zp0_3 : Nat} {ap1_2 : Option Addr} {zp1_3 : Nat} {p0_0 : List Int} {p1_0 : List Int} {F : FZ} {r : Bool} (h : g_base_Ints.f p0_0 p1_0 = some r) (hp0_4 : Frz (elI .i64 3) F ap0_2 zp0_3 p0_0) (hp1_4 : Frz (elI .i64 3) F ap1_2 zp1_3 p1_0) :
    Cl EV 42 [.slice ap0_2 p0_0.length zp0_3, .slice ap1_2 p1_0.length zp1_3] [] F (fun v S' F' => F = F' ∧ v = .bool r ∧ S' = []) := by
 refine Cl.of Tryz.func42 rfl (fun _ _ => rfl) (by kernel_rfl) fun s L nx0 hS => ?_
 unfold g_base_Ints.f at h
 refine WW.seq (WW.region ?_)
 refine q_seg0 tbok hS 1 [] [4] [.bool false] [] (by kernel_rfl) fun s hS => (KW.nil ?_)
 refine WW.seq (WW.region ?_)
 refine q_seg0 tbok hS 6 [] [10] [.bool ((p0_0.length : Int) == (p1_0.length : Int))] [] (by kernel_rfl) fun s hS => ?_
 obtain ⟨z1, hz1, h⟩ := bind_some h
 refine q_cut 5 (fun s => Stt EV s [(15, .bool z1), (0, .slice ap0_2 p0_0.length zp0_3), (1, .slice ap1_2 p1_0.length zp1_3), (4, .bool false)] [] F L F nx0) ?_ fun s hS => ?_
 refine bc hz1 (fun hc2 hz1 => ?_) fun hc2 hz1 => ?_
 replace hS := hS.kb 10 hc2 rfl
 refine q_seg0 tbok hS 2 [] [11, 12] [.slice ap0_2 p0_0.length zp0_3, .slice ap1_2 p1_0.length zp1_3] [] (by kernel_rfl) fun s hS => ?_
 obtain ⟨y3, hy3, hz1⟩ := bind_some hz1
 refine q_cl hS (wt hS rfl rfl rfl rfl) (vs := [.slice ap0_2 p0_0.length zp0_3, .slice ap1_2 p1_0.length zp1_3]) (ws := [.slice ap0_2 p0_0.length zp0_3, .slice ap1_2 p1_0.length zp1_3]) rfl rfl rfl rfl rfl 0 rfl (g_base_Before.ok hy3 hp0_4 hp1_4) fun s v S' F' hp4 hF hS => ?_
 obtain ⟨rfl, rfl, rfl⟩ := hp4
 refine q_seg0 tbok hS 2 [] [15] [.bool (!y3)] [] (by kernel_rfl) fun s hS => (KW.nil ?_)
 obtain rfl := Option.some.inj hz1
 exact hS.subR rfl
 replace hS := hS.kb 10 hc2 rfl
 refine q_seg0 tbok hS 5 [] [15] [.bool false] [] (by kernel_rfl) fun s hS => (KW.nil ?_)
 obtain rfl := Option.some.inj hz1
 exact hS.subR rfl
 refine q_seg0 tbok hS 1 [] [16] [.bool z1] [] (by kernel_rfl) fun s hS => ?_
 obtain ⟨z5, hz5, h⟩ := bind_some h
 refine q_cut 5 (fun s => Stt EV s [(21, .bool z5), (4, .bool false)] [] F L F nx0) ?_ fun s hS => ?_
 refine bc hz5 (fun hc6 hz5 => ?_) fun hc6 hz5 => ?_
 replace hS := hS.kb 15 hc6 rfl
 replace hS := hS.kb 16 hc6 rfl
 refine q_seg0 tbok hS 2 [] [17, 18] [.slice ap1_2 p1_0.length zp1_3, .slice ap0_2 p0_0.length zp0_3] [] (by kernel_rfl) fun s hS => ?_
 obtain ⟨y7, hy7, hz5⟩ := bind_some hz5
 refine q_cl hS (wt hS rfl rfl rfl rfl) (vs := [.slice ap1_2 p1_0.length zp1_3, .slice ap0_2 p0_0.length zp0_3]) (ws := [.slice ap1_2 p1_0.length zp1_3, .slice ap0_2 p0_0.length zp0_3]) rfl rfl rfl rfl rfl 0 rfl (g_base_Before.ok hy7 hp1_4 hp0_4) fun s v S' F' hp8 hF hS => ?_
 obtain ⟨rfl, rfl, rfl⟩ := hp8
 refine q_seg0 tbok hS 2 [] [21] [.bool (!y7)] [] (by kernel_rfl) fun s hS => (KW.nil ?_)
 obtain rfl := Option.some.inj hz5
 exact hS.subR rfl
 replace hS := hS.kb 15 hc6 rfl
 replace hS := hS.kb 16 hc6 rfl
 refine q_seg0 tbok hS 5 [] [21] [.bool false] [] (by kernel_rfl) fun s hS => (KW.nil ?_)
 obtain rfl := Option.some.inj hz5
 exact hS.subR rfl
 refine q_seg0 tbok hS 1 [] [4] [.bool z5] [] (by kernel_rfl) fun s hS => (KW.nil ?_)
 refine WW.ret ?_
 cases h
 exact fin1 hS (.inr rfl) 4 rfl rfl ⟨rfl, rfl, rfl⟩
/-! ### formulary/formularylaw02.awake (11) -/
noncomputable def g_law02_awake.f : Option (Bool) :=
  Option.bind (g_classify_Classify.f ([71, 79, 84, 79, 49, 48]) false) fun y1 => Option.bind (g_classify_ReadingsOf.f ([82, 69, 65, 76, 70, 85, 78, 67, 84, 73, 79, 78, 70, 40, 88, 41])) fun y9 => Option.bind (g_classify_Classify.f ([73, 70, 40, 65, 46, 71, 84, 46, 48, 41, 71, 79, 84, 79, 49, 48]) false) fun y17 => Option.bind (g_classify_SpacedOf.f ([68, 79, 49, 48, 73, 61, 49, 44, 49, 48]) 11 (-1) ([2, 4] : List Int)) fun y30 => Option.bind (g_classify_RefusalOf.f ([67, 65, 76, 76, 49])) fun y34 => (if ((y1.2.2.2 == 0) && (y1.1 == 2)) then Option.bind (g_base_Ints.f y1.2.2.1 ([4] : List Int)) fun y44 => Option.bind ((if ((y44 && (y9.2 == 0)) && ((y9.1.length : Int) == 2)) then (if 0 ≤ (0 : Int) ∧ (0 : Int) < (y9.1.length : Int) then some (((gt y9.1 (0 : Int)).1) == 28) else none) else some false)) fun z46 => Option.bind ((if z46 then (if 0 ≤ (1 : Int) ∧ (1 : Int) < (y9.1.length : Int) then some (((gt y9.1 (1 : Int)).1) == 40) else none) else some false)) fun z61 => some (((((((z61 && (y17.2.2.2 == 0)) && (y17.1 == 6)) && (y17.2.1 == 2)) && (y30.2 == 0)) && (decide (y30.1 = [68, 79, 32, 49, 48, 32, 73, 61, 49, 44, 49, 48]))) && (y34.2 == 3)) && (y34.1 == 14)) else some false)
set_option maxHeartbeats 4000000 in
theorem g_law02_awake.ok  {F : FZ} {r : Bool} (h : g_law02_awake.f = some r) (hG : Gl F) :
    Cl EV 11 [] [] F (fun v S' F' => FLe F F' ∧ v = .bool r ∧ S' = []) := by
 refine Cl.of Tryz.func11 rfl (fun _ _ => rfl) (by kernel_rfl) fun s L nx0 hS => ?_
 unfold g_law02_awake.f at h
 refine WW.seq (WW.region ?_)
 refine q_seg0 tbok hS 1 [] [0] [.bool false] [] (by kernel_rfl) fun s hS => (KW.nil ?_)
 refine WW.seq (WW.region ?_)
 obtain ⟨y1, hy1, h⟩ := bind_some h
 refine q_cK (g_classify_Classify.ok hy1 hG) tbok hS 0 12 0 rfl (by kernel_rfl) fun s v S' F3 hp2 hF hS => ?_
 obtain ⟨a4, z5, hF7, rfl, rfl, h6⟩ := hp2
 refine q_seg0 tbok hS 3 [] [13, 14] [.agg #[.int .i64 y1.1, .int .i64 y1.2.1, .slice a4 y1.2.2.1.length z5], .int .i64 y1.2.2.2] [] (by kernel_rfl) fun s hS => (q_nw hS (wn rfl) rfl rfl rfl (v := fun i => .pointer (some ⟨i, 0, none⟩)) (b := .row [.int .i64 0, .int .i64 0, .slice none 0 0] 24 0 true) (aop_alloc t0_24) fun s i8 hS => ?_)
 refine q_seg tbok hS 2 [0] [2] [.int .i64 y1.2.2.2] [i8] [[(i8, .row [.int .i64 y1.1, .int .i64 y1.2.1, .slice a4 y1.2.2.1.length z5] 24 0 true)]] (by kernel_rfl) fun s hS => (KW.nil ?_)
 refine WW.seq (WW.region ?_)
 obtain ⟨y9, hy9, h⟩ := bind_some h
 refine q_cK (g_classify_ReadingsOf.ok hy9 (hG.mono hF7)) tbok hS 0 16 0 rfl (by kernel_rfl) fun s v S' F11 hp10 hF hS => ?_
 obtain ⟨a12, z13, B15, hF16, rfl, rfl, h14⟩ := hp10
 refine q_seg0 tbok hS 5 [] [3, 4] [.slice a12 y9.1.length z13, .int .i64 y9.2] [] (by kernel_rfl) fun s hS => (KW.nil ?_)
 refine WW.seq (WW.region ?_)
 obtain ⟨y17, hy17, h⟩ := bind_some h
 refine q_cK (g_classify_Classify.ok hy17 (hG.mono (FLe.trans hF7 hF16))) tbok hS 0 20 0 rfl (by kernel_rfl) fun s v S' F19 hp18 hF hS => ?_
 obtain ⟨a20, z21, hF23, rfl, rfl, h22⟩ := hp18
 refine q_seg0 tbok hS 3 [] [21, 22] [.agg #[.int .i64 y17.1, .int .i64 y17.2.1, .slice a20 y17.2.2.1.length z21], .int .i64 y17.2.2.2] [] (by kernel_rfl) fun s hS => (q_nw hS (wn rfl) rfl rfl rfl (v := fun i => .pointer (some ⟨i, 0, none⟩)) (b := .row [.int .i64 0, .int .i64 0, .slice none 0 0] 24 0 true) (aop_alloc t0_24) fun s i24 hS => ?_)
 refine q_seg tbok hS 2 [0] [6] [.int .i64 y17.2.2.2] [i24] [[(i24, .row [.int .i64 y17.1, .int .i64 y17.2.1, .slice a20 y17.2.2.1.length z21] 24 0 true)], B15, [(i8, .row [.int .i64 y1.1, .int .i64 y1.2.1, .slice a4 y1.2.2.1.length z5] 24 0 true)]] (by kernel_rfl) fun s hS => (KW.nil ?_)
 refine WW.seq (WW.region ?_)
 refine q_nw hS (wn rfl) rfl rfl rfl (v := fun i => .slice (some ⟨i, 0, none⟩) 2 1) (b := .row [.int .i64 2, .int .i64 4] 3 1 true) (aop_bsl tu22 tz3 t0_3 rfl [(0, .int .i64 2), (1, .int .i64 4)] (parts_eq hS rfl) rfl) fun s i25 hS => ?_
 have hC26 : Cells (elI .i64 3) F19 ([2, 4] : List Int) [.int .i64 2, .int .i64 4] := ⟨[.int .i64 2], [.int .i64 4], rfl, rfl, ⟨[.int .i64 4], [], rfl, rfl, rfl⟩⟩
 refine q_pu hS (wn rfl) rfl rfl rfl (v := .agg #[.int .i64 11, .int .i64 (-1), .slice (some ⟨i25, 0, none⟩) ([2, 4] : List Int).length 1]) (aop_bld t0_24 tp24 [(0, .int .i64 11), (1, .int .i64 (-1)), (2, .slice (some ⟨i25, 0, none⟩) ([2, 4] : List Int).length 1)] (parts_eq hS rfl) (cs := [.int .i64 11, .int .i64 (-1), .slice (some ⟨i25, 0, none⟩) ([2, 4] : List Int).length 1]) rfl) fun s hS => ?_
 obtain ⟨F27, hF28, hS, hz29⟩ := hS.frzO (Own.blk0 hC26)
 obtain ⟨y30, hy30, h⟩ := bind_some h
 refine q_cK (g_classify_SpacedOf.ok hy30 hz29 (hG.mono (FLe.trans hF7 (FLe.trans hF16 (FLe.trans hF23 hF28))))) tbok hS 0 26 0 rfl (by kernel_rfl) fun s v S' F32 hp31 hF hS => ?_
 obtain ⟨hF33, rfl, rfl⟩ := hp31
 refine q_seg0 tbok hS 5 [] [7, 8] [strV y30.1, .int .i64 y30.2] [] (by kernel_rfl) fun s hS => (KW.nil ?_)
 refine WW.seq (WW.region ?_)
 obtain ⟨y34, hy34, h⟩ := bind_some h
 refine q_cK (g_classify_RefusalOf.ok hy34 (hG.mono (FLe.trans hF7 (FLe.trans hF16 (FLe.trans hF23 (FLe.trans hF28 hF33)))))) tbok hS 0 30 0 rfl (by kernel_rfl) fun s v S' F36 hp35 hF hS => ?_
 obtain ⟨hF37, rfl, rfl⟩ := hp35
 refine q_seg0 tbok hS 5 [] [9, 10] [.int .i64 y34.1, .int .i64 y34.2] [] (by kernel_rfl) fun s hS => (KW.nil ?_)
 refine WW.seq (WW.region ?_)
 refine q_seg0 tbok hS 3 [] [35] [.bool (y1.2.2.2 == 0)] [] (by kernel_rfl) fun s hS => (q_cut 4 (fun s => Stt EV s [(39, .bool ((y1.2.2.2 == 0) && (y1.1 == 2))), (0, .bool false), (1, .pointer (some ⟨i8, 0, none⟩)), (3, .slice a12 y9.1.length z13), (4, .int .i64 y9.2), (5, .pointer (some ⟨i24, 0, none⟩)), (6, .int .i64 y17.2.2.2), (7, strV y30.1), (8, .int .i64 y30.2), (9, .int .i64 y34.1), (10, .int .i64 y34.2)] [[(i24, .row [.int .i64 y17.1, .int .i64 y17.2.1, .slice a20 y17.2.2.1.length z21] 24 0 true)], B15, [(i8, .row [.int .i64 y1.1, .int .i64 y1.2.1, .slice a4 y1.2.2.1.length z5] 24 0 true)]] F36 L F nx0) ?_ fun s hS => ?_)
 rcases bool_cases ((y1.2.2.2 == 0)) with hcj | hcj
 replace hS := hS.know (t := 35) rfl (congrArg Value.bool hcj)
 refine q_seg0 tbok hS 4 [2] [39] [.bool (y1.1 == 2)] [i8] (by kernel_rfl) fun s hS => (KW.nil ?_)
 exact (hS.know (t := 39) (u' := .bool ((y1.2.2.2 == 0) && (y1.1 == 2))) rfl (jn_and_t hcj)).subR rfl
 replace hS := hS.know (t := 35) rfl (congrArg Value.bool hcj)
 refine q_seg0 tbok hS 4 [] [39] [.bool false] [] (by kernel_rfl) fun s hS => (KW.nil ?_)
 exact (hS.know (t := 39) (u' := .bool ((y1.2.2.2 == 0) && (y1.1 == 2))) rfl (jn_and_f hcj)).subR rfl
 refine q_seg0 tbok hS 1 [] [40] [.bool ((y1.2.2.2 == 0) && (y1.1 == 2))] [] (by kernel_rfl) fun s hS => (bc h (fun hc38 h => ?_) fun hc38 h => ?_)
 replace hS := hS.kb 39 hc38 rfl
 replace hS := hS.kb 40 hc38 rfl
 refine q_seg0 tbok hS 2 [2] [42] [.slice a4 y1.2.2.1.length z5] [i8] (by kernel_rfl) fun s hS => (q_nw hS (wt hS rfl rfl rfl rfl) rfl rfl rfl (v := fun i => .slice (some ⟨i, 0, none⟩) 1 1) (b := .row [.int .i64 4] 3 1 true) (aop_bsl tu22 tz3 t0_3 rfl [(0, .int .i64 4)] (parts_eq hS rfl) rfl) fun s i39 hS => ?_)
 have hC40 : Cells (elI .i64 3) F36 ([4] : List Int) [.int .i64 4] := ⟨[.int .i64 4], [], rfl, rfl, rfl⟩
 obtain ⟨F41, hF42, hS, hz43⟩ := hS.frzO (Own.blk0 hC40)
 obtain ⟨y44, hy44, h⟩ := bind_some h
 refine q_cl hS (wt hS rfl rfl rfl rfl) (vs := [.slice a4 y1.2.2.1.length z5, .slice (some ⟨i39, 0, none⟩) ([4] : List Int).length 1]) (ws := [.slice a4 y1.2.2.1.length z5, .slice (some ⟨i39, 0, none⟩) ([4] : List Int).length 1]) rfl rfl rfl rfl rfl 0 rfl (g_base_Ints.ok hy44 (h6.mono (FLe.trans hF16 (FLe.trans hF23 (FLe.trans hF28 (FLe.trans hF33 (FLe.trans hF37 hF42)))))) hz43) fun s v S' F' hp45 hF hS => ?_
 obtain ⟨rfl, rfl, rfl⟩ := hp45
 refine q_seg0 tbok hS 2 [] [46] [.bool y44] [] (by kernel_rfl) fun s hS => (q_cut 3 (fun s => Stt EV s [(49, .bool (y44 && (y9.2 == 0))), (0, .bool false), (3, .slice a12 y9.1.length z13), (5, .pointer (some ⟨i24, 0, none⟩)), (6, .int .i64 y17.2.2.2), (7, strV y30.1), (8, .int .i64 y30.2), (9, .int .i64 y34.1), (10, .int .i64 y34.2)] [[(i24, .row [.int .i64 y17.1, .int .i64 y17.2.1, .slice a20 y17.2.2.1.length z21] 24 0 true)], B15, [(i8, .row [.int .i64 y1.1, .int .i64 y1.2.1, .slice a4 y1.2.2.1.length z5] 24 0 true)]] F41 L F nx0) ?_ fun s hS => ?_)
 rcases bool_cases (y44) with hcj | hcj
 replace hS := hS.know (t := 44) rfl (congrArg Value.bool hcj)
 replace hS := hS.know (t := 46) rfl (congrArg Value.bool hcj)
 refine q_seg0 tbok hS 3 [] [49] [.bool (y9.2 == 0)] [] (by kernel_rfl) fun s hS => (KW.nil ?_)
 exact (hS.know (t := 49) (u' := .bool (y44 && (y9.2 == 0))) rfl (jn_and_t hcj)).subR rfl
 replace hS := hS.know (t := 44) rfl (congrArg Value.bool hcj)
 replace hS := hS.know (t := 46) rfl (congrArg Value.bool hcj)
 refine q_seg0 tbok hS 3 [] [49] [.bool false] [] (by kernel_rfl) fun s hS => (KW.nil ?_)
 exact (hS.know (t := 49) (u' := .bool (y44 && (y9.2 == 0))) rfl (jn_and_f hcj)).subR rfl
 refine q_seg0 tbok hS 1 [] [50] [.bool (y44 && (y9.2 == 0))] [] (by kernel_rfl) fun s hS => (q_cut 4 (fun s => Stt EV s [(54, .bool ((y44 && (y9.2 == 0)) && ((y9.1.length : Int) == 2))), (0, .bool false), (3, .slice a12 y9.1.length z13), (5, .pointer (some ⟨i24, 0, none⟩)), (6, .int .i64 y17.2.2.2), (7, strV y30.1), (8, .int .i64 y30.2), (9, .int .i64 y34.1), (10, .int .i64 y34.2)] [[(i24, .row [.int .i64 y17.1, .int .i64 y17.2.1, .slice a20 y17.2.2.1.length z21] 24 0 true)], B15, [(i8, .row [.int .i64 y1.1, .int .i64 y1.2.1, .slice a4 y1.2.2.1.length z5] 24 0 true)]] F41 L F nx0) ?_ fun s hS => ?_)
 rcases bool_cases ((y44 && (y9.2 == 0))) with hcj | hcj
 replace hS := hS.know (t := 49) rfl (congrArg Value.bool hcj)
 replace hS := hS.know (t := 50) rfl (congrArg Value.bool hcj)
 refine q_seg0 tbok hS 4 [] [54] [.bool ((y9.1.length : Int) == 2)] [] (by kernel_rfl) fun s hS => (KW.nil ?_)
 exact (hS.know (t := 54) (u' := .bool ((y44 && (y9.2 == 0)) && ((y9.1.length : Int) == 2))) rfl (jn_and_t hcj)).subR rfl
 replace hS := hS.know (t := 49) rfl (congrArg Value.bool hcj)
 replace hS := hS.know (t := 50) rfl (congrArg Value.bool hcj)
 refine q_seg0 tbok hS 4 [] [54] [.bool false] [] (by kernel_rfl) fun s hS => (KW.nil ?_)
 exact (hS.know (t := 54) (u' := .bool ((y44 && (y9.2 == 0)) && ((y9.1.length : Int) == 2))) rfl (jn_and_f hcj)).subR rfl
 refine q_seg0 tbok hS 1 [] [55] [.bool ((y44 && (y9.2 == 0)) && ((y9.1.length : Int) == 2))] [] (by kernel_rfl) fun s hS => ?_
 obtain ⟨z46, hz46, h⟩ := bind_some h
 refine q_cut 6 (fun s => Stt EV s [(61, .bool z46), (0, .bool false), (3, .slice a12 y9.1.length z13), (5, .pointer (some ⟨i24, 0, none⟩)), (6, .int .i64 y17.2.2.2), (7, strV y30.1), (8, .int .i64 y30.2), (9, .int .i64 y34.1), (10, .int .i64 y34.2)] [[(i24, .row [.int .i64 y17.1, .int .i64 y17.2.1, .slice a20 y17.2.2.1.length z21] 24 0 true)], B15, [(i8, .row [.int .i64 y1.1, .int .i64 y1.2.1, .slice a4 y1.2.2.1.length z5] 24 0 true)]] F41 L F nx0) ?_ fun s hS => ?_
 refine bc hz46 (fun hc47 hz46 => ?_) fun hc47 hz46 => ?_
 replace hS := hS.kb 54 hc47 rfl
 replace hS := hS.kb 55 hc47 rfl
 refine q_seg0 tbok hS 1 [] [56] [.slice a12 y9.1.length z13] [] (by kernel_rfl) fun s hS => ?_
 obtain ⟨hk48, hz46⟩ := ite_some hz46
 obtain ⟨i54, cs55, ex56, rfl, rfl, rfl, hC57⟩ := Own.some_ h14 (by omega)
 obtain ⟨c49, hR50, hN52, hN51, hT53⟩ := Cells.loadF (hC57.mono (FLe.trans hF23 (FLe.trans hF28 (FLe.trans hF33 (FLe.trans hF37 hF42))))) ex56 hk48 (z := 3) rfl
 obtain ⟨a58, z59, rfl, hz60⟩ := hR50
 refine q_pu hS (wt hS rfl rfl rfl rfl) rfl rfl rfl (v := .pointer (some ⟨i54, 0 + ((0 : Int)).toNat * 3, none⟩)) (aop_ia (hS.lk rfl) (hS.lk rfl) te36 hk48) fun s hS => (q_pu hS (wt hS rfl rfl rfl rfl) rfl rfl rfl (v := .pointer (some ⟨i54, 0 + ((0 : Int)).toNat * 3 + 0, none⟩)) (aop_fa (hS.lk rfl) tf24_0 rfl rfl) fun s hS => ?_)
 refine q_ld hS (wt hS rfl rfl rfl rfl) rfl rfl rfl (hS.at (k := 1) rfl) tg3 (v := .int .i64 ((gt y9.1 (0 : Int)).1)) (hN52 0 (by decide)) fun s hS => (q_seg0 tbok hS 2 [] [61] [.bool (((gt y9.1 (0 : Int)).1) == 28)] [] (by kernel_rfl) fun s hS => ?_)
 refine KW.nil ?_
 obtain rfl := Option.some.inj hz46
 exact hS.subR rfl
 replace hS := hS.kb 54 hc47 rfl
 replace hS := hS.kb 55 hc47 rfl
 refine q_seg0 tbok hS 6 [] [61] [.bool false] [] (by kernel_rfl) fun s hS => (KW.nil ?_)
 obtain rfl := Option.some.inj hz46
 exact hS.subR rfl
 refine q_seg0 tbok hS 1 [] [62] [.bool z46] [] (by kernel_rfl) fun s hS => ?_
 obtain ⟨z61, hz61, h⟩ := bind_some h
 refine q_cut 6 (fun s => Stt EV s [(68, .bool z61), (0, .bool false), (5, .pointer (some ⟨i24, 0, none⟩)), (6, .int .i64 y17.2.2.2), (7, strV y30.1), (8, .int .i64 y30.2), (9, .int .i64 y34.1), (10, .int .i64 y34.2)] [[(i24, .row [.int .i64 y17.1, .int .i64 y17.2.1, .slice a20 y17.2.2.1.length z21] 24 0 true)], B15, [(i8, .row [.int .i64 y1.1, .int .i64 y1.2.1, .slice a4 y1.2.2.1.length z5] 24 0 true)]] F41 L F nx0) ?_ fun s hS => ?_
 refine bc hz61 (fun hc62 hz61 => ?_) fun hc62 hz61 => ?_
 replace hS := hS.kb 61 hc62 rfl
 replace hS := hS.kb 62 hc62 rfl
 refine q_seg0 tbok hS 1 [] [63] [.slice a12 y9.1.length z13] [] (by kernel_rfl) fun s hS => ?_
 obtain ⟨hk63, hz61⟩ := ite_some hz61
 obtain ⟨i69, cs70, ex71, rfl, rfl, rfl, hC72⟩ := Own.some_ h14 (by omega)
 obtain ⟨c64, hR65, hN67, hN66, hT68⟩ := Cells.loadF (hC72.mono (FLe.trans hF23 (FLe.trans hF28 (FLe.trans hF33 (FLe.trans hF37 hF42))))) ex71 hk63 (z := 3) rfl
 obtain ⟨a73, z74, rfl, hz75⟩ := hR65
 refine q_pu hS (wt hS rfl rfl rfl rfl) rfl rfl rfl (v := .pointer (some ⟨i69, 0 + ((1 : Int)).toNat * 3, none⟩)) (aop_ia (hS.lk rfl) (hS.lk rfl) te36 hk63) fun s hS => (q_pu hS (wt hS rfl rfl rfl rfl) rfl rfl rfl (v := .pointer (some ⟨i69, 0 + ((1 : Int)).toNat * 3 + 0, none⟩)) (aop_fa (hS.lk rfl) tf24_0 rfl rfl) fun s hS => ?_)
 refine q_ld hS (wt hS rfl rfl rfl rfl) rfl rfl rfl (hS.at (k := 1) rfl) tg3 (v := .int .i64 ((gt y9.1 (1 : Int)).1)) (hN67 0 (by decide)) fun s hS => (q_seg0 tbok hS 2 [] [68] [.bool (((gt y9.1 (1 : Int)).1) == 40)] [] (by kernel_rfl) fun s hS => ?_)
 refine KW.nil ?_
 obtain rfl := Option.some.inj hz61
 exact hS.subR rfl
 replace hS := hS.kb 61 hc62 rfl
 replace hS := hS.kb 62 hc62 rfl
 refine q_seg0 tbok hS 6 [] [68] [.bool false] [] (by kernel_rfl) fun s hS => (KW.nil ?_)
 obtain rfl := Option.some.inj hz61
 exact hS.subR rfl
 refine q_seg0 tbok hS 1 [] [69] [.bool z61] [] (by kernel_rfl) fun s hS => (q_cut 3 (fun s => Stt EV s [(72, .bool (z61 && (y17.2.2.2 == 0))), (0, .bool false), (5, .pointer (some ⟨i24, 0, none⟩)), (7, strV y30.1), (8, .int .i64 y30.2), (9, .int .i64 y34.1), (10, .int .i64 y34.2)] [[(i24, .row [.int .i64 y17.1, .int .i64 y17.2.1, .slice a20 y17.2.2.1.length z21] 24 0 true)], B15, [(i8, .row [.int .i64 y1.1, .int .i64 y1.2.1, .slice a4 y1.2.2.1.length z5] 24 0 true)]] F41 L F nx0) ?_ fun s hS => ?_)
 rcases bool_cases (z61) with hcj | hcj
 replace hS := hS.know (t := 68) rfl (congrArg Value.bool hcj)
 replace hS := hS.know (t := 69) rfl (congrArg Value.bool hcj)
 refine q_seg0 tbok hS 3 [] [72] [.bool (y17.2.2.2 == 0)] [] (by kernel_rfl) fun s hS => (KW.nil ?_)
 exact (hS.know (t := 72) (u' := .bool (z61 && (y17.2.2.2 == 0))) rfl (jn_and_t hcj)).subR rfl
 replace hS := hS.know (t := 68) rfl (congrArg Value.bool hcj)
 replace hS := hS.know (t := 69) rfl (congrArg Value.bool hcj)
 refine q_seg0 tbok hS 3 [] [72] [.bool false] [] (by kernel_rfl) fun s hS => (KW.nil ?_)
 exact (hS.know (t := 72) (u' := .bool (z61 && (y17.2.2.2 == 0))) rfl (jn_and_f hcj)).subR rfl
 refine q_seg0 tbok hS 1 [] [73] [.bool (z61 && (y17.2.2.2 == 0))] [] (by kernel_rfl) fun s hS => (q_cut 4 (fun s => Stt EV s [(77, .bool ((z61 && (y17.2.2.2 == 0)) && (y17.1 == 6))), (0, .bool false), (5, .pointer (some ⟨i24, 0, none⟩)), (7, strV y30.1), (8, .int .i64 y30.2), (9, .int .i64 y34.1), (10, .int .i64 y34.2)] [[(i24, .row [.int .i64 y17.1, .int .i64 y17.2.1, .slice a20 y17.2.2.1.length z21] 24 0 true)], B15, [(i8, .row [.int .i64 y1.1, .int .i64 y1.2.1, .slice a4 y1.2.2.1.length z5] 24 0 true)]] F41 L F nx0) ?_ fun s hS => ?_)
 rcases bool_cases ((z61 && (y17.2.2.2 == 0))) with hcj | hcj
 replace hS := hS.know (t := 72) rfl (congrArg Value.bool hcj)
 replace hS := hS.know (t := 73) rfl (congrArg Value.bool hcj)
 refine q_seg0 tbok hS 4 [0] [77] [.bool (y17.1 == 6)] [i24] (by kernel_rfl) fun s hS => (KW.nil ?_)
 exact (hS.know (t := 77) (u' := .bool ((z61 && (y17.2.2.2 == 0)) && (y17.1 == 6))) rfl (jn_and_t hcj)).subR rfl
 replace hS := hS.know (t := 72) rfl (congrArg Value.bool hcj)
 replace hS := hS.know (t := 73) rfl (congrArg Value.bool hcj)
 refine q_seg0 tbok hS 4 [] [77] [.bool false] [] (by kernel_rfl) fun s hS => (KW.nil ?_)
 exact (hS.know (t := 77) (u' := .bool ((z61 && (y17.2.2.2 == 0)) && (y17.1 == 6))) rfl (jn_and_f hcj)).subR rfl
 refine q_seg0 tbok hS 1 [] [78] [.bool ((z61 && (y17.2.2.2 == 0)) && (y17.1 == 6))] [] (by kernel_rfl) fun s hS => (q_cut 4 (fun s => Stt EV s [(82, .bool (((z61 && (y17.2.2.2 == 0)) && (y17.1 == 6)) && (y17.2.1 == 2))), (0, .bool false), (7, strV y30.1), (8, .int .i64 y30.2), (9, .int .i64 y34.1), (10, .int .i64 y34.2)] [[(i24, .row [.int .i64 y17.1, .int .i64 y17.2.1, .slice a20 y17.2.2.1.length z21] 24 0 true)], B15, [(i8, .row [.int .i64 y1.1, .int .i64 y1.2.1, .slice a4 y1.2.2.1.length z5] 24 0 true)]] F41 L F nx0) ?_ fun s hS => ?_)
 rcases bool_cases (((z61 && (y17.2.2.2 == 0)) && (y17.1 == 6))) with hcj | hcj
 replace hS := hS.know (t := 77) rfl (congrArg Value.bool hcj)
 replace hS := hS.know (t := 78) rfl (congrArg Value.bool hcj)
 refine q_seg0 tbok hS 4 [0] [82] [.bool (y17.2.1 == 2)] [i24] (by kernel_rfl) fun s hS => (KW.nil ?_)
 exact (hS.know (t := 82) (u' := .bool (((z61 && (y17.2.2.2 == 0)) && (y17.1 == 6)) && (y17.2.1 == 2))) rfl (jn_and_t hcj)).subR rfl
 replace hS := hS.know (t := 77) rfl (congrArg Value.bool hcj)
 replace hS := hS.know (t := 78) rfl (congrArg Value.bool hcj)
 refine q_seg0 tbok hS 4 [] [82] [.bool false] [] (by kernel_rfl) fun s hS => (KW.nil ?_)
 exact (hS.know (t := 82) (u' := .bool (((z61 && (y17.2.2.2 == 0)) && (y17.1 == 6)) && (y17.2.1 == 2))) rfl (jn_and_f hcj)).subR rfl
 refine q_seg0 tbok hS 1 [] [83] [.bool (((z61 && (y17.2.2.2 == 0)) && (y17.1 == 6)) && (y17.2.1 == 2))] [] (by kernel_rfl) fun s hS => (q_cut 3 (fun s => Stt EV s [(86, .bool ((((z61 && (y17.2.2.2 == 0)) && (y17.1 == 6)) && (y17.2.1 == 2)) && (y30.2 == 0))), (0, .bool false), (7, strV y30.1), (9, .int .i64 y34.1), (10, .int .i64 y34.2)] [[(i24, .row [.int .i64 y17.1, .int .i64 y17.2.1, .slice a20 y17.2.2.1.length z21] 24 0 true)], B15, [(i8, .row [.int .i64 y1.1, .int .i64 y1.2.1, .slice a4 y1.2.2.1.length z5] 24 0 true)]] F41 L F nx0) ?_ fun s hS => ?_)
 rcases bool_cases ((((z61 && (y17.2.2.2 == 0)) && (y17.1 == 6)) && (y17.2.1 == 2))) with hcj | hcj
 replace hS := hS.know (t := 82) rfl (congrArg Value.bool hcj)
 replace hS := hS.know (t := 83) rfl (congrArg Value.bool hcj)
 refine q_seg0 tbok hS 3 [] [86] [.bool (y30.2 == 0)] [] (by kernel_rfl) fun s hS => (KW.nil ?_)
 exact (hS.know (t := 86) (u' := .bool ((((z61 && (y17.2.2.2 == 0)) && (y17.1 == 6)) && (y17.2.1 == 2)) && (y30.2 == 0))) rfl (jn_and_t hcj)).subR rfl
 replace hS := hS.know (t := 82) rfl (congrArg Value.bool hcj)
 replace hS := hS.know (t := 83) rfl (congrArg Value.bool hcj)
 refine q_seg0 tbok hS 3 [] [86] [.bool false] [] (by kernel_rfl) fun s hS => (KW.nil ?_)
 exact (hS.know (t := 86) (u' := .bool ((((z61 && (y17.2.2.2 == 0)) && (y17.1 == 6)) && (y17.2.1 == 2)) && (y30.2 == 0))) rfl (jn_and_f hcj)).subR rfl
 refine q_seg0 tbok hS 1 [] [87] [.bool ((((z61 && (y17.2.2.2 == 0)) && (y17.1 == 6)) && (y17.2.1 == 2)) && (y30.2 == 0))] [] (by kernel_rfl) fun s hS => (q_cut 3 (fun s => Stt EV s [(90, .bool (((((z61 && (y17.2.2.2 == 0)) && (y17.1 == 6)) && (y17.2.1 == 2)) && (y30.2 == 0)) && (decide (y30.1 = [68, 79, 32, 49, 48, 32, 73, 61, 49, 44, 49, 48])))), (0, .bool false), (9, .int .i64 y34.1), (10, .int .i64 y34.2)] [[(i24, .row [.int .i64 y17.1, .int .i64 y17.2.1, .slice a20 y17.2.2.1.length z21] 24 0 true)], B15, [(i8, .row [.int .i64 y1.1, .int .i64 y1.2.1, .slice a4 y1.2.2.1.length z5] 24 0 true)]] F41 L F nx0) ?_ fun s hS => ?_)
 rcases bool_cases (((((z61 && (y17.2.2.2 == 0)) && (y17.1 == 6)) && (y17.2.1 == 2)) && (y30.2 == 0))) with hcj | hcj
 replace hS := hS.know (t := 86) rfl (congrArg Value.bool hcj)
 replace hS := hS.know (t := 87) rfl (congrArg Value.bool hcj)
 refine q_seg0 tbok hS 1 [] [88] [strV y30.1] [] (by kernel_rfl) fun s hS => (q_pu hS (wt hS rfl rfl rfl rfl) rfl rfl rfl (v := .bool (decide (y30.1 = [68, 79, 32, 49, 48, 32, 73, 61, 49, 44, 49, 48]))) (aop_seq (hS.lk rfl) (hS.lk rfl)) fun s hS => ?_)
 refine q_seg0 tbok hS 1 [] [90] [.bool (decide (y30.1 = [68, 79, 32, 49, 48, 32, 73, 61, 49, 44, 49, 48]))] [] (by kernel_rfl) fun s hS => (KW.nil ?_)
 exact (hS.know (t := 90) (u' := .bool (((((z61 && (y17.2.2.2 == 0)) && (y17.1 == 6)) && (y17.2.1 == 2)) && (y30.2 == 0)) && (decide (y30.1 = [68, 79, 32, 49, 48, 32, 73, 61, 49, 44, 49, 48])))) rfl (jn_and_t hcj)).subR rfl
 replace hS := hS.know (t := 86) rfl (congrArg Value.bool hcj)
 replace hS := hS.know (t := 87) rfl (congrArg Value.bool hcj)
 refine q_seg0 tbok hS 3 [] [90] [.bool false] [] (by kernel_rfl) fun s hS => (KW.nil ?_)
 exact (hS.know (t := 90) (u' := .bool (((((z61 && (y17.2.2.2 == 0)) && (y17.1 == 6)) && (y17.2.1 == 2)) && (y30.2 == 0)) && (decide (y30.1 = [68, 79, 32, 49, 48, 32, 73, 61, 49, 44, 49, 48])))) rfl (jn_and_f hcj)).subR rfl
 refine q_seg0 tbok hS 1 [] [91] [.bool (((((z61 && (y17.2.2.2 == 0)) && (y17.1 == 6)) && (y17.2.1 == 2)) && (y30.2 == 0)) && (decide (y30.1 = [68, 79, 32, 49, 48, 32, 73, 61, 49, 44, 49, 48])))] [] (by kernel_rfl) fun s hS => (q_cut 3 (fun s => Stt EV s [(94, .bool ((((((z61 && (y17.2.2.2 == 0)) && (y17.1 == 6)) && (y17.2.1 == 2)) && (y30.2 == 0)) && (decide (y30.1 = [68, 79, 32, 49, 48, 32, 73, 61, 49, 44, 49, 48]))) && (y34.2 == 3))), (0, .bool false), (9, .int .i64 y34.1)] [[(i24, .row [.int .i64 y17.1, .int .i64 y17.2.1, .slice a20 y17.2.2.1.length z21] 24 0 true)], B15, [(i8, .row [.int .i64 y1.1, .int .i64 y1.2.1, .slice a4 y1.2.2.1.length z5] 24 0 true)]] F41 L F nx0) ?_ fun s hS => ?_)
 rcases bool_cases ((((((z61 && (y17.2.2.2 == 0)) && (y17.1 == 6)) && (y17.2.1 == 2)) && (y30.2 == 0)) && (decide (y30.1 = [68, 79, 32, 49, 48, 32, 73, 61, 49, 44, 49, 48])))) with hcj | hcj
 replace hS := hS.know (t := 90) rfl (congrArg Value.bool hcj)
 replace hS := hS.know (t := 91) rfl (congrArg Value.bool hcj)
 refine q_seg0 tbok hS 3 [] [94] [.bool (y34.2 == 3)] [] (by kernel_rfl) fun s hS => (KW.nil ?_)
 exact (hS.know (t := 94) (u' := .bool ((((((z61 && (y17.2.2.2 == 0)) && (y17.1 == 6)) && (y17.2.1 == 2)) && (y30.2 == 0)) && (decide (y30.1 = [68, 79, 32, 49, 48, 32, 73, 61, 49, 44, 49, 48]))) && (y34.2 == 3))) rfl (jn_and_t hcj)).subR rfl
 replace hS := hS.know (t := 90) rfl (congrArg Value.bool hcj)
 replace hS := hS.know (t := 91) rfl (congrArg Value.bool hcj)
 refine q_seg0 tbok hS 3 [] [94] [.bool false] [] (by kernel_rfl) fun s hS => (KW.nil ?_)
 exact (hS.know (t := 94) (u' := .bool ((((((z61 && (y17.2.2.2 == 0)) && (y17.1 == 6)) && (y17.2.1 == 2)) && (y30.2 == 0)) && (decide (y30.1 = [68, 79, 32, 49, 48, 32, 73, 61, 49, 44, 49, 48]))) && (y34.2 == 3))) rfl (jn_and_f hcj)).subR rfl
 refine q_seg0 tbok hS 1 [] [95] [.bool ((((((z61 && (y17.2.2.2 == 0)) && (y17.1 == 6)) && (y17.2.1 == 2)) && (y30.2 == 0)) && (decide (y30.1 = [68, 79, 32, 49, 48, 32, 73, 61, 49, 44, 49, 48]))) && (y34.2 == 3))] [] (by kernel_rfl) fun s hS => (q_cut 3 (fun s => Stt EV s [(98, .bool (((((((z61 && (y17.2.2.2 == 0)) && (y17.1 == 6)) && (y17.2.1 == 2)) && (y30.2 == 0)) && (decide (y30.1 = [68, 79, 32, 49, 48, 32, 73, 61, 49, 44, 49, 48]))) && (y34.2 == 3)) && (y34.1 == 14))), (0, .bool false)] [[(i24, .row [.int .i64 y17.1, .int .i64 y17.2.1, .slice a20 y17.2.2.1.length z21] 24 0 true)], B15, [(i8, .row [.int .i64 y1.1, .int .i64 y1.2.1, .slice a4 y1.2.2.1.length z5] 24 0 true)]] F41 L F nx0) ?_ fun s hS => ?_)
 rcases bool_cases (((((((z61 && (y17.2.2.2 == 0)) && (y17.1 == 6)) && (y17.2.1 == 2)) && (y30.2 == 0)) && (decide (y30.1 = [68, 79, 32, 49, 48, 32, 73, 61, 49, 44, 49, 48]))) && (y34.2 == 3))) with hcj | hcj
 replace hS := hS.know (t := 94) rfl (congrArg Value.bool hcj)
 replace hS := hS.know (t := 95) rfl (congrArg Value.bool hcj)
 refine q_seg0 tbok hS 3 [] [98] [.bool (y34.1 == 14)] [] (by kernel_rfl) fun s hS => (KW.nil ?_)
 exact (hS.know (t := 98) (u' := .bool (((((((z61 && (y17.2.2.2 == 0)) && (y17.1 == 6)) && (y17.2.1 == 2)) && (y30.2 == 0)) && (decide (y30.1 = [68, 79, 32, 49, 48, 32, 73, 61, 49, 44, 49, 48]))) && (y34.2 == 3)) && (y34.1 == 14))) rfl (jn_and_t hcj)).subR rfl
 replace hS := hS.know (t := 94) rfl (congrArg Value.bool hcj)
 replace hS := hS.know (t := 95) rfl (congrArg Value.bool hcj)
 refine q_seg0 tbok hS 3 [] [98] [.bool false] [] (by kernel_rfl) fun s hS => (KW.nil ?_)
 exact (hS.know (t := 98) (u' := .bool (((((((z61 && (y17.2.2.2 == 0)) && (y17.1 == 6)) && (y17.2.1 == 2)) && (y30.2 == 0)) && (decide (y30.1 = [68, 79, 32, 49, 48, 32, 73, 61, 49, 44, 49, 48]))) && (y34.2 == 3)) && (y34.1 == 14))) rfl (jn_and_f hcj)).subR rfl
 refine q_seg0 tbok hS 1 [] [0] [.bool (((((((z61 && (y17.2.2.2 == 0)) && (y17.1 == 6)) && (y17.2.1 == 2)) && (y30.2 == 0)) && (decide (y30.1 = [68, 79, 32, 49, 48, 32, 73, 61, 49, 44, 49, 48]))) && (y34.2 == 3)) && (y34.1 == 14))] [] (by kernel_rfl) fun s hS => (KW.nil ?_)
 refine WW.ret ?_
 replace hS := hS.drop
 replace hS := hS.drop
 replace hS := hS.drop
 cases h
 exact fin1 hS (.inr rfl) 0 rfl rfl ⟨((FLe.trans hF7 (FLe.trans hF16 (FLe.trans hF23 (FLe.trans hF28 (FLe.trans hF33 (FLe.trans hF37 hF42))))))), rfl, rfl⟩
 replace hS := hS.kb 39 hc38 rfl
 replace hS := hS.kb 40 hc38 rfl
 refine q_seg0 tbok hS 59 [] [0] [.bool false] [] (by kernel_rfl) fun s hS => (KW.nil ?_)
 refine WW.ret ?_
 replace hS := hS.drop
 replace hS := hS.drop
 replace hS := hS.drop
 cases h
 exact fin1 hS (.inr rfl) 0 rfl rfl ⟨((FLe.trans hF7 (FLe.trans hF16 (FLe.trans hF23 (FLe.trans hF28 (FLe.trans hF33 hF37)))))), rfl, rfl⟩
/-! ### formulary/formularylaw02.long (12) -/
noncomputable def g_law02_long.f (p0_0 : List UInt8) : Option (Bool) :=
  some (decide ((p0_0.length : Int) > 1400))
set_option maxHeartbeats 4000000 in
theorem g_law02_long.ok {p0_0 : List UInt8} {F : FZ} {r : Bool} (h : g_law02_long.f p0_0 = some r) :
    Cl EV 12 [strV p0_0] [] F (fun v S' F' => F = F' ∧ v = .bool r ∧ S' = []) := by
 refine Cl.of Tryz.func12 rfl (fun _ _ => rfl) (by kernel_rfl) fun s L nx0 hS => ?_
 unfold g_law02_long.f at h
 refine WW.seq (WW.region ?_)
 refine q_seg0 tbok hS 1 [] [2] [.bool false] [] (by kernel_rfl) fun s hS => (KW.nil ?_)
 refine WW.seq (WW.region ?_)
 refine q_seg0 tbok hS 4 [] [2] [.bool (decide ((p0_0.length : Int) > 1400))] [] (by kernel_rfl) fun s hS => (KW.nil ?_)
 refine WW.ret ?_
 cases h
 exact fin1 hS (.inr rfl) 2 rfl rfl ⟨rfl, rfl, rfl⟩
/-! ### formulary/classify.LevelsOf (23) -/
noncomputable def g_classify_LevelsOf.f (p0_0 : List UInt8) : Option (List Int × Int) :=
  Option.bind (g_classify_textErr.f p0_0) fun y1 => (if (y1 != 0) then some (([] : List Int), y1) else Option.bind (g_classify_levels.f p0_0) fun y6 => some (y6, 0))
set_option maxHeartbeats 4000000 in
theorem g_classify_LevelsOf.ok {p0_0 : List UInt8} {F : FZ} {r : List Int × Int} (h : g_classify_LevelsOf.f p0_0 = some r) (hG : Gl F) :
    Cl EV 23 [strV p0_0] [] F (fun v S' F' => ∃ (ra1 : Option Addr) (rz2 : Nat) (rB4 : Seg), FLe F F' ∧ v = .tuple #[.slice ra1 r.1.length rz2, .int .i64 r.2] ∧ S' = [rB4] ∧ Own (elI .i64 3) F' ra1 rz2 r.1 rB4) := by
 refine Cl.of Tryz.func23 rfl (fun _ _ => rfl) (by kernel_rfl) fun s L nx0 hS => ?_
 unfold g_classify_LevelsOf.f at h
 refine WW.seq (WW.region ?_)
 refine q_seg0 tbok hS 2 [] [2, 3] [.slice none 0 0, .int .i64 0] [] (by kernel_rfl) fun s hS => (KW.nil ?_)
 refine WW.seq (WW.seq ?_)
 refine WW.region ?_
 obtain ⟨y1, hy1, h⟩ := bind_some h
 refine q_cK (g_classify_textErr.ok hy1 hG) tbok hS 1 6 0 rfl (by kernel_rfl) fun s v S' F3 hp2 hF hS => ?_
 obtain ⟨hF4, rfl, rfl⟩ := hp2
 refine q_seg0 tbok hS 1 [] [4] [.int .i64 y1] [] (by kernel_rfl) fun s hS => (KW.nil ?_)
 refine WW.seq (WW.region ?_)
 refine q_seg0 tbok hS 2 [] [8] [.bool (y1 != 0)] [] (by kernel_rfl) fun s hS => (KW.nil ?_)
 refine bc h (fun hc5 h => ?_) fun hc5 h => ?_
 refine WW.condK hS rfl hc5 (WW.seq ?_)
 refine WW.region (q_seg0 tbok hS 3 [] [2, 3] [.slice none 0 0, .int .i64 y1] [] (by kernel_rfl) fun s hS => ?_)
 refine KW.nil (WW.ret ?_)
 replace hS := hS.gap0
 cases h
 exact fin2 hS (.inr rfl) 2 3 rfl rfl rfl ⟨_, _, _, (hF4), rfl, rfl, Own.nil⟩
 refine WW.condF hS rfl hc5 (WW.skip ?_)
 refine WW.seq (WW.region ?_)
 obtain ⟨y6, hy6, h⟩ := bind_some h
 refine q_cK (g_classify_levels.ok hy6 (hG.mono hF4)) tbok hS 1 11 0 rfl (by kernel_rfl) fun s v S' F8 hp7 hF hS => ?_
 obtain ⟨a9, z10, B12, hF13, rfl, rfl, h11⟩ := hp7
 refine q_seg0 tbok hS 2 [] [2, 3] [.slice a9 y6.length z10, .int .i64 0] [] (by kernel_rfl) fun s hS => (KW.nil ?_)
 refine WW.ret ?_
 cases h
 exact fin2 hS (.inr rfl) 2 3 rfl rfl rfl ⟨_, _, _, ((FLe.trans hF4 hF13)), rfl, rfl, h11⟩
/-! ### formulary/formularybase.Size (25) -/
noncomputable def g_base_Size.f (p0_0 : Int) : Option (Int) :=
  (if (decide (p0_0 < 0)) then some (w64 (-p0_0)) else some p0_0)
set_option maxHeartbeats 4000000 in
theorem g_base_Size.ok {p0_0 : Int} {F : FZ} {r : Int} (h : g_base_Size.f p0_0 = some r) :
    Cl EV 25 [.int .i64 p0_0] [] F (fun v S' F' => F = F' ∧ v = .int .i64 r ∧ S' = []) := by
 refine Cl.of Tryz.func25 rfl (fun _ _ => rfl) (by kernel_rfl) fun s L nx0 hS => ?_
 unfold g_base_Size.f at h
 refine WW.seq (WW.region ?_)
 refine q_seg0 tbok hS 1 [] [2] [.int .i64 0] [] (by kernel_rfl) fun s hS => (KW.nil ?_)
 refine WW.seq (WW.seq ?_)
 refine WW.region (q_seg0 tbok hS 2 [] [4] [.bool (decide (p0_0 < 0))] [] (by kernel_rfl) fun s hS => ?_)
 refine KW.nil (bc h (fun hc1 h => ?_) fun hc1 h => ?_)
 refine WW.condK hS rfl hc1 (WW.seq ?_)
 refine WW.region (q_seg0 tbok hS 1 [] [5] [.int .i64 p0_0] [] (by kernel_rfl) fun s hS => ?_)
 refine q_pu hS (wn rfl) rfl rfl rfl (v := .int .i64 (w64 (-p0_0))) (aop_neg (hS.lk rfl)) fun s hS => (q_seg0 tbok hS 1 [] [2] [.int .i64 (w64 (-p0_0))] [] (by kernel_rfl) fun s hS => ?_)
 refine KW.nil (WW.ret ?_)
 cases h
 exact fin1 hS (.inr rfl) 2 rfl rfl ⟨rfl, rfl, rfl⟩
 refine WW.condF hS rfl hc1 (WW.skip ?_)
 refine WW.seq (WW.region ?_)
 refine q_seg0 tbok hS 2 [] [2] [.int .i64 p0_0] [] (by kernel_rfl) fun s hS => (KW.nil ?_)
 refine WW.ret ?_
 cases h
 exact fin1 hS (.inr rfl) 2 rfl rfl ⟨rfl, rfl, rfl⟩
/-! ### formulary/formularylaw02.ClassifyLevels (6) -/
noncomputable def g_law02_ClassifyLevels.b1 (y17 : (List (Int × Int)) × Int) (x30 : List Bool × Int) (x53 : List Bool × Int) : Option ((List Bool × Int) ⊕ (List Bool × Int)) :=
  (if 0 ≤ x30.2 ∧ x30.2 < (y17.1.length : Int) then (if (decide (x53.2 < ((gt y17.1 x30.2).2))) then (if 0 ≤ x53.2 ∧ x53.2 < (x53.1.length : Int) then some (.inl ((setI x53.1 x53.2 (true : Bool)), (w64 (x53.2 + 1)))) else none) else some (.inr (x53.1, x53.2))) else none)
noncomputable def g_law02_ClassifyLevels.b0 (y17 : (List (Int × Int)) × Int) (x30 : List Bool × Int) : Option ((List Bool × Int) ⊕ (List Bool × Int)) :=
  (if (decide (x30.2 < (y17.1.length : Int))) then (if 0 ≤ x30.2 ∧ x30.2 < (y17.1.length : Int) then Option.bind (iter (g_law02_ClassifyLevels.b1 y17 x30) (x30.1, ((gt y17.1 x30.2).1))) fun o58 => some (.inl (o58.1, (w64 (x30.2 + 1)))) else none) else some (.inr (x30.1, x30.2)))
noncomputable def g_law02_ClassifyLevels.b2 (y9 : List Int × Int) (o35 : List Bool × Int) (x91 : Int × Int) : Option ((Int × Int) ⊕ ((Int × Int) ⊕ (Bool))) :=
  (if (decide (x91.2 < (y9.1.length : Int))) then (if 0 < o35.1.length then (if 0 < y9.1.length then (if 0 ≤ x91.2 ∧ x91.2 < (o35.1.length : Int) then (if 0 ≤ x91.2 ∧ x91.2 < (y9.1.length : Int) then (if ((gt o35.1 x91.2) != ((gt y9.1 x91.2) == (-1))) then some (.inr (.inr false)) else (if 0 ≤ x91.2 ∧ x91.2 < (o35.1.length : Int) then (if (gt o35.1 x91.2) then some (.inl (x91.1, (w64 (x91.2 + 1)))) else (if 0 ≤ x91.2 ∧ x91.2 < (y9.1.length : Int) then Option.bind ((if (decide ((gt y9.1 x91.2) < 0)) then some true else (if 0 ≤ x91.2 ∧ x91.2 < (y9.1.length : Int) then Option.bind (g_base_Size.f (w64 ((gt y9.1 x91.2) - x91.1))) fun y140 => some (decide (y140 > 1)) else none))) fun z132 => (if z132 then some (.inr (.inr false)) else (if 0 ≤ x91.2 ∧ x91.2 < (y9.1.length : Int) then some (.inl ((gt y9.1 x91.2), (w64 (x91.2 + 1)))) else none)) else none)) else none)) else none) else none) else none) else none) else some (.inr (.inl (x91.1, x91.2))))
noncomputable def g_law02_ClassifyLevels.f (p0_0 : List UInt8) : Option (Bool) :=
  Option.bind (g_law02_awake.f) fun y1 => (if (!y1) then some false else Option.bind (g_law02_long.f p0_0) fun y6 => (if y6 then some true else Option.bind (g_classify_LevelsOf.f p0_0) fun y9 => Option.bind (g_source_ConstantsIn.f p0_0) fun y17 => (if (y9.2 != 0) then some true else (if ((y17.2 != 0) || ((y9.1.length : Int) != (p0_0.length : Int))) then some false else (if 0 ≤ (p0_0.length : Int) ∧ (p0_0.length : Int) < 1000000000 then Option.bind (iter (g_law02_ClassifyLevels.b0 y17) ((List.replicate ((p0_0.length : Int)).toNat (false : Bool)), 0)) fun o35 => Option.bind (iter (g_law02_ClassifyLevels.b2 y9 o35) (0, 0)) fun o92 => onSum o92 fun y149 => some (y149.1 == 0) else none)))))
set_option maxHeartbeats 4000000 in
theorem g_law02_ClassifyLevels.ok {p0_0 : List UInt8} {F : FZ} {r : Bool} (h : g_law02_ClassifyLevels.f p0_0 = some r) (hG : Gl F) :
    Cl EV 6 [strV p0_0] [] F (fun v S' F' => FLe F F' ∧ v = .bool r ∧ S' = []) := by
 refine Cl.of Tryz.func6 rfl (fun _ _ => rfl) (by kernel_rfl) fun s L nx0 hS => ?_
 unfold g_law02_ClassifyLevels.f at h
 refine WW.seq (WW.region ?_)
 refine q_seg0 tbok hS 1 [] [2] [.bool false] [] (by kernel_rfl) fun s hS => (KW.nil ?_)
 refine WW.seq (WW.seq ?_)
 refine WW.region ?_
 obtain ⟨y1, hy1, h⟩ := bind_some h
 refine q_cK (g_law02_awake.ok hy1 hG) tbok hS 0 12 0 rfl (by kernel_rfl) fun s v S' F3 hp2 hF hS => ?_
 obtain ⟨hF4, rfl, rfl⟩ := hp2
 refine q_seg0 tbok hS 1 [] [13] [.bool (!y1)] [] (by kernel_rfl) fun s hS => (KW.nil ?_)
 refine bc h (fun hc5 h => ?_) fun hc5 h => ?_
 refine WW.condK hS rfl hc5 (WW.seq ?_)
 refine WW.region (q_seg0 tbok hS 1 [] [2] [.bool false] [] (by kernel_rfl) fun s hS => ?_)
 refine KW.nil (WW.ret ?_)
 cases h
 exact fin1 hS (.inr rfl) 2 rfl rfl ⟨(hF4), rfl, rfl⟩
 refine WW.condF hS rfl hc5 (WW.skip ?_)
 refine WW.seq (WW.seq ?_)
 refine WW.region ?_
 obtain ⟨y6, hy6, h⟩ := bind_some h
 refine q_cR (g_law02_long.ok hy6) tbok hS 1 15 0 rfl (by kernel_rfl) fun s hS => (KW.nil ?_)
 refine bc h (fun hc8 h => ?_) fun hc8 h => ?_
 refine WW.condK hS rfl hc8 (WW.seq ?_)
 refine WW.region (q_seg0 tbok hS 1 [] [2] [.bool true] [] (by kernel_rfl) fun s hS => ?_)
 refine KW.nil (WW.ret ?_)
 cases h
 exact fin1 hS (.inr rfl) 2 rfl rfl ⟨(hF4), rfl, rfl⟩
 refine WW.condF hS rfl hc8 (WW.skip ?_)
 refine WW.seq (WW.region ?_)
 obtain ⟨y9, hy9, h⟩ := bind_some h
 refine q_cK (g_classify_LevelsOf.ok hy9 (hG.mono hF4)) tbok hS 1 18 0 rfl (by kernel_rfl) fun s v S' F11 hp10 hF hS => ?_
 obtain ⟨a12, z13, B15, hF16, rfl, rfl, h14⟩ := hp10
 refine q_seg0 tbok hS 5 [] [3, 4] [.slice a12 y9.1.length z13, .int .i64 y9.2] [] (by kernel_rfl) fun s hS => (KW.nil ?_)
 refine WW.seq (WW.region ?_)
 obtain ⟨y17, hy17, h⟩ := bind_some h
 refine q_cK (g_source_ConstantsIn.ok hy17 (hG.mono (FLe.trans hF4 hF16))) tbok hS 1 23 0 rfl (by kernel_rfl) fun s v S' F19 hp18 hF hS => ?_
 obtain ⟨a20, z21, B23, hF24, rfl, rfl, h22⟩ := hp18
 refine q_seg0 tbok hS 5 [] [5, 6] [.slice a20 y17.1.length z21, .int .i64 y17.2] [] (by kernel_rfl) fun s hS => (KW.nil ?_)
 refine WW.seq (WW.seq ?_)
 refine WW.region (q_seg0 tbok hS 2 [] [27] [.bool (y9.2 != 0)] [] (by kernel_rfl) fun s hS => ?_)
 refine KW.nil (bc h (fun hc25 h => ?_) fun hc25 h => ?_)
 refine WW.condK hS rfl hc25 (WW.seq ?_)
 refine WW.region (q_seg0 tbok hS 1 [] [2] [.bool true] [] (by kernel_rfl) fun s hS => ?_)
 refine KW.nil (WW.ret ?_)
 replace hS := hS.drop
 replace hS := hS.drop
 cases h
 exact fin1 hS (.inr rfl) 2 rfl rfl ⟨((FLe.trans hF4 (FLe.trans hF16 hF24))), rfl, rfl⟩
 refine WW.condF hS rfl hc25 (WW.skip ?_)
 refine WW.seq (WW.seq ?_)
 refine WW.region (q_seg0 tbok hS 3 [] [30] [.bool (y17.2 != 0)] [] (by kernel_rfl) fun s hS => ?_)
 refine q_cut 6 (fun s => Stt EV s [(36, .bool ((y17.2 != 0) || ((y9.1.length : Int) != (p0_0.length : Int)))), (0, strV p0_0), (2, .bool false), (3, .slice a12 y9.1.length z13), (5, .slice a20 y17.1.length z21)] [B23, B15] F19 L F nx0) ?_ fun s hS => ?_
 rcases bool_cases ((y17.2 != 0)) with hcj | hcj
 replace hS := hS.know (t := 30) rfl (congrArg Value.bool hcj)
 refine q_seg0 tbok hS 6 [] [36] [.bool true] [] (by kernel_rfl) fun s hS => (KW.nil ?_)
 exact (hS.know (t := 36) (u' := .bool ((y17.2 != 0) || ((y9.1.length : Int) != (p0_0.length : Int)))) rfl (jn_or_t hcj)).subR rfl
 replace hS := hS.know (t := 30) rfl (congrArg Value.bool hcj)
 refine q_seg0 tbok hS 6 [] [36] [.bool ((y9.1.length : Int) != (p0_0.length : Int))] [] (by kernel_rfl) fun s hS => (KW.nil ?_)
 exact (hS.know (t := 36) (u' := .bool ((y17.2 != 0) || ((y9.1.length : Int) != (p0_0.length : Int)))) rfl (jn_or_f hcj)).subR rfl
 refine KW.nil (bc h (fun hc26 h => ?_) fun hc26 h => ?_)
 refine WW.condK hS rfl hc26 (WW.seq ?_)
 refine WW.region (q_seg0 tbok hS 1 [] [2] [.bool false] [] (by kernel_rfl) fun s hS => ?_)
 refine KW.nil (WW.ret ?_)
 replace hS := hS.drop
 replace hS := hS.drop
 cases h
 exact fin1 hS (.inr rfl) 2 rfl rfl ⟨((FLe.trans hF4 (FLe.trans hF16 hF24))), rfl, rfl⟩
 refine WW.condF hS rfl hc26 (WW.skip ?_)
 refine WW.seq (WW.region ?_)
 refine q_seg0 tbok hS 2 [] [38] [.int .i64 (p0_0.length : Int)] [] (by kernel_rfl) fun s hS => ?_
 obtain ⟨hk27, h⟩ := ite_some h
 refine q_nw hS (wn rfl) rfl rfl rfl (v := fun i => .slice (some ⟨i, 0, none⟩) (List.replicate ((p0_0.length : Int)).toNat (false : Bool)).length 1) (b := .row (repL [.bool false] ((p0_0.length : Int)).toNat) 4 1 true) (aop_mks (x0 := (false : Bool)) (hS.lk rfl) (hS.lk rfl) tu49 ti4 t0_4 rfl (by decide) hk27) fun s i28 hS => ?_
 have hC29 : Cells (elBool 4) F19 (List.replicate ((p0_0.length : Int)).toNat (false : Bool)) (repL [.bool false] ((p0_0.length : Int)).toNat) := Cells.rep rfl _
 refine q_seg0 tbok hS 1 [] [7] [.slice (some ⟨i28, 0, none⟩) (List.replicate ((p0_0.length : Int)).toNat (false : Bool)).length 1] [] (by kernel_rfl) fun s hS => (KW.nil ?_)
 refine WW.seq (WW.seq ?_)
 refine WW.region (q_seg0 tbok hS 1 [] [8] [.int .i64 0] [] (by kernel_rfl) fun s hS => ?_)
 refine KW.nil (WW.block ?_)
 obtain ⟨o35, ho35, h⟩ := bind_some h
 refine WW.loop (LW.iter ho35 (fun (x30 : List Bool × Int) s => ∃ (a31 : Option Addr) (z32 : Nat) (B34 : Seg), Stt EV s [(2, .bool false), (3, .slice a12 y9.1.length z13), (5, .slice a20 y17.1.length z21), (7, .slice a31 x30.1.length z32), (8, .int .i64 x30.2)] [B34, B23, B15] F19 L F nx0 ∧ Own (elBool 4) F19 a31 z32 x30.1 B34) (fun (y36 : List Bool × Int) e s => (e = .exit 0 ∧ ∃ (a37 : Option Addr) (z38 : Nat) (B40 : Seg), Stt EV s [(2, .bool false), (3, .slice a12 y9.1.length z13), (5, .slice a20 y17.1.length z21), (7, .slice a37 y36.1.length z38), (8, .int .i64 y36.2)] [B40, B23, B15] F19 L F nx0 ∧ Own (elBool 4) F19 a37 z38 y36.1 B40)) ⟨_, _, _, (hS.subR rfl), (Own.blk0 hC29)⟩ ?_ ?_)
 clear hS
 rintro x30 s ⟨a31, z32, B34, hS, h33⟩ o35' h41
 unfold g_law02_ClassifyLevels.b0 at h41
 refine WW.seq (WW.seq ?_)
 refine WW.region (q_seg0 tbok hS 4 [] [43] [.bool (decide (x30.2 < (y17.1.length : Int)))] [] (by kernel_rfl) fun s hS => ?_)
 refine KW.nil (bc h41 (fun hc42 h41 => ?_) fun hc42 h41 => ?_)
 refine WW.condK hS rfl hc42 (WW.skip ?_)
 refine WW.seq (WW.block ?_)
 refine WW.seq (WW.region ?_)
 refine q_seg0 tbok hS 2 [] [46, 47] [.slice a20 y17.1.length z21, .int .i64 x30.2] [] (by kernel_rfl) fun s hS => ?_
 obtain ⟨hk43, h41⟩ := ite_some h41
 obtain ⟨i49, cs50, ex51, rfl, rfl, rfl, hC52⟩ := Own.some_ h22 (by omega)
 obtain ⟨c44, hR45, hN47, hN46, hT48⟩ := Cells.loadF hC52 ex51 hk43 (z := 2) rfl
 obtain rfl := hR45
 refine q_pu hS (wn rfl) rfl rfl rfl (v := .pointer (some ⟨i49, 0 + (x30.2).toNat * 2, none⟩)) (aop_ia (hS.lk rfl) (hS.lk rfl) te46 hk43) fun s hS => (q_pu hS (wn rfl) rfl rfl rfl (v := .pointer (some ⟨i49, 0 + (x30.2).toNat * 2 + 0, none⟩)) (aop_iaA (hS.lk rfl) (hS.lk rfl) ty50 (by decide) rfl) fun s hS => ?_)
 refine q_ld hS (wn rfl) rfl rfl rfl (hS.at (k := 1) rfl) tg3 (v := .int .i64 ((gt y17.1 x30.2).1)) (hN47 0 (by decide)) fun s hS => (q_seg0 tbok hS 1 [] [9] [.int .i64 ((gt y17.1 x30.2).1)] [] (by kernel_rfl) fun s hS => ?_)
 refine KW.nil (WW.block ?_)
 obtain ⟨o58, ho58, h41⟩ := bind_some h41
 refine WW.loop (LW.iter ho58 (fun (x53 : List Bool × Int) s => ∃ (a54 : Option Addr) (z55 : Nat) (B57 : Seg), Stt EV s [(2, .bool false), (3, .slice a12 y9.1.length z13), (5, .slice (some ⟨i49, 0, none⟩) y17.1.length 2), (7, .slice a54 x53.1.length z55), (8, .int .i64 x30.2), (9, .int .i64 x53.2)] [B57, [(i49, .row (cs50 ++ ex51) 50 2 true)], B15] F19 L F nx0 ∧ Own (elBool 4) F19 a54 z55 x53.1 B57) (fun (y59 : List Bool × Int) e s => (e = .exit 2 ∧ ∃ (a60 : Option Addr) (z61 : Nat) (B63 : Seg), Stt EV s [(2, .bool false), (3, .slice a12 y9.1.length z13), (5, .slice (some ⟨i49, 0, none⟩) y17.1.length 2), (7, .slice a60 y59.1.length z61), (8, .int .i64 x30.2), (9, .int .i64 y59.2)] [B63, [(i49, .row (cs50 ++ ex51) 50 2 true)], B15] F19 L F nx0 ∧ Own (elBool 4) F19 a60 z61 y59.1 B63)) ⟨_, _, _, (hS.subR rfl), h33⟩ ?_ ?_)
 clear hS
 rintro x53 s ⟨a54, z55, B57, hS, h56⟩ o58' h64
 unfold g_law02_ClassifyLevels.b1 at h64
 refine WW.seq (WW.seq ?_)
 refine WW.region (q_seg0 tbok hS 3 [] [51, 52, 53] [.int .i64 x53.2, .slice (some ⟨i49, 0, none⟩) y17.1.length 2, .int .i64 x30.2] [] (by kernel_rfl) fun s hS => ?_)
 obtain ⟨hk65, h64⟩ := ite_some h64
 obtain ⟨c66, hR67, hN69, hN68, hT70⟩ := Cells.loadF hC52 ex51 hk65 (z := 2) rfl
 obtain rfl := hR67
 refine q_pu hS (wn rfl) rfl rfl rfl (v := .pointer (some ⟨i49, 0 + (x30.2).toNat * 2, none⟩)) (aop_ia (hS.lk rfl) (hS.lk rfl) te46 hk65) fun s hS => (q_pu hS (wn rfl) rfl rfl rfl (v := .pointer (some ⟨i49, 0 + (x30.2).toNat * 2 + 1, none⟩)) (aop_iaA (hS.lk rfl) (hS.lk rfl) ty50 (by decide) rfl) fun s hS => ?_)
 refine q_ld hS (wn rfl) rfl rfl rfl (hS.at (k := 1) rfl) tg3 (v := .int .i64 ((gt y17.1 x30.2).2)) (hN69 1 (by decide)) fun s hS => (q_seg0 tbok hS 1 [] [57] [.bool (decide (x53.2 < ((gt y17.1 x30.2).2)))] [] (by kernel_rfl) fun s hS => ?_)
 refine KW.nil (bc h64 (fun hc71 h64 => ?_) fun hc71 h64 => ?_)
 refine WW.condK hS rfl hc71 (WW.skip ?_)
 refine WW.seq (WW.block ?_)
 refine WW.region (q_seg0 tbok hS 2 [] [60, 61] [.slice a54 x53.1.length z55, .int .i64 x53.2] [] (by kernel_rfl) fun s hS => ?_)
 obtain ⟨hk72, h64⟩ := ite_some h64
 obtain ⟨i78, cs79, ex80, rfl, rfl, rfl, hC81⟩ := Own.some_ h56 (by omega)
 obtain ⟨c73, hR74, hN76, hN75, hT77⟩ := Cells.loadF hC81 ex80 hk72 (z := 1) rfl
 obtain rfl := hR74
 refine q_pu hS (wn rfl) rfl rfl rfl (v := .pointer (some ⟨i78, 0 + (x53.2).toNat * 1, none⟩)) (aop_ia (hS.lk rfl) (hS.lk rfl) te49 hk72) fun s hS => (q_sto hS (wn rfl) rfl rfl rfl rfl (p := 0) rfl tz4 (sto_ok hC81 ex80 hk72 rfl rfl rfl rfl) ((setCells cs79 (0 + (x53.2).toNat * 1) [.bool true]) ++ ex80) (sto_cs hC81 ex80 hk72 rfl rfl rfl) fun s hS => ?_)
 have hC82 : Cells (elBool 4) F19 (setI x53.1 x53.2 (true : Bool)) (setCells cs79 (0 + (x53.2).toNat * 1) [.bool true]) := Cells.set hC81 hk72 rfl rfl
 replace hS := hS.know (t := 7) (u' := .slice (some ⟨i78, 0, none⟩) (setI x53.1 x53.2 (true : Bool)).length 1) rfl (congrArg (fun n => Value.slice (some ⟨i78, 0, none⟩) n 1) (setI_len x53.1 x53.2 (true : Bool)).symm)
 replace hS := hS.know (t := 60) (u' := .slice (some ⟨i78, 0, none⟩) (setI x53.1 x53.2 (true : Bool)).length 1) rfl (congrArg (fun n => Value.slice (some ⟨i78, 0, none⟩) n 1) (setI_len x53.1 x53.2 (true : Bool)).symm)
 refine KW.nil (WW.region ?_)
 refine q_seg0 tbok hS 3 [] [9] [.int .i64 (w64 (x53.2 + 1))] [] (by kernel_rfl) fun s hS => (KW.nil ?_)
 obtain rfl := Option.some.inj h64
 exact ⟨_, rfl, _, _, _, (hS.subR rfl), (Own.blk ex80 hC82)⟩
 refine WW.condF hS rfl hc71 (WW.exit ?_)
 refine thenQ_exit ?_
 obtain rfl := Option.some.inj h64
 exact ⟨_, rfl, rfl, _, _, _, (hS.subR rfl), h56⟩
 clear hS
 rintro e s ⟨rfl, a83, z84, B86, hS, h85⟩
 refine blockQ_exit (WW.region ?_)
 refine q_seg0 tbok hS 3 [] [8] [.int .i64 (w64 (x30.2 + 1))] [] (by kernel_rfl) fun s hS => (KW.nil ?_)
 obtain rfl := Option.some.inj h41
 exact ⟨_, rfl, _, _, _, (hS.subR rfl), h85⟩
 refine WW.condF hS rfl hc42 (WW.exit ?_)
 refine thenQ_exit ?_
 obtain rfl := Option.some.inj h41
 exact ⟨_, rfl, rfl, _, _, _, (hS.subR rfl), h33⟩
 clear hS
 rintro e s ⟨rfl, a87, z88, B90, hS, h89⟩
 refine blockQ_exit (WW.seq ?_)
 refine WW.region (q_seg0 tbok hS 1 [] [10] [.int .i64 0] [] (by kernel_rfl) fun s hS => ?_)
 refine KW.nil (WW.seq ?_)
 refine WW.seq (WW.region ?_)
 refine q_seg0 tbok hS 1 [] [11] [.int .i64 0] [] (by kernel_rfl) fun s hS => (KW.nil ?_)
 refine WW.block ?_
 obtain ⟨o92, ho92, h⟩ := bind_some h
 refine WW.loop (LW.iter ho92 (fun (x91 : Int × Int) s => Stt EV s [(2, .bool false), (3, .slice a12 y9.1.length z13), (7, .slice a87 o35.1.length z88), (10, .int .i64 x91.1), (11, .int .i64 x91.2)] [B90, B23, B15] F19 L F nx0) (fun (o : (Int × Int) ⊕ (Bool)) e s => match o with | .inl y93 => (e = .exit 4 ∧ Stt EV s [(2, .bool false), (3, .slice a12 y9.1.length z13), (7, .slice a87 o35.1.length z88), (10, .int .i64 y93.1), (11, .int .i64 y93.2)] [B90, B23, B15] F19 L F nx0) | .inr r => (e = .ret ∧ FinQ EV Tryz.f6 L F nx0 (fun v S' F' => FLe F F' ∧ v = .bool r ∧ S' = []) e s)) (hS.subR rfl) ?_ ?_)
 clear hS
 rintro x91 s hS o92' h94
 unfold g_law02_ClassifyLevels.b2 at h94
 refine WW.seq (WW.seq ?_)
 refine WW.region (q_seg0 tbok hS 4 [] [66] [.bool (decide (x91.2 < (y9.1.length : Int)))] [] (by kernel_rfl) fun s hS => ?_)
 refine KW.nil (bc h94 (fun hc95 h94 => ?_) fun hc95 h94 => ?_)
 refine WW.condK hS rfl hc95 (WW.skip ?_)
 refine WW.seq (WW.block ?_)
 refine WW.seq (WW.seq ?_)
 obtain ⟨hk96, h94⟩ := ite_some h94
 obtain ⟨i97, cs98, ex99, rfl, rfl, rfl, hC100⟩ := Own.some_ h89 (by omega)
 obtain ⟨hk101, h94⟩ := ite_some h94
 obtain ⟨i102, cs103, ex104, rfl, rfl, rfl, hC105⟩ := Own.some_ h14 (by omega)
 refine WW.regionD (i := [[], [0], [], [], [3, 2, 1, 0], [4, 3, 2, 1, 0], [3, 2, 1, 0], [3, 2, 1, 0], [3, 2, 1, 0], []]) (by kernel_rfl) ?_
 have hq := RS.start [i97, i102]
 refine K.seg tbok hS hq 2 [69, 70] [.slice (some ⟨i97, 0, none⟩) o35.1.length 1, .int .i64 x91.2] (by kernel_rfl) fun s rs hS hq => ?_
 obtain ⟨hk106, h94⟩ := ite_some h94
 obtain ⟨c107, hR108, hN110, hN109, hT111⟩ := Cells.loadF hC100 ex99 hk106 (z := 1) rfl
 obtain rfl := hR108
 refine K.pu hS hq rfl (wn rfl) rfl rfl rfl (v := .pointer (some ⟨i97, 0 + (x91.2).toNat * 1, none⟩)) (aop_ia (hS.lk rfl) (hS.lk rfl) te49 hk106) fun s rs hS hq => (K.ld hS hq rfl (wn rfl) rfl rfl rfl (hS.at (k := 0) rfl) tg4 (v := .bool (gt o35.1 x91.2)) hN109 0 rfl rfl fun s rs hS hq => ?_)
 refine K.seg tbok hS hq 2 [73, 74] [.slice (some ⟨i102, 0, none⟩) y9.1.length 1, .int .i64 x91.2] (by kernel_rfl) fun s rs hS hq => ?_
 obtain ⟨hk112, h94⟩ := ite_some h94
 obtain ⟨c113, hR114, hN116, hN115, hT117⟩ := Cells.loadF (hC105.mono hF24) ex104 hk112 (z := 1) rfl
 obtain rfl := hR114
 refine K.pu hS hq rfl (wn rfl) rfl rfl rfl (v := .pointer (some ⟨i102, 0 + (x91.2).toNat * 1, none⟩)) (aop_ia (hS.lk rfl) (hS.lk rfl) te22 hk112) fun s rs hS hq => (K.ld hS hq rfl (wn rfl) rfl rfl rfl (hS.at (k := 2) rfl) tg3 (v := .int .i64 (gt y9.1 x91.2)) hN115 1 rfl rfl fun s rs hS hq => ?_)
 refine K.seg tbok hS hq 1 [77] [.bool ((gt y9.1 x91.2) == (-1))] (by kernel_rfl) fun s rs hS hq => (K.pu hS hq rfl (wn rfl) rfl rfl rfl (v := .bool ((gt o35.1 x91.2) != ((gt y9.1 x91.2) == (-1)))) (tq4neq (hS.lk rfl) (hS.lk rfl)) fun s rs hS hq => ?_)
 refine KW.nil (bc h94 (fun hc118 h94 => ?_) fun hc118 h94 => ?_)
 refine WW.condK hS rfl hc118 (WW.seq ?_)
 refine WW.region (q_seg0 tbok hS 1 [] [2] [.bool false] [] (by kernel_rfl) fun s hS => ?_)
 refine KW.nil (WW.ret ?_)
 replace hS := hS.drop
 replace hS := hS.drop
 replace hS := hS.drop
 cases h94
 exact ⟨_, rfl, rfl, fin1 hS (.inr rfl) 2 rfl rfl ⟨((FLe.trans hF4 (FLe.trans hF16 hF24))), rfl, rfl⟩⟩
 refine WW.condF hS rfl hc118 (WW.skip ?_)
 refine WW.seq (WW.seq ?_)
 refine WW.region (q_seg0 tbok hS 2 [] [79, 80] [.slice (some ⟨i97, 0, none⟩) o35.1.length 1, .int .i64 x91.2] [] (by kernel_rfl) fun s hS => ?_)
 obtain ⟨hk119, h94⟩ := ite_some h94
 obtain ⟨c120, hR121, hN123, hN122, hT124⟩ := Cells.loadF hC100 ex99 hk119 (z := 1) rfl
 obtain rfl := hR121
 refine q_pu hS (wn rfl) rfl rfl rfl (v := .pointer (some ⟨i97, 0 + (x91.2).toNat * 1, none⟩)) (aop_ia (hS.lk rfl) (hS.lk rfl) te49 hk119) fun s hS => (q_ld hS (wn rfl) rfl rfl rfl (hS.at (k := 0) rfl) tg4 (v := .bool (gt o35.1 x91.2)) hN122 fun s hS => ?_)
 refine KW.nil (bc h94 (fun hc125 h94 => ?_) fun hc125 h94 => ?_)
 refine WW.condK hS rfl hc125 (WW.exit ?_)
 refine thenQ_exit (blockQ_exit ?_)
 refine WW.region (q_seg0 tbok hS 3 [] [11] [.int .i64 (w64 (x91.2 + 1))] [] (by kernel_rfl) fun s hS => ?_)
 refine KW.nil ?_
 obtain rfl := Option.some.inj h94
 exact ⟨_, rfl, (hS.subR rfl)⟩
 refine WW.condF hS rfl hc125 (WW.skip ?_)
 refine WW.seq (WW.seq ?_)
 refine WW.region (q_seg0 tbok hS 2 [] [83, 84] [.slice (some ⟨i102, 0, none⟩) y9.1.length 1, .int .i64 x91.2] [] (by kernel_rfl) fun s hS => ?_)
 obtain ⟨hk126, h94⟩ := ite_some h94
 obtain ⟨c127, hR128, hN130, hN129, hT131⟩ := Cells.loadF (hC105.mono hF24) ex104 hk126 (z := 1) rfl
 obtain rfl := hR128
 refine q_pu hS (wn rfl) rfl rfl rfl (v := .pointer (some ⟨i102, 0 + (x91.2).toNat * 1, none⟩)) (aop_ia (hS.lk rfl) (hS.lk rfl) te22 hk126) fun s hS => (q_ld hS (wn rfl) rfl rfl rfl (hS.at (k := 2) rfl) tg3 (v := .int .i64 (gt y9.1 x91.2)) hN129 fun s hS => ?_)
 refine q_seg0 tbok hS 2 [] [88] [.bool (decide ((gt y9.1 x91.2) < 0))] [] (by kernel_rfl) fun s hS => ?_
 obtain ⟨z132, hz132, h94⟩ := bind_some h94
 refine q_cut 9 (fun s => Stt EV s [(97, .bool z132), (2, .bool false), (3, .slice (some ⟨i102, 0, none⟩) y9.1.length 1), (7, .slice (some ⟨i97, 0, none⟩) o35.1.length 1), (10, .int .i64 x91.1), (11, .int .i64 x91.2)] [[(i97, .row (cs98 ++ ex99) 4 1 true)], B23, [(i102, .row (cs103 ++ ex104) 3 1 true)]] F19 L F nx0) ?_ fun s hS => ?_
 refine bc hz132 (fun hc133 hz132 => ?_) fun hc133 hz132 => ?_
 replace hS := hS.kb 88 hc133 rfl
 refine q_seg0 tbok hS 9 [] [97] [.bool true] [] (by kernel_rfl) fun s hS => (KW.nil ?_)
 obtain rfl := Option.some.inj hz132
 exact hS.subR rfl
 replace hS := hS.kb 88 hc133 rfl
 refine q_seg0 tbok hS 2 [] [89, 90] [.slice (some ⟨i102, 0, none⟩) y9.1.length 1, .int .i64 x91.2] [] (by kernel_rfl) fun s hS => ?_
 obtain ⟨hk134, hz132⟩ := ite_some hz132
 obtain ⟨c135, hR136, hN138, hN137, hT139⟩ := Cells.loadF (hC105.mono hF24) ex104 hk134 (z := 1) rfl
 obtain rfl := hR136
 refine q_pu hS (wt hS rfl rfl rfl rfl) rfl rfl rfl (v := .pointer (some ⟨i102, 0 + (x91.2).toNat * 1, none⟩)) (aop_ia (hS.lk rfl) (hS.lk rfl) te22 hk134) fun s hS => (q_ld hS (wt hS rfl rfl rfl rfl) rfl rfl rfl (hS.at (k := 2) rfl) tg3 (v := .int .i64 (gt y9.1 x91.2)) hN137 fun s hS => ?_)
 refine q_seg0 tbok hS 2 [] [94] [.int .i64 (w64 ((gt y9.1 x91.2) - x91.1))] [] (by kernel_rfl) fun s hS => ?_
 obtain ⟨y140, hy140, hz132⟩ := bind_some hz132
 refine q_cl hS (wt hS rfl rfl rfl rfl) (vs := [.int .i64 (w64 ((gt y9.1 x91.2) - x91.1))]) (ws := [.int .i64 (w64 ((gt y9.1 x91.2) - x91.1))]) rfl rfl rfl rfl rfl 0 rfl (g_base_Size.ok hy140) fun s v S' F' hp141 hF hS => ?_
 obtain ⟨rfl, rfl, rfl⟩ := hp141
 refine q_seg0 tbok hS 2 [] [97] [.bool (decide (y140 > 1))] [] (by kernel_rfl) fun s hS => (KW.nil ?_)
 obtain rfl := Option.some.inj hz132
 exact hS.subR rfl
 refine KW.nil (bc h94 (fun hc142 h94 => ?_) fun hc142 h94 => ?_)
 refine WW.condK hS rfl hc142 (WW.seq ?_)
 refine WW.region (q_seg0 tbok hS 1 [] [2] [.bool false] [] (by kernel_rfl) fun s hS => ?_)
 refine KW.nil (WW.ret ?_)
 replace hS := hS.drop
 replace hS := hS.drop
 replace hS := hS.drop
 cases h94
 exact ⟨_, rfl, rfl, fin1 hS (.inr rfl) 2 rfl rfl ⟨((FLe.trans hF4 (FLe.trans hF16 hF24))), rfl, rfl⟩⟩
 refine WW.condF hS rfl hc142 (WW.skip ?_)
 refine WW.region (q_seg0 tbok hS 2 [] [98, 99] [.slice (some ⟨i102, 0, none⟩) y9.1.length 1, .int .i64 x91.2] [] (by kernel_rfl) fun s hS => ?_)
 obtain ⟨hk143, h94⟩ := ite_some h94
 obtain ⟨c144, hR145, hN147, hN146, hT148⟩ := Cells.loadF (hC105.mono hF24) ex104 hk143 (z := 1) rfl
 obtain rfl := hR145
 refine q_pu hS (wn rfl) rfl rfl rfl (v := .pointer (some ⟨i102, 0 + (x91.2).toNat * 1, none⟩)) (aop_ia (hS.lk rfl) (hS.lk rfl) te22 hk143) fun s hS => (q_ld hS (wn rfl) rfl rfl rfl (hS.at (k := 2) rfl) tg3 (v := .int .i64 (gt y9.1 x91.2)) hN146 fun s hS => ?_)
 refine q_seg0 tbok hS 1 [] [10] [.int .i64 (gt y9.1 x91.2)] [] (by kernel_rfl) fun s hS => (KW.nil ?_)
 refine WW.region (q_seg0 tbok hS 3 [] [11] [.int .i64 (w64 (x91.2 + 1))] [] (by kernel_rfl) fun s hS => ?_)
 refine KW.nil ?_
 obtain rfl := Option.some.inj h94
 exact ⟨_, rfl, (hS.subR rfl)⟩
 refine WW.condF hS rfl hc95 (WW.exit ?_)
 refine thenQ_exit ?_
 obtain rfl := Option.some.inj h94
 exact ⟨_, rfl, rfl, (hS.subR rfl)⟩
 clear hS
 rcases o92 with y149 | y149
 rintro e s ⟨rfl, hS⟩
 replace h := match_inl h
 refine blockQ_exit (WW.seq ?_)
 refine WW.region (q_seg0 tbok hS 3 [] [2] [.bool (y149.1 == 0)] [] (by kernel_rfl) fun s hS => ?_)
 refine KW.nil (WW.ret ?_)
 replace hS := hS.drop
 replace hS := hS.drop
 replace hS := hS.drop
 cases h
 exact fin1 hS (.inr rfl) 2 rfl rfl ⟨((FLe.trans hF4 (FLe.trans hF16 hF24))), rfl, rfl⟩
 rintro e s ⟨rfl, hfin⟩
 replace h := match_inr h
 obtain rfl := Option.some.inj h
 exact hfin
end Go.Proofs.YtcafgoomipkljaaGreatDoorAi
