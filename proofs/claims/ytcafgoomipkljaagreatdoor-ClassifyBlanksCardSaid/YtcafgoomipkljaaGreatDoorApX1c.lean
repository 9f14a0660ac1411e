import Derived.Test.YtcafgoomipkljaaGreatDoorApX1b
namespace Go.Proofs.YtcafgoomipkljaaGreatDoorAi
set_option maxHeartbeats 4000000
open Go Go.RowKit
set_option linter.unusedVariables false
set_option linter.unusedSimpArgs false
set_option maxRecDepth 100000
noncomputable def g_25.b1 (pA : List UInt8) (y7 : (List (Int × Int × List Int)) × Int) (x16 : Int) (x62 : Int) : Option ((Int) ⊕ ((Int) ⊕ (Bool))) :=
  (if 0 ≤ x16 ∧ x16 < (y7.1.length : Int) then (if (decide (x62 < (((gt y7.1 x16).2.2).length : Int))) then (if 0 ≤ x16 ∧ x16 < (y7.1.length : Int) then (if 0 ≤ x62 ∧ x62 < (((gt y7.1 x16).2.2).length : Int) then Option.bind (g_2.f (gt ((gt y7.1 x16).2.2) x62) 1 (w64 ((pA.length : Int) - 1))) fun y94 => (if (!y94) then some (.inr (.inr false)) else (if (decide (x62 > 0)) then (if 0 ≤ x16 ∧ x16 < (y7.1.length : Int) then (if 0 ≤ x62 ∧ x62 < (((gt y7.1 x16).2.2).length : Int) then (if 0 ≤ x16 ∧ x16 < (y7.1.length : Int) then (if 0 ≤ (w64 (x62 - 1)) ∧ (w64 (x62 - 1)) < (((gt y7.1 x16).2.2).length : Int) then (if (decide ((gt ((gt y7.1 x16).2.2) x62) ≤ (gt ((gt y7.1 x16).2.2) (w64 (x62 - 1))))) then some (.inr (.inr false)) else some (.inl (w64 (x62 + 1)))) else none) else none) else none) else none) else some (.inl (w64 (x62 + 1))))) else none) else none) else some (.inr (.inl x62))) else none)
noncomputable def g_25.b0 (pA : List UInt8) (y7 : (List (Int × Int × List Int)) × Int) (x16 : Int) : Option ((Int) ⊕ ((Int) ⊕ (Bool))) :=
  (if (decide (x16 < (y7.1.length : Int))) then (if 0 ≤ x16 ∧ x16 < (y7.1.length : Int) then Option.bind (g_a.f pA ((gt y7.1 x16).1) ((gt y7.1 x16).2.1) ((gt y7.1 x16).2.2)) fun y38 => Option.bind (g_2f.f y38.1) fun y42 => Option.bind ((if (((y38.2 != 0) || (y42.2.2 != 0)) || (!decide (y42.1 = pA))) then some true else (if 0 ≤ x16 ∧ x16 < (y7.1.length : Int) then some ((y38.1.length : Int) != (w64 ((pA.length : Int) + (((gt y7.1 x16).2.2).length : Int)))) else none))) fun z50 => (if z50 then some (.inr (.inr false)) else Option.bind (iter (g_25.b1 pA y7 x16) 0) fun o63 => onSum2 o63 (fun r => some (.inr (.inr r))) fun y135 => some (.inl (w64 (x16 + 1)))) else none) else some (.inr (.inl x16)))
noncomputable def g_25.f (pA : List UInt8) : Option (Bool) :=
  Option.bind (g_26.f) fun y1 => (if (!y1) then some false else (if (decide ((pA.length : Int) > 1200)) then some true else Option.bind (g_7.f pA) fun y7 => (if (y7.2 != 0) then some true else Option.bind (iter (g_25.b0 pA y7) 0) fun o19 => onSum o19 fun y136 => some true)))
theorem g_25.ok {pA : List UInt8} {F : FZ} {r : Bool} (h : g_25.f pA = some r) (hG : Gl F) :
    Cl EV 5 [strV pA] [] F (fun v S' F' => FLe F F' ∧ v = .bool r ∧ S' = []) := by
 refine Cl.of Tryz.func5 rfl (fun _ _ => rfl) (by kernel_rfl) fun s L nx0 hS => ?_
 unfold g_25.f at h
 refine WW.seq (WW.region ?_)
 refine sg0 hS 1 [] [2] [.bool false] [] (by kernel_rfl) fun s hS => (KW.nil ?_)
 refine WW.seq (WW.seq ?_)
 refine WW.region ?_
 obtain ⟨y1, hy1, h⟩ := bind_some h
 refine cK (g_26.ok hy1 hG) hS 0 12 0 rfl (by kernel_rfl) fun s v S' F3 hp2 hF hS => ?_
 obtain ⟨hF4, rfl, rfl⟩ := hp2
 refine sg0 hS 1 [] [13] [.bool (!y1)] [] (by kernel_rfl) fun s hS => (KW.nil ?_)
 refine bc h (fun hc5 h => ?_) fun hc5 h => ?_
 refine WW.condK hS rfl hc5 (WW.seq ?_)
 refine WW.region (sg0 hS 1 [] [2] [.bool false] [] (by kernel_rfl) fun s hS => ?_)
 refine KW.nil (WW.ret ?_)
 cases h
 exact fin1 hS (.inr rfl) 2 rfl rfl ⟨(hF4), rfl, rfl⟩
 refine WW.condF hS rfl hc5 (WW.skip ?_)
 refine WW.seq (WW.seq ?_)
 refine WW.region (sg0 hS 3 [] [16] [.bool (decide ((pA.length : Int) > 1200))] [] (by kernel_rfl) fun s hS => ?_)
 refine KW.nil (bc h (fun hc6 h => ?_) fun hc6 h => ?_)
 refine WW.condK hS rfl hc6 (WW.seq ?_)
 refine WW.region (sg0 hS 1 [] [2] [.bool true] [] (by kernel_rfl) fun s hS => ?_)
 refine KW.nil (WW.ret ?_)
 cases h
 exact fin1 hS (.inr rfl) 2 rfl rfl ⟨(hF4), rfl, rfl⟩
 refine WW.condF hS rfl hc6 (WW.skip ?_)
 refine WW.seq (WW.region ?_)
 obtain ⟨y7, hy7, h⟩ := bind_some h
 refine cK (g_7.ok hy7 (hG.mono hF4)) hS 1 19 0 rfl (by kernel_rfl) fun s v S' F9 hp8 hF hS => ?_
 obtain ⟨a10, z11, B13, hF14, rfl, rfl, h12⟩ := hp8
 refine sg0 hS 5 [] [3, 4] [.slice a10 y7.1.length z11, .int .i64 y7.2] [] (by kernel_rfl) fun s hS => (KW.nil ?_)
 refine WW.seq (WW.seq ?_)
 refine WW.region (sg0 hS 2 [] [23] [.bool (y7.2 != 0)] [] (by kernel_rfl) fun s hS => ?_)
 refine KW.nil (bc h (fun hc15 h => ?_) fun hc15 h => ?_)
 refine WW.condK hS rfl hc15 (WW.seq ?_)
 refine WW.region (sg0 hS 1 [] [2] [.bool true] [] (by kernel_rfl) fun s hS => ?_)
 refine KW.nil (WW.ret ?_)
 replace hS := hS.drop
 cases h
 exact fin1 hS (.inr rfl) 2 rfl rfl ⟨((FLe.trans hF4 hF14)), rfl, rfl⟩
 refine WW.condF hS rfl hc15 (WW.skip ?_)
 refine WW.seq (WW.seq ?_)
 refine WW.region (sg0 hS 1 [] [5] [.int .i64 0] [] (by kernel_rfl) fun s hS => ?_)
 refine KW.nil (WW.block ?_)
 obtain ⟨o19, ho19, h⟩ := bind_some h
 refine WW.loop (LW.iterS ho19 (fun (x16 : Int) s => ∃ (F17 : FZ), Stt EV s [(0, strV pA), (2, .bool false), (3, .slice a10 y7.1.length z11), (5, .int .i64 x16)] [B13] F17 L F nx0 ∧ FLe F9 F17) 0 (fun r => FinQ EV Tryz.f5 L F nx0 (fun v S' F' => FLe F F' ∧ v = .bool r ∧ S' = [])) ⟨_, (hS.subR rfl), (FLe.refl _)⟩ ?_ ?_)
 clear hS
 rintro x16 s ⟨F17, hS, hF18⟩ o19' h23
 unfold g_25.b0 at h23
 refine WW.seq (WW.seq ?_)
 refine WW.region (sg0 hS 4 [] [27] [.bool (decide (x16 < (y7.1.length : Int)))] [] (by kernel_rfl) fun s hS => ?_)
 refine KW.nil (bc h23 (fun hc24 h23 => ?_) fun hc24 h23 => ?_)
 refine WW.condK hS rfl hc24 (WW.skip ?_)
 refine WW.seq (WW.block ?_)
 refine WW.seq (WW.region ?_)
 refine sg0 hS 3 [] [31, 32, 33] [strV pA, .slice a10 y7.1.length z11, .int .i64 x16] [] (by kernel_rfl) fun s hS => ?_
 obtain ⟨hk25, h23⟩ := ite_some h23
 obtain ⟨i31, cs32, ex33, rfl, rfl, rfl, hC34⟩ := Own.some_ h12 (by omega)
 obtain ⟨c26, hR27, hN29, hN28, hT30⟩ := Cells.loadF (hC34.mono hF18) ex33 hk25 (z := 3) rfl
 obtain ⟨a35, z36, rfl, hz37⟩ := hR27
 refine q_pu hS (wn rfl) rfl rfl rfl (v := .pointer (some ⟨i31, 0 + (x16).toNat * 3, none⟩)) (aop_ia (hS.lk rfl) (hS.lk rfl) te36 hk25) fun s hS => (q_ldA hS (wn rfl) rfl rfl rfl (hS.at (k := 0) rfl) tg24 tz24 (vs := [.int .i64 ((gt y7.1 x16).1), .int .i64 ((gt y7.1 x16).2.1), .slice a35 ((gt y7.1 x16).2.2).length z36]) hT30 fun s hS => ?_)
 obtain ⟨y38, hy38, h23⟩ := bind_some h23
 refine cK (g_a.ok hy38 hz37 (hG.mono (FLe.trans hF4 (FLe.trans hF14 hF18)))) hS 0 36 0 rfl (by kernel_rfl) fun s v S' F40 hp39 hF hS => ?_
 obtain ⟨hF41, rfl, rfl⟩ := hp39
 refine sg0 hS 5 [] [6, 7] [strV y38.1, .int .i64 y38.2] [] (by kernel_rfl) fun s hS => (KW.nil ?_)
 refine WW.seq (WW.region ?_)
 obtain ⟨y42, hy42, h23⟩ := bind_some h23
 refine cK (g_2f.ok hy42 (hG.mono (FLe.trans hF4 (FLe.trans hF14 (FLe.trans hF18 hF41))))) hS 1 41 0 rfl (by kernel_rfl) fun s v S' F44 hp43 hF hS => ?_
 obtain ⟨a45, z46, B48, hF49, rfl, rfl, h47⟩ := hp43
 refine sg0 hS 7 [] [8, 10] [strV y42.1, .int .i64 y42.2.2] [] (by kernel_rfl) fun s hS => (KW.nil ?_)
 refine WW.seq (WW.seq ?_)
 refine WW.region (sg0 hS 3 [] [47] [.bool (y38.2 != 0)] [] (by kernel_rfl) fun s hS => ?_)
 refine q_cut 3 (fun s => Stt EV s [(50, .bool ((y38.2 != 0) || (y42.2.2 != 0))), (0, strV pA), (2, .bool false), (3, .slice (some ⟨i31, 0, none⟩) y7.1.length 3), (5, .int .i64 x16), (6, strV y38.1), (8, strV y42.1)] [B48, [(i31, .row (cs32 ++ ex33) 24 3 true)]] F44 L F nx0) ?_ fun s hS => ?_
 rcases bool_cases ((y38.2 != 0)) with hcj | hcj
 replace hS := hS.know (t := 47) rfl (congrArg Value.bool hcj)
 refine sg0 hS 3 [] [50] [.bool true] [] (by kernel_rfl) fun s hS => (KW.nil ?_)
 exact (hS.know (t := 50) (u' := .bool ((y38.2 != 0) || (y42.2.2 != 0))) rfl (jn_or_t hcj)).subR rfl
 replace hS := hS.know (t := 47) rfl (congrArg Value.bool hcj)
 refine sg0 hS 3 [] [50] [.bool (y42.2.2 != 0)] [] (by kernel_rfl) fun s hS => (KW.nil ?_)
 exact (hS.know (t := 50) (u' := .bool ((y38.2 != 0) || (y42.2.2 != 0))) rfl (jn_or_f hcj)).subR rfl
 refine sg0 hS 1 [] [51] [.bool ((y38.2 != 0) || (y42.2.2 != 0))] [] (by kernel_rfl) fun s hS => (q_cut 4 (fun s => Stt EV s [(55, .bool (((y38.2 != 0) || (y42.2.2 != 0)) || (!decide (y42.1 = pA)))), (0, strV pA), (2, .bool false), (3, .slice (some ⟨i31, 0, none⟩) y7.1.length 3), (5, .int .i64 x16), (6, strV y38.1)] [B48, [(i31, .row (cs32 ++ ex33) 24 3 true)]] F44 L F nx0) ?_ fun s hS => ?_)
 rcases bool_cases (((y38.2 != 0) || (y42.2.2 != 0))) with hcj | hcj
 replace hS := hS.know (t := 50) rfl (congrArg Value.bool hcj)
 replace hS := hS.know (t := 51) rfl (congrArg Value.bool hcj)
 refine sg0 hS 4 [] [55] [.bool true] [] (by kernel_rfl) fun s hS => (KW.nil ?_)
 exact (hS.know (t := 55) (u' := .bool (((y38.2 != 0) || (y42.2.2 != 0)) || (!decide (y42.1 = pA)))) rfl (jn_or_t hcj)).subR rfl
 replace hS := hS.know (t := 50) rfl (congrArg Value.bool hcj)
 replace hS := hS.know (t := 51) rfl (congrArg Value.bool hcj)
 refine sg0 hS 2 [] [52, 53] [strV y42.1, strV pA] [] (by kernel_rfl) fun s hS => (q_pu hS (wt hS rfl rfl rfl rfl) rfl rfl rfl (v := .bool (!decide (y42.1 = pA))) (aop_sne (hS.lk rfl) (hS.lk rfl)) fun s hS => ?_)
 refine sg0 hS 1 [] [55] [.bool (!decide (y42.1 = pA))] [] (by kernel_rfl) fun s hS => (KW.nil ?_)
 exact (hS.know (t := 55) (u' := .bool (((y38.2 != 0) || (y42.2.2 != 0)) || (!decide (y42.1 = pA)))) rfl (jn_or_f hcj)).subR rfl
 refine sg0 hS 1 [] [56] [.bool (((y38.2 != 0) || (y42.2.2 != 0)) || (!decide (y42.1 = pA)))] [] (by kernel_rfl) fun s hS => ?_
 obtain ⟨z50, hz50, h23⟩ := bind_some h23
 refine q_cut 13 (fun s => Stt EV s [(69, .bool z50), (0, strV pA), (2, .bool false), (3, .slice (some ⟨i31, 0, none⟩) y7.1.length 3), (5, .int .i64 x16)] [B48, [(i31, .row (cs32 ++ ex33) 24 3 true)]] F44 L F nx0) ?_ fun s hS => ?_
 refine bc hz50 (fun hc51 hz50 => ?_) fun hc51 hz50 => ?_
 replace hS := hS.kb 55 hc51 rfl
 replace hS := hS.kb 56 hc51 rfl
 refine sg0 hS 13 [] [69] [.bool true] [] (by kernel_rfl) fun s hS => (KW.nil ?_)
 obtain rfl := Option.some.inj hz50
 exact hS.subR rfl
 replace hS := hS.kb 55 hc51 rfl
 replace hS := hS.kb 56 hc51 rfl
 refine sg0 hS 6 [] [58, 60, 61, 62] [.int .i64 (y38.1.length : Int), .int .i64 (pA.length : Int), .slice (some ⟨i31, 0, none⟩) y7.1.length 3, .int .i64 x16] [] (by kernel_rfl) fun s hS => ?_
 obtain ⟨hk52, hz50⟩ := ite_some hz50
 obtain ⟨c53, hR54, hN56, hN55, hT57⟩ := Cells.loadF (hC34.mono (FLe.trans hF18 (FLe.trans hF41 hF49))) ex33 hk52 (z := 3) rfl
 obtain ⟨a58, z59, rfl, hz60⟩ := hR54
 refine q_pu hS (wt hS rfl rfl rfl rfl) rfl rfl rfl (v := .pointer (some ⟨i31, 0 + (x16).toNat * 3, none⟩)) (aop_ia (hS.lk rfl) (hS.lk rfl) te36 hk52) fun s hS => (q_pu hS (wt hS rfl rfl rfl rfl) rfl rfl rfl (v := .pointer (some ⟨i31, 0 + (x16).toNat * 3 + 2, none⟩)) (aop_fa (hS.lk rfl) tf24_2 rfl rfl) fun s hS => ?_)
 refine q_ld hS (wt hS rfl rfl rfl rfl) rfl rfl rfl (hS.at (k := 1) rfl) tg22 (v := .slice a58 ((gt y7.1 x16).2.2).length z59) (hN56 2 (by decide)) fun s hS => (sg0 hS 4 [] [69] [.bool ((y38.1.length : Int) != (w64 ((pA.length : Int) + (((gt y7.1 x16).2.2).length : Int))))] [] (by kernel_rfl) fun s hS => ?_)
 refine KW.nil ?_
 obtain rfl := Option.some.inj hz50
 exact hS.subR rfl
 refine KW.nil (bc h23 (fun hc61 h23 => ?_) fun hc61 h23 => ?_)
 refine WW.condK hS rfl hc61 (WW.seq ?_)
 refine WW.region (sg0 hS 1 [] [2] [.bool false] [] (by kernel_rfl) fun s hS => ?_)
 refine KW.nil (WW.ret ?_)
 replace hS := hS.drop
 replace hS := hS.drop
 cases h23
 exact ⟨_, rfl, rfl, fin1 hS (.inr rfl) 2 rfl rfl ⟨((FLe.trans hF4 (FLe.trans hF14 (FLe.trans hF18 (FLe.trans hF41 hF49))))), rfl, rfl⟩⟩
 refine WW.condF hS rfl hc61 (WW.skip ?_)
 refine WW.seq (WW.region ?_)
 refine sg0 hS 1 [] [11] [.int .i64 0] [] (by kernel_rfl) fun s hS => (KW.nil ?_)
 refine WW.block ?_
 obtain ⟨o63, ho63, h23⟩ := bind_some h23
 refine WW.loop (LW.iterS ho63 (fun (x62 : Int) s => Stt EV s [(0, strV pA), (2, .bool false), (3, .slice (some ⟨i31, 0, none⟩) y7.1.length 3), (5, .int .i64 x16), (11, .int .i64 x62)] [B48, [(i31, .row (cs32 ++ ex33) 24 3 true)]] F44 L F nx0) 2 (fun r => FinQ EV Tryz.f5 L F nx0 (fun v S' F' => FLe F F' ∧ v = .bool r ∧ S' = [])) (hS.subR rfl) ?_ ?_)
 clear hS
 rintro x62 s hS o63' h65
 unfold g_25.b1 at h65
 refine WW.seq (WW.seq ?_)
 refine WW.region (sg0 hS 3 [] [70, 71, 72] [.int .i64 x62, .slice (some ⟨i31, 0, none⟩) y7.1.length 3, .int .i64 x16] [] (by kernel_rfl) fun s hS => ?_)
 obtain ⟨hk66, h65⟩ := ite_some h65
 obtain ⟨c67, hR68, hN70, hN69, hT71⟩ := Cells.loadF (hC34.mono (FLe.trans hF18 (FLe.trans hF41 hF49))) ex33 hk66 (z := 3) rfl
 obtain ⟨a72, z73, rfl, hz74⟩ := hR68
 refine q_pu hS (wn rfl) rfl rfl rfl (v := .pointer (some ⟨i31, 0 + (x16).toNat * 3, none⟩)) (aop_ia (hS.lk rfl) (hS.lk rfl) te36 hk66) fun s hS => (q_pu hS (wn rfl) rfl rfl rfl (v := .pointer (some ⟨i31, 0 + (x16).toNat * 3 + 2, none⟩)) (aop_fa (hS.lk rfl) tf24_2 rfl rfl) fun s hS => ?_)
 refine q_ld hS (wn rfl) rfl rfl rfl (hS.at (k := 1) rfl) tg22 (v := .slice a72 ((gt y7.1 x16).2.2).length z73) (hN70 2 (by decide)) fun s hS => (sg0 hS 2 [] [77] [.bool (decide (x62 < (((gt y7.1 x16).2.2).length : Int)))] [] (by kernel_rfl) fun s hS => ?_)
 refine KW.nil (bc h65 (fun hc75 h65 => ?_) fun hc75 h65 => ?_)
 refine WW.condK hS rfl hc75 (WW.skip ?_)
 refine WW.seq (WW.block ?_)
 refine WW.seq (WW.regionD (i := [[], [0], [], [], [], [4, 3, 2, 1, 0], [], [], [7, 6, 5, 4, 3, 2, 1, 0], [7, 6, 5, 4, 3, 2, 1, 0], [7, 6, 5, 4, 3, 2, 1, 0], [], [], [], [], [], [], [], [17], [], [], [], [21, 20, 19, 18, 17], [], [], [24, 23, 22, 21, 20, 19, 18, 17], [25, 24, 23, 22, 21, 20, 19, 18, 17], [24, 23, 22, 21, 20, 19, 18, 17], [24, 23, 22, 21, 20, 19, 18, 17], [24, 23, 22, 21, 20, 19, 18, 17], [29, 28, 27, 26, 25, 24, 23, 22, 21, 20, 19, 18, 17], [29, 28, 27, 26, 25, 24, 23, 22, 21, 20, 19, 18, 17], [24, 23, 22, 21, 20, 19, 18, 17], [24, 23, 22, 21, 20, 19, 18, 17], [], [], []]) (by kernel_rfl) ?_)
 have hq := RS.start [i31]
 refine kg hS hq 2 [80, 81] [.slice (some ⟨i31, 0, none⟩) y7.1.length 3, .int .i64 x16] (by kernel_rfl) fun s rs hS hq => ?_
 obtain ⟨hk76, h65⟩ := ite_some h65
 obtain ⟨c77, hR78, hN80, hN79, hT81⟩ := Cells.loadF (hC34.mono (FLe.trans hF18 (FLe.trans hF41 hF49))) ex33 hk76 (z := 3) rfl
 obtain ⟨a82, z83, rfl, hz84⟩ := hR78
 refine K.pu hS hq rfl (wn rfl) rfl rfl rfl (v := .pointer (some ⟨i31, 0 + (x16).toNat * 3, none⟩)) (aop_ia (hS.lk rfl) (hS.lk rfl) te36 hk76) fun s rs hS hq => (K.pu hS hq rfl (wn rfl) rfl rfl rfl (v := .pointer (some ⟨i31, 0 + (x16).toNat * 3 + 2, none⟩)) (aop_fa (hS.lk rfl) tf24_2 rfl rfl) fun s rs hS hq => ?_)
 refine K.ld hS hq rfl (wn rfl) rfl rfl rfl (hS.at (k := 1) rfl) tg22 (v := .slice a82 ((gt y7.1 x16).2.2).length z83) (hN80 2 (by decide)) 0 rfl rfl fun s rs hS hq => (kg hS hq 1 [85] [.int .i64 x62] (by kernel_rfl) fun s rs hS hq => ?_)
 obtain ⟨hk85, h65⟩ := ite_some h65
 obtain ⟨i91, of92, rfl⟩ := Frz.addr hz84 (by omega)
 obtain ⟨_, _, _, _, c86, hF93, hR87, hN88, hN89, hT90⟩ := Frz.at hz84 hk85 (m := 1) rfl
 obtain rfl := hR87
 refine K.pu hS hq rfl (wn rfl) rfl rfl rfl (v := .pointer (some ⟨i91, of92 + (x62).toNat * 1, none⟩)) (aop_ia (hS.lk rfl) (hS.lk rfl) te22 hk85) fun s rs hS hq => ?_
 replace hq := hq.more i91 rfl rfl rfl
 refine K.ld hS hq rfl (wn rfl) rfl rfl rfl (hS.fat hF93) tg3 (v := .int .i64 (gt ((gt y7.1 x16).2.2) x62)) hN88 1 rfl rfl fun s rs hS hq => (kg hS hq 3 [90] [.int .i64 (w64 ((pA.length : Int) - 1))] (by kernel_rfl) fun s rs hS hq => ?_)
 obtain ⟨y94, hy94, h65⟩ := bind_some h65
 refine K.cl hS hq rfl (wn rfl) (vs := [.int .i64 (gt ((gt y7.1 x16).2.2) x62), .int .i64 1, .int .i64 (w64 ((pA.length : Int) - 1))]) (ws := [.int .i64 (gt ((gt y7.1 x16).2.2) x62), .int .i64 1, .int .i64 (w64 ((pA.length : Int) - 1))]) rfl rfl rfl rfl rfl 0 rfl (g_2.ok hy94)  [0, 1] rfl rfl (aw_c rfl (mm1 mm0) (aw_f rfl hF93 aw_n)) fun s rs v S' F' hp95 hF hS hq => ?_
 obtain ⟨rfl, rfl, rfl⟩ := hp95
 refine kg hS hq 2 [93] [.bool (!y94)] (by kernel_rfl) fun s rs hS hq => (bc h65 (fun hc96 h65 => ?_) fun hc96 h65 => ?_)
 replace hS := hS.kb 93 hc96 rfl
 refine kg hS hq 3 [96] [undef] (by kernel_rfl) fun s rs hS hq => (K.no hS hq rfl (wu hS rfl rfl rfl) rfl fun s rs hS hq => ?_)
 refine K.no hS hq rfl (wu hS rfl rfl rfl) rfl fun s rs hS hq => (K.no hS hq rfl (wu hS rfl rfl rfl) rfl fun s rs hS hq => ?_)
 refine K.no hS hq rfl (wu hS rfl rfl rfl) rfl fun s rs hS hq => (K.no hS hq rfl (wu hS rfl rfl rfl) rfl fun s rs hS hq => ?_)
 refine K.no hS hq rfl (wu hS rfl rfl rfl) rfl fun s rs hS hq => (K.no hS hq rfl (wu hS rfl rfl rfl) rfl fun s rs hS hq => ?_)
 refine K.no hS hq rfl (wu hS rfl rfl rfl) rfl fun s rs hS hq => (K.no hS hq rfl (wu hS rfl rfl rfl) rfl fun s rs hS hq => ?_)
 refine K.no hS hq rfl (wu hS rfl rfl rfl) rfl fun s rs hS hq => (K.no hS hq rfl (wu hS rfl rfl rfl) rfl fun s rs hS hq => ?_)
 refine K.no hS hq rfl (wu hS rfl rfl rfl) rfl fun s rs hS hq => (K.no hS hq rfl (wu hS rfl rfl rfl) rfl fun s rs hS hq => ?_)
 refine K.no hS hq rfl (wu hS rfl rfl rfl) rfl fun s rs hS hq => (K.no hS hq rfl (wu hS rfl rfl rfl) rfl fun s rs hS hq => ?_)
 refine K.no hS hq rfl (wu hS rfl rfl rfl) rfl fun s rs hS hq => (K.no hS hq rfl (wu hS rfl rfl rfl) rfl fun s rs hS hq => ?_)
 refine K.no hS hq rfl (wu hS rfl rfl rfl) rfl fun s rs hS hq => (kg hS hq 2 [116] [.bool true] (by kernel_rfl) fun s rs hS hq => ?_)
 refine KW.nil (WW.condK hS rfl rfl ?_)
 refine WW.seq (WW.region ?_)
 refine sg0 hS 1 [] [2] [.bool false] [] (by kernel_rfl) fun s hS => (KW.nil ?_)
 refine WW.ret ?_
 replace hS := hS.drop
 replace hS := hS.drop
 cases h65
 exact ⟨_, rfl, rfl, fin1 hS (.inr rfl) 2 rfl rfl ⟨((FLe.trans hF4 (FLe.trans hF14 (FLe.trans hF18 (FLe.trans hF41 hF49))))), rfl, rfl⟩⟩
 replace hS := hS.kb 93 hc96 rfl
 refine kg hS hq 3 [96] [.bool (decide (x62 > 0))] (by kernel_rfl) fun s rs hS hq => (bc h65 (fun hc97 h65 => ?_) fun hc97 h65 => ?_)
 replace hS := hS.kb 96 hc97 rfl
 refine kg hS hq 2 [97, 98] [.slice (some ⟨i31, 0, none⟩) y7.1.length 3, .int .i64 x16] (by kernel_rfl) fun s rs hS hq => ?_
 obtain ⟨hk98, h65⟩ := ite_some h65
 obtain ⟨c99, hR100, hN102, hN101, hT103⟩ := Cells.loadF (hC34.mono (FLe.trans hF18 (FLe.trans hF41 hF49))) ex33 hk98 (z := 3) rfl
 obtain ⟨a104, z105, rfl, hz106⟩ := hR100
 refine K.pu hS hq rfl (wt hS rfl rfl rfl rfl) rfl rfl rfl (v := .pointer (some ⟨i31, 0 + (x16).toNat * 3, none⟩)) (aop_ia (hS.lk rfl) (hS.lk rfl) te36 hk98) fun s rs hS hq => (K.pu hS hq rfl (wt hS rfl rfl rfl rfl) rfl rfl rfl (v := .pointer (some ⟨i31, 0 + (x16).toNat * 3 + 2, none⟩)) (aop_fa (hS.lk rfl) tf24_2 rfl rfl) fun s rs hS hq => ?_)
 refine K.ld hS hq rfl (wt hS rfl rfl rfl rfl) rfl rfl rfl (hS.at (k := 1) rfl) tg22 (v := .slice a104 ((gt y7.1 x16).2.2).length z105) (hN102 2 (by decide)) 0 rfl rfl fun s rs hS hq => (kg hS hq 1 [102] [.int .i64 x62] (by kernel_rfl) fun s rs hS hq => ?_)
 obtain ⟨hk107, h65⟩ := ite_some h65
 obtain ⟨i113, of114, rfl⟩ := Frz.addr hz106 (by omega)
 obtain ⟨_, _, _, _, c108, hF115, hR109, hN110, hN111, hT112⟩ := Frz.at hz106 hk107 (m := 1) rfl
 obtain rfl := hR109
 refine K.pu hS hq rfl (wt hS rfl rfl rfl rfl) rfl rfl rfl (v := .pointer (some ⟨i113, of114 + (x62).toNat * 1, none⟩)) (aop_ia (hS.lk rfl) (hS.lk rfl) te22 hk107) fun s rs hS hq => ?_
 replace hq := hq.more i113 rfl rfl rfl
 refine K.ld hS hq rfl (wt hS rfl rfl rfl rfl) rfl rfl rfl (hS.fat hF115) tg3 (v := .int .i64 (gt ((gt y7.1 x16).2.2) x62)) hN110 2 rfl rfl fun s rs hS hq => (kg hS hq 2 [105, 106] [.slice (some ⟨i31, 0, none⟩) y7.1.length 3, .int .i64 x16] (by kernel_rfl) fun s rs hS hq => ?_)
 obtain ⟨hk116, h65⟩ := ite_some h65
 obtain ⟨c117, hR118, hN120, hN119, hT121⟩ := Cells.loadF (hC34.mono (FLe.trans hF18 (FLe.trans hF41 hF49))) ex33 hk116 (z := 3) rfl
 obtain ⟨a122, z123, rfl, hz124⟩ := hR118
 refine K.pu hS hq rfl (wt hS rfl rfl rfl rfl) rfl rfl rfl (v := .pointer (some ⟨i31, 0 + (x16).toNat * 3, none⟩)) (aop_ia (hS.lk rfl) (hS.lk rfl) te36 hk116) fun s rs hS hq => (K.pu hS hq rfl (wt hS rfl rfl rfl rfl) rfl rfl rfl (v := .pointer (some ⟨i31, 0 + (x16).toNat * 3 + 2, none⟩)) (aop_fa (hS.lk rfl) tf24_2 rfl rfl) fun s rs hS hq => ?_)
 refine K.ld hS hq rfl (wt hS rfl rfl rfl rfl) rfl rfl rfl (hS.at (k := 1) rfl) tg22 (v := .slice a122 ((gt y7.1 x16).2.2).length z123) (hN120 2 (by decide)) 0 rfl rfl fun s rs hS hq => (kg hS hq 2 [111] [.int .i64 (w64 (x62 - 1))] (by kernel_rfl) fun s rs hS hq => ?_)
 obtain ⟨hk125, h65⟩ := ite_some h65
 obtain ⟨i131, of132, rfl⟩ := Frz.addr hz124 (by omega)
 obtain ⟨_, _, _, _, c126, hF133, hR127, hN128, hN129, hT130⟩ := Frz.at hz124 hk125 (m := 1) rfl
 obtain rfl := hR127
 refine K.pu hS hq rfl (wt hS rfl rfl rfl rfl) rfl rfl rfl (v := .pointer (some ⟨i131, of132 + ((w64 (x62 - 1))).toNat * 1, none⟩)) (aop_ia (hS.lk rfl) (hS.lk rfl) te22 hk125) fun s rs hS hq => ?_
 replace hq := hq.more i131 rfl rfl rfl
 refine K.ld hS hq rfl (wt hS rfl rfl rfl rfl) rfl rfl rfl (hS.fat hF133) tg3 (v := .int .i64 (gt ((gt y7.1 x16).2.2) (w64 (x62 - 1)))) hN128 3 rfl rfl fun s rs hS hq => (kg hS hq 3 [116] [.bool (decide ((gt ((gt y7.1 x16).2.2) x62) ≤ (gt ((gt y7.1 x16).2.2) (w64 (x62 - 1)))))] (by kernel_rfl) fun s rs hS hq => ?_)
 refine KW.nil (bc h65 (fun hc134 h65 => ?_) fun hc134 h65 => ?_)
 refine WW.condK hS rfl hc134 (WW.seq ?_)
 refine WW.region (sg0 hS 1 [] [2] [.bool false] [] (by kernel_rfl) fun s hS => ?_)
 refine KW.nil (WW.ret ?_)
 replace hS := hS.drop
 replace hS := hS.drop
 cases h65
 exact ⟨_, rfl, rfl, fin1 hS (.inr rfl) 2 rfl rfl ⟨((FLe.trans hF4 (FLe.trans hF14 (FLe.trans hF18 (FLe.trans hF41 hF49))))), rfl, rfl⟩⟩
 refine WW.condF hS rfl hc134 (WW.skip ?_)
 refine WW.region (sg0 hS 3 [] [11] [.int .i64 (w64 (x62 + 1))] [] (by kernel_rfl) fun s hS => ?_)
 refine KW.nil ?_
 obtain rfl := Option.some.inj h65
 exact ⟨_, rfl, (hS.subR rfl)⟩
 replace hS := hS.kb 96 hc97 rfl
 refine kg hS hq 20 [116] [.bool false] (by kernel_rfl) fun s rs hS hq => (KW.nil ?_)
 refine WW.condF hS rfl rfl (WW.skip ?_)
 refine WW.region (sg0 hS 3 [] [11] [.int .i64 (w64 (x62 + 1))] [] (by kernel_rfl) fun s hS => ?_)
 refine KW.nil ?_
 obtain rfl := Option.some.inj h65
 exact ⟨_, rfl, (hS.subR rfl)⟩
 refine WW.condF hS rfl hc75 (WW.exit ?_)
 refine thenQ_exit ?_
 obtain rfl := Option.some.inj h65
 exact ⟨_, rfl, rfl, (hS.subR rfl)⟩
 clear hS
 rcases o63 with y135 | y135
 rintro e s ⟨rfl, hS⟩
 replace h23 := match2_inl h23
 refine blockQ_exit (WW.region ?_)
 refine sg0 hS 3 [] [5] [.int .i64 (w64 (x16 + 1))] [] (by kernel_rfl) fun s hS => (KW.nil ?_)
 replace hS := hS.drop
 obtain rfl := Option.some.inj h23
 exact ⟨_, rfl, _, (hS.subR rfl), (FLe.trans hF18 (FLe.trans hF41 hF49))⟩
 rintro e s ⟨rfl, hfin⟩
 replace h23 := match2_inr h23
 obtain rfl := Option.some.inj h23
 exact ⟨_, rfl, rfl, hfin⟩
 refine WW.condF hS rfl hc24 (WW.exit ?_)
 refine thenQ_exit ?_
 obtain rfl := Option.some.inj h23
 exact ⟨_, rfl, rfl, _, (hS.subR rfl), hF18⟩
 clear hS
 rcases o19 with y136 | y136
 rintro e s ⟨rfl, F137, hS, hF138⟩
 replace h := match_inl h
 refine blockQ_exit (WW.seq ?_)
 refine WW.region (sg0 hS 1 [] [2] [.bool true] [] (by kernel_rfl) fun s hS => ?_)
 refine KW.nil (WW.ret ?_)
 replace hS := hS.drop
 cases h
 exact fin1 hS (.inr rfl) 2 rfl rfl ⟨((FLe.trans hF4 (FLe.trans hF14 hF138))), rfl, rfl⟩
 rintro e s ⟨rfl, hfin⟩
 replace h := match_inr h
 obtain rfl := Option.some.inj h
 exact hfin
end Go.Proofs.YtcafgoomipkljaaGreatDoorAi
