import Derived.Test.YtcafgoomipkljaaGreatDoorApX1b
namespace Go.Proofs.YtcafgoomipkljaaGreatDoorAi
set_option maxHeartbeats 4000000
open Go Go.RowKit
set_option linter.unusedVariables false
set_option linter.unusedSimpArgs false
set_option maxRecDepth 100000
noncomputable def g_3.b0 (pA : List UInt8) (x2 : Int) : Option ((Int) ⊕ ((Int) ⊕ (Bool))) :=
  (if (decide (x2 < (pA.length : Int))) then (if 0 ≤ x2 ∧ x2 < (pA.length : Int) then Option.bind (g_4.f (IntKind.i64.wrap ((gt pA x2).toNat : Int)) 32 126) fun y8 => (if (!y8) then some (.inr (.inr false)) else some (.inl (w64 (x2 + 1)))) else none) else some (.inr (.inl x2)))
noncomputable def g_3.f (pA : List UInt8) (pB : Int) : Option (Bool) :=
  (if (decide ((pA.length : Int) > pB)) then some false else Option.bind (iter (g_3.b0 pA) 0) fun o3 => onSum o3 fun y11 => some true)
theorem g_3.ok {pA : List UInt8} {pB : Int} {F : FZ} {r : Bool} (h : g_3.f pA pB = some r) :
    Cl EV 100 [strV pA, .int .i64 pB] [] F (fun v S' F' => F = F' ∧ v = .bool r ∧ S' = []) := by
 refine Cl.of Tryz.func100 rfl (fun _ _ => rfl) (by kernel_rfl) fun s L nx0 hS => ?_
 unfold g_3.f at h
 refine WW.seq (WW.region ?_)
 refine sg0 hS 1 [] [4] [.bool false] [] (by kernel_rfl) fun s hS => (KW.nil ?_)
 refine WW.seq (WW.seq ?_)
 refine WW.region (sg0 hS 4 [] [9] [.bool (decide ((pA.length : Int) > pB))] [] (by kernel_rfl) fun s hS => ?_)
 refine KW.nil (bc h (fun hc1 h => ?_) fun hc1 h => ?_)
 refine WW.condK hS rfl hc1 (WW.seq ?_)
 refine WW.region (sg0 hS 1 [] [4] [.bool false] [] (by kernel_rfl) fun s hS => ?_)
 refine KW.nil (WW.ret ?_)
 cases h
 exact fin1 hS (.inr rfl) 4 rfl rfl ⟨rfl, rfl, rfl⟩
 refine WW.condF hS rfl hc1 (WW.skip ?_)
 refine WW.seq (WW.seq ?_)
 refine WW.region (sg0 hS 1 [] [5] [.int .i64 0] [] (by kernel_rfl) fun s hS => ?_)
 refine KW.nil (WW.block ?_)
 obtain ⟨o3, ho3, h⟩ := bind_some h
 refine WW.loop (LW.iterS ho3 (fun (x2 : Int) s => Stt EV s [(0, strV pA), (4, .bool false), (5, .int .i64 x2)] [] F L F nx0) 0 (fun r => FinQ EV Tryz.f100 L F nx0 (fun v S' F' => F = F' ∧ v = .bool r ∧ S' = [])) (hS.subR rfl) ?_ ?_)
 clear hS
 rintro x2 s hS o3' h5
 unfold g_3.b0 at h5
 refine WW.seq (WW.seq ?_)
 refine WW.region (sg0 hS 4 [] [13] [.bool (decide (x2 < (pA.length : Int)))] [] (by kernel_rfl) fun s hS => ?_)
 refine KW.nil (bc h5 (fun hc6 h5 => ?_) fun hc6 h5 => ?_)
 refine WW.condK hS rfl hc6 (WW.skip ?_)
 refine WW.seq (WW.block ?_)
 refine WW.seq (WW.region ?_)
 refine sg0 hS 2 [] [16, 17] [strV pA, .int .i64 x2] [] (by kernel_rfl) fun s hS => ?_
 obtain ⟨hk7, h5⟩ := ite_some h5
 refine q_pu hS (wn rfl) rfl rfl rfl (v := vB (gt pA x2)) (aop_idxS tu9 (hS.lk rfl) (hS.lk rfl) hk7) fun s hS => (q_pu hS (wn rfl) rfl rfl (tgt_cv hS rfl rfl) (v := .int .i64 (IntKind.i64.wrap ((gt pA x2).toNat : Int))) (aop_cvi (hS.lk rfl) tu5 tu3) fun s hS => ?_)
 obtain ⟨y8, hy8, h5⟩ := bind_some h5
 refine cR (g_4.ok hy8) hS 0 20 0 rfl (by kernel_rfl) fun s hS => (sg0 hS 1 [] [21] [.bool (!y8)] [] (by kernel_rfl) fun s hS => ?_)
 refine KW.nil (bc h5 (fun hc10 h5 => ?_) fun hc10 h5 => ?_)
 refine WW.condK hS rfl hc10 (WW.seq ?_)
 refine WW.region (sg0 hS 1 [] [4] [.bool false] [] (by kernel_rfl) fun s hS => ?_)
 refine KW.nil (WW.ret ?_)
 cases h5
 exact ⟨_, rfl, rfl, fin1 hS (.inr rfl) 4 rfl rfl ⟨rfl, rfl, rfl⟩⟩
 refine WW.condF hS rfl hc10 (WW.skip ?_)
 refine WW.region (sg0 hS 3 [] [5] [.int .i64 (w64 (x2 + 1))] [] (by kernel_rfl) fun s hS => ?_)
 refine KW.nil ?_
 obtain rfl := Option.some.inj h5
 exact ⟨_, rfl, (hS.subR rfl)⟩
 refine WW.condF hS rfl hc6 (WW.exit ?_)
 refine thenQ_exit ?_
 obtain rfl := Option.some.inj h5
 exact ⟨_, rfl, rfl, (hS.subR rfl)⟩
 clear hS
 rcases o3 with y11 | y11
 rintro e s ⟨rfl, hS⟩
 replace h := match_inl h
 refine blockQ_exit (WW.seq ?_)
 refine WW.region (sg0 hS 1 [] [4] [.bool true] [] (by kernel_rfl) fun s hS => ?_)
 refine KW.nil (WW.ret ?_)
 cases h
 exact fin1 hS (.inr rfl) 4 rfl rfl ⟨rfl, rfl, rfl⟩
 rintro e s ⟨rfl, hfin⟩
 replace h := match_inr h
 obtain rfl := Option.some.inj h
 exact hfin
noncomputable def g_2d.f (pA : List UInt8) : Option (Int) :=
  (if (decide ((pA.length : Int) > 1320)) then some 8 else Option.bind (g_3.f pA 1320) fun y2 => (if (!y2) then some 3 else some 0))
theorem g_2d.ok {pA : List UInt8} {F : FZ} {r : Int} (h : g_2d.f pA = some r) :
    Cl EV 76 [strV pA] [] F (fun v S' F' => F = F' ∧ v = .int .i64 r ∧ S' = []) := by
 refine Cl.of Tryz.func76 rfl (fun _ _ => rfl) (by kernel_rfl) fun s L nx0 hS => ?_
 unfold g_2d.f at h
 refine WW.seq (WW.region ?_)
 refine sg0 hS 1 [] [2] [.int .i64 0] [] (by kernel_rfl) fun s hS => (KW.nil ?_)
 refine WW.seq (WW.seq ?_)
 refine WW.region (sg0 hS 3 [] [5] [.bool (decide ((pA.length : Int) > 1320))] [] (by kernel_rfl) fun s hS => ?_)
 refine KW.nil (bc h (fun hc1 h => ?_) fun hc1 h => ?_)
 refine WW.condK hS rfl hc1 (WW.seq ?_)
 refine WW.region (sg0 hS 1 [] [2] [.int .i64 8] [] (by kernel_rfl) fun s hS => ?_)
 refine KW.nil (WW.ret ?_)
 cases h
 exact fin1 hS (.inr rfl) 2 rfl rfl ⟨rfl, rfl, rfl⟩
 refine WW.condF hS rfl hc1 (WW.skip ?_)
 refine WW.seq (WW.seq ?_)
 refine WW.region ?_
 obtain ⟨y2, hy2, h⟩ := bind_some h
 refine cR (g_3.ok hy2) hS 1 7 0 rfl (by kernel_rfl) fun s hS => (sg0 hS 1 [] [8] [.bool (!y2)] [] (by kernel_rfl) fun s hS => ?_)
 refine KW.nil (bc h (fun hc4 h => ?_) fun hc4 h => ?_)
 refine WW.condK hS rfl hc4 (WW.seq ?_)
 refine WW.region (sg0 hS 1 [] [2] [.int .i64 3] [] (by kernel_rfl) fun s hS => ?_)
 refine KW.nil (WW.ret ?_)
 cases h
 exact fin1 hS (.inr rfl) 2 rfl rfl ⟨rfl, rfl, rfl⟩
 refine WW.condF hS rfl hc4 (WW.skip ?_)
 refine WW.seq (WW.region ?_)
 refine sg0 hS 1 [] [2] [.int .i64 0] [] (by kernel_rfl) fun s hS => (KW.nil ?_)
 refine WW.ret ?_
 cases h
 exact fin1 hS (.inr rfl) 2 rfl rfl ⟨rfl, rfl, rfl⟩
noncomputable def g_2i.f (pA : List UInt8) (pB : List UInt8) (pC : List Int) (pJ : List (Int × Int)) (pP : Int) (pT : UInt8) (pU : Int) : Option (List UInt8 × List UInt8 × List Int × (List (Int × Int)) × Int) :=
  (if pA.length + ([pT] : List UInt8).length < 1000000000 then (if pB.length + ([pT] : List UInt8).length < 1000000000 then (if pC.length + ([pU] : List Int).length < 1000000000 then some ((pA ++ ([pT] : List UInt8)), (pB ++ ([pT] : List UInt8)), (pC ++ ([pU] : List Int)), pJ, pP) else none) else none) else none)
theorem g_2i.ok {aE : Option Addr} {zH : Nat} {BJ : Seg} {aM : Option Addr} {zN : Nat} {BP : Seg} {pA : List UInt8} {pB : List UInt8} {pC : List Int} {pJ : List (Int × Int)} {pP : Int} {pT : UInt8} {pU : Int} {F : FZ} {r : List UInt8 × List UInt8 × List Int × (List (Int × Int)) × Int} (h : g_2i.f pA pB pC pJ pP pT pU = some r) (hI : Own (elI .i64 3) F aE zH pC BJ) (hO : Own el50 F aM zN pJ BP) :
    Cl EV 78 [.agg #[strV pA, strV pB, .slice aE pC.length zH, .slice aM pJ.length zN, .int .i64 pP], vB pT, .int .i64 pU] [BJ, BP] F (fun v S' F' => ∃ (ra1 : Option Addr) (rz2 : Nat) (rB4 : Seg) (ra5 : Option Addr) (rz6 : Nat) (rB8 : Seg), F = F' ∧ v = .agg #[strV r.1, strV r.2.1, .slice ra1 r.2.2.1.length rz2, .slice ra5 r.2.2.2.1.length rz6, .int .i64 r.2.2.2.2] ∧ S' = [rB4, rB8] ∧ Own (elI .i64 3) F' ra1 rz2 r.2.2.1 rB4 ∧ Own el50 F' ra5 rz6 r.2.2.2.1 rB8) := by
 refine Cl.of Tryz.func78 rfl (fun _ _ => rfl) (by kernel_rfl) fun s L nx0 hS => ?_
 unfold g_2i.f at h
 refine WW.seq (WW.region ?_)
 refine q_nw hS (wn rfl) rfl rfl rfl (v := fun i => .pointer (some ⟨i, 0, none⟩)) (b := .row [strV pA, strV pB, .slice aE pC.length zH, .slice aM pJ.length zN, .int .i64 pP] 73 0 true) (aop_box (hS.lk rfl) rfl [strV pA, strV pB, .slice aE pC.length zH, .slice aM pJ.length zN, .int .i64 pP] rfl) fun s i1 hS => (q_nw hS (wn rfl) rfl rfl rfl (v := fun i => .pointer (some ⟨i, 0, none⟩)) (b := .row [strV ([]), strV ([]), .slice none 0 0, .slice none 0 0, .int .i64 0] 73 0 true) (aop_alloc t0_73) fun s i2 hS => ?_)
 refine KW.nil (WW.seq ?_)
 refine WW.regionD (i := [[], [], [1, 0], [1, 0], [1, 0], [], [5, 4, 3, 2, 1, 0], [5, 4, 3, 2, 1, 0], [7, 6, 5, 4, 3, 2, 1, 0], [7, 6, 5, 4, 3, 2, 1, 0], [7, 6, 5, 4, 3, 2, 1, 0], [5, 4, 3, 2, 1, 0], [11, 10, 9, 8, 7, 6, 5, 4, 3, 2, 1, 0], [11, 10, 9, 8, 7, 6, 5, 4, 3, 2, 1, 0], [13, 12, 11, 10, 9, 8, 7, 6, 5, 4, 3, 2, 1, 0], [13, 12, 11, 10, 9, 8, 7, 6, 5, 4, 3, 2, 1, 0], [11, 10, 9, 8, 7, 6, 5, 4, 3, 2, 1, 0], [16, 15, 14, 11, 10, 9, 8], [11, 10, 9, 8], [], [], [], []]) (by kernel_rfl) ?_
 have hq := RS.start [i2, i1]
 refine kg hS hq 1 [7] [.pointer (some ⟨i1, 0, none⟩)] (by kernel_rfl) fun s rs hS hq => (K.ld hS hq rfl (wn rfl) rfl rfl rfl (hS.at (k := 1) rfl) tg9 (v := strV pA) rfl 1 rfl rfl fun s rs hS hq => ?_)
 refine kg hS hq 1 [9] [vB pT] (by kernel_rfl) fun s rs hS hq => (K.nw hS hq rfl (wn rfl) rfl rfl rfl (v := fun i => .slice (some ⟨i, 0, none⟩) 1 1) (b := .row [vB pT] 5 1 true) (aop_bsl tu79 tz5 t0_5 rfl [(0, vB pT)] (parts_eq hS rfl) rfl) [0, 1] (aw_c rfl mm0 (aw_c rfl (mm1 mm0) aw_n)) rfl rfl rfl fun s rs i3 hS hq => ?_)
 have hC4 : Cells (elB 5) F ([pT] : List UInt8) [vB pT] := ⟨[vB pT], [], rfl, rfl, rfl⟩
 refine K.rd hS hq rfl (wn rfl) rfl rfl (tgt_cvr hS rfl) (hS.at (k := 0) rfl) (v := strV ([pT] : List UInt8)) (cv1c tu79 tb5 tu9 (hS.lk rfl) hC4) 2 rfl rfl fun s rs hS hq => ?_
 obtain ⟨hk5, h⟩ := ite_some h
 refine K.pu hS hq rfl (wn rfl) rfl rfl rfl (v := strV (pA ++ ([pT] : List UInt8))) (aop_sadd (hS.lk rfl) (hS.lk rfl) hk5) fun s rs hS hq => (kg hS hq 1 [13] [.pointer (some ⟨i1, 1, none⟩)] (by kernel_rfl) fun s rs hS hq => ?_)
 refine K.ld hS hq rfl (wn rfl) rfl rfl rfl (hS.at (k := 2) rfl) tg9 (v := strV pB) rfl 1 rfl rfl fun s rs hS hq => (kg hS hq 1 [15] [vB pT] (by kernel_rfl) fun s rs hS hq => ?_)
 refine K.nw hS hq rfl (wn rfl) rfl rfl rfl (v := fun i => .slice (some ⟨i, 0, none⟩) 1 1) (b := .row [vB pT] 5 1 true) (aop_bsl tu79 tz5 t0_5 rfl [(0, vB pT)] (parts_eq hS rfl) rfl) [0, 1, 2] (aw_c rfl (mm1 mm0) (aw_c rfl (mm1 (mm1 mm0)) (aw_c rfl mm0 aw_n))) rfl rfl rfl fun s rs i6 hS hq => ?_
 have hC7 : Cells (elB 5) F ([pT] : List UInt8) [vB pT] := ⟨[vB pT], [], rfl, rfl, rfl⟩
 replace hq := hq.apart 3 2 3 rfl rfl rfl (hS.ne (p := 1) (q := 0) rfl rfl rfl)
 refine K.rd hS hq rfl (wn rfl) rfl rfl (tgt_cvr hS rfl) (hS.at (k := 0) rfl) (v := strV ([pT] : List UInt8)) (cv1c tu79 tb5 tu9 (hS.lk rfl) hC7) 3 rfl rfl fun s rs hS hq => ?_
 obtain ⟨hk8, h⟩ := ite_some h
 refine K.pu hS hq rfl (wn rfl) rfl rfl rfl (v := strV (pB ++ ([pT] : List UInt8))) (aop_sadd (hS.lk rfl) (hS.lk rfl) hk8) fun s rs hS hq => (kg hS hq 1 [19] [.pointer (some ⟨i1, 2, none⟩)] (by kernel_rfl) fun s rs hS hq => ?_)
 refine K.ld hS hq rfl (wn rfl) rfl rfl rfl (hS.at (k := 3) rfl) tg22 (v := .slice aE pC.length zH) rfl 1 rfl rfl fun s rs hS hq => (kg hS hq 1 [21] [.int .i64 pU] (by kernel_rfl) fun s rs hS hq => ?_)
 refine K.nw hS hq rfl (wn rfl) rfl rfl rfl (v := fun i => .slice (some ⟨i, 0, none⟩) 1 1) (b := .row [.int .i64 pU] 3 1 true) (aop_bsl tu22 tz3 t0_3 rfl [(0, .int .i64 pU)] (parts_eq hS rfl) rfl) [0, 1, 2, 3] (aw_c rfl (mm1 (mm1 mm0)) (aw_c rfl (mm1 (mm1 (mm1 mm0))) (aw_c rfl (mm1 mm0) (aw_c rfl mm0 aw_n)))) rfl rfl rfl fun s rs i9 hS hq => ?_
 have hC10 : Cells (elI .i64 3) F ([pU] : List Int) [.int .i64 pU] := ⟨[.int .i64 pU], [], rfl, rfl, rfl⟩
 obtain ⟨hk14, h⟩ := ite_some h
 replace hS := hS.pull 5
 replace hS := hS.pull 1
 replace hS := hS.pull 3
 replace hS := hS.pull 3
 refine K.app [(i6, .row [vB pT] 5 1 true), (i3, .row [vB pT] 5 1 true)] hS hq rfl (wn rfl) (dd := (elI .i64 3)) (lst := pC) (m := ([pU] : List Int)) rfl rfl ta22_22 rfl rfl hI (Nat.succ_pos _) hC10 hk14 [0, 1, 2, 3] rfl rfl (aw_c rfl (mm1 (mm1 mm0)) (aw_c rfl (mm1 (mm1 (mm1 mm0))) (aw_c rfl (mm1 mm0) (aw_c rfl mm0 aw_n)))) fun s rs i11 cs12 hC13 hS hq => (kg hS hq 1 [24] [.pointer (some ⟨i1, 0, none⟩)] (by kernel_rfl) fun s rs hS hq => ?_)
 refine K.sto hS hq rfl (wn rfl) rfl rfl rfl rfl (p := 4) rfl tz9 rfl [strV (pA ++ ([pT] : List UInt8)), strV pB, .slice aE pC.length zH, .slice aM pJ.length zN, .int .i64 pP] rfl [0, 2, 3] rfl (aw_c rfl (mm1 (mm1 (mm1 mm0))) (aw_c rfl (mm1 mm0) (aw_c rfl mm0 aw_n))) fun s rs hS hq => (kg hS hq 1 [25] [.pointer (some ⟨i1, 1, none⟩)] (by kernel_rfl) fun s rs hS hq => ?_)
 refine K.sto hS hq rfl (wn rfl) rfl rfl rfl rfl (p := 4) rfl tz9 rfl [strV (pA ++ ([pT] : List UInt8)), strV (pB ++ ([pT] : List UInt8)), .slice aE pC.length zH, .slice aM pJ.length zN, .int .i64 pP] rfl [0, 2, 3] rfl (aw_c rfl (mm1 (mm1 (mm1 mm0))) (aw_c rfl (mm1 mm0) (aw_c rfl mm0 aw_n))) fun s rs hS hq => (kg hS hq 1 [26] [.pointer (some ⟨i1, 2, none⟩)] (by kernel_rfl) fun s rs hS hq => ?_)
 refine K.sto hS hq rfl (wn rfl) rfl rfl rfl rfl (p := 4) rfl tz22 rfl [strV (pA ++ ([pT] : List UInt8)), strV (pB ++ ([pT] : List UInt8)), .slice (some ⟨i11, 0, none⟩) (pC ++ ([pU] : List Int)).length 1, .slice aM pJ.length zN, .int .i64 pP] rfl [0, 2, 3] rfl (aw_c rfl (mm1 (mm1 (mm1 mm0))) (aw_c rfl (mm1 mm0) (aw_c rfl mm0 aw_n))) fun s rs hS hq => (KW.nil ?_)
 refine WW.seq (WW.region ?_)
 refine sg hS 2 [4, 3] [] [] [i1, i2] [[(i6, .row [vB pT] 5 1 true)], [(i3, .row [vB pT] 5 1 true)], [(i11, .row cs12 3 1 true)], [(i2, .row [strV (pA ++ ([pT] : List UInt8)), strV (pB ++ ([pT] : List UInt8)), .slice (some ⟨i11, 0, none⟩) (pC ++ ([pU] : List Int)).length 1, .slice aM pJ.length zN, .int .i64 pP] 73 0 true)], [(i1, .row [strV (pA ++ ([pT] : List UInt8)), strV (pB ++ ([pT] : List UInt8)), .slice (some ⟨i11, 0, none⟩) (pC ++ ([pU] : List Int)).length 1, .slice aM pJ.length zN, .int .i64 pP] 73 0 true)], BP] (by kernel_rfl) fun s hS => (KW.nil ?_)
 refine WW.ret ?_
 have hres := (res_cell hS (t := 6) (ty := 73) rfl (p := 3) rfl tg73 tz73 (ws := [strV (pA ++ ([pT] : List UInt8)), strV (pB ++ ([pT] : List UInt8)), .slice (some ⟨i11, 0, none⟩) (pC ++ ([pU] : List Int)).length 1, .slice aM pJ.length zN, .int .i64 pP]) rfl (res_nil (E := EV) (s := s)))
 replace hS := hS.drop
 replace hS := hS.drop
 replace hS := (hS.pull 1).drop
 replace hS := (hS.pull 1).drop
 cases h
 exact fin hS (.inr rfl) hres (v := .agg #[strV (pA ++ ([pT] : List UInt8)), strV (pB ++ ([pT] : List UInt8)), .slice (some ⟨i11, 0, none⟩) (pC ++ ([pU] : List Int)).length 1, .slice aM pJ.length zN, .int .i64 pP]) rfl ⟨_, _, _, _, _, _, rfl, rfl, rfl, (Own.blk0 hC13), hO⟩
noncomputable def g_2e.f (pA : List UInt8) (pB : List UInt8) (pC : List Int) (pJ : List (Int × Int)) (pP : Int) : Option (List UInt8 × List UInt8 × List Int × (List (Int × Int)) × Int) :=
  (if 0 ≤ (0 : Int) ∧ (0 : Int) ≤ (w64 ((pB.length : Int) - 1)) ∧ (w64 ((pB.length : Int) - 1)) ≤ (pB.length : Int) then (if (mid pB (0 : Int) (w64 ((pB.length : Int) - 1))).length + ([34] : List UInt8).length < 1000000000 then some (pA, ((mid pB (0 : Int) (w64 ((pB.length : Int) - 1))) ++ [34]), pC, pJ, pP) else none) else none)
theorem g_2e.ok {aE : Option Addr} {zH : Nat} {BJ : Seg} {aM : Option Addr} {zN : Nat} {BP : Seg} {pA : List UInt8} {pB : List UInt8} {pC : List Int} {pJ : List (Int × Int)} {pP : Int} {F : FZ} {r : List UInt8 × List UInt8 × List Int × (List (Int × Int)) × Int} (h : g_2e.f pA pB pC pJ pP = some r) (hI : Own (elI .i64 3) F aE zH pC BJ) (hO : Own el50 F aM zN pJ BP) :
    Cl EV 77 [.agg #[strV pA, strV pB, .slice aE pC.length zH, .slice aM pJ.length zN, .int .i64 pP]] [BJ, BP] F (fun v S' F' => ∃ (ra1 : Option Addr) (rz2 : Nat) (rB4 : Seg) (ra5 : Option Addr) (rz6 : Nat) (rB8 : Seg), F = F' ∧ v = .agg #[strV r.1, strV r.2.1, .slice ra1 r.2.2.1.length rz2, .slice ra5 r.2.2.2.1.length rz6, .int .i64 r.2.2.2.2] ∧ S' = [rB4, rB8] ∧ Own (elI .i64 3) F' ra1 rz2 r.2.2.1 rB4 ∧ Own el50 F' ra5 rz6 r.2.2.2.1 rB8) := by
 refine Cl.of Tryz.func77 rfl (fun _ _ => rfl) (by kernel_rfl) fun s L nx0 hS => ?_
 unfold g_2e.f at h
 refine WW.seq (WW.region ?_)
 refine q_nw hS (wn rfl) rfl rfl rfl (v := fun i => .pointer (some ⟨i, 0, none⟩)) (b := .row [strV pA, strV pB, .slice aE pC.length zH, .slice aM pJ.length zN, .int .i64 pP] 73 0 true) (aop_box (hS.lk rfl) rfl [strV pA, strV pB, .slice aE pC.length zH, .slice aM pJ.length zN, .int .i64 pP] rfl) fun s i1 hS => (q_nw hS (wn rfl) rfl rfl rfl (v := fun i => .pointer (some ⟨i, 0, none⟩)) (b := .row [strV ([]), strV ([]), .slice none 0 0, .slice none 0 0, .int .i64 0] 73 0 true) (aop_alloc t0_73) fun s i2 hS => ?_)
 refine KW.nil (WW.seq ?_)
 refine WW.region (sg0 hS 6 [1, 1] [4, 8] [strV pB, .int .i64 (w64 ((pB.length : Int) - 1))] [i1, i1] (by kernel_rfl) fun s hS => ?_)
 obtain ⟨hk3, h⟩ := ite_some h
 refine q_pu hS (wn rfl) rfl rfl rfl (v := strV (mid pB (0 : Int) (w64 ((pB.length : Int) - 1)))) (aop_slS tu9 (hS.lk rfl) (i := (0 : Int)) (j := (w64 ((pB.length : Int) - 1))) rfl (bnd_eq hS rfl) hk3) fun s hS => ?_
 obtain ⟨hk4, h⟩ := ite_some h
 refine q_pu hS (wn rfl) rfl rfl rfl (v := strV ((mid pB (0 : Int) (w64 ((pB.length : Int) - 1))) ++ [34])) (aop_sadd (hS.lk rfl) (hS.lk rfl) hk4) fun s hS => (sg hS 2 [1] [] [] [i1] [[(i2, .row [strV ([]), strV ([]), .slice none 0 0, .slice none 0 0, .int .i64 0] 73 0 true)], [(i1, .row [strV pA, strV ((mid pB (0 : Int) (w64 ((pB.length : Int) - 1))) ++ [34]), .slice aE pC.length zH, .slice aM pJ.length zN, .int .i64 pP] 73 0 true)], BJ, BP] (by kernel_rfl) fun s hS => ?_)
 refine KW.nil (WW.seq ?_)
 refine WW.region (sg hS 2 [1, 0] [] [] [i1, i2] [[(i2, .row [strV pA, strV ((mid pB (0 : Int) (w64 ((pB.length : Int) - 1))) ++ [34]), .slice aE pC.length zH, .slice aM pJ.length zN, .int .i64 pP] 73 0 true)], [(i1, .row [strV pA, strV ((mid pB (0 : Int) (w64 ((pB.length : Int) - 1))) ++ [34]), .slice aE pC.length zH, .slice aM pJ.length zN, .int .i64 pP] 73 0 true)], BJ, BP] (by kernel_rfl) fun s hS => ?_)
 refine KW.nil (WW.ret ?_)
 have hres := (res_cell hS (t := 2) (ty := 73) rfl (p := 0) rfl tg73 tz73 (ws := [strV pA, strV ((mid pB (0 : Int) (w64 ((pB.length : Int) - 1))) ++ [34]), .slice aE pC.length zH, .slice aM pJ.length zN, .int .i64 pP]) rfl (res_nil (E := EV) (s := s)))
 replace hS := hS.drop
 replace hS := hS.drop
 cases h
 exact fin hS (.inr rfl) hres (v := .agg #[strV pA, strV ((mid pB (0 : Int) (w64 ((pB.length : Int) - 1))) ++ [34]), .slice aE pC.length zH, .slice aM pJ.length zN, .int .i64 pP]) rfl ⟨_, _, _, _, _, _, rfl, rfl, rfl, hI, hO⟩
noncomputable def g_2g.f (pA : UInt8) : Option (Bool) :=
  some ((decide ((pA.toNat : Int) ≥ ((48 : UInt8).toNat : Int))) && (decide ((pA.toNat : Int) ≤ ((57 : UInt8).toNat : Int))))
theorem g_2g.ok {pA : UInt8} {F : FZ} {r : Bool} (h : g_2g.f pA = some r) :
    Cl EV 101 [vB pA] [] F (fun v S' F' => F = F' ∧ v = .bool r ∧ S' = []) := by
 refine Cl.of Tryz.func101 rfl (fun _ _ => rfl) (by kernel_rfl) fun s L nx0 hS => ?_
 unfold g_2g.f at h
 refine WW.seq (WW.region ?_)
 refine sg0 hS 1 [] [2] [.bool false] [] (by kernel_rfl) fun s hS => (KW.nil ?_)
 refine WW.seq (WW.region ?_)
 refine sg0 hS 3 [] [5] [.bool (decide ((pA.toNat : Int) ≥ ((48 : UInt8).toNat : Int)))] [] (by kernel_rfl) fun s hS => (q_cut 3 (fun s => Stt EV s [(8, .bool ((decide ((pA.toNat : Int) ≥ ((48 : UInt8).toNat : Int))) && (decide ((pA.toNat : Int) ≤ ((57 : UInt8).toNat : Int))))), (2, .bool false)] [] F L F nx0) ?_ fun s hS => ?_)
 rcases bool_cases ((decide ((pA.toNat : Int) ≥ ((48 : UInt8).toNat : Int)))) with hcj | hcj
 replace hS := hS.know (t := 5) rfl (congrArg Value.bool hcj)
 refine sg0 hS 3 [] [8] [.bool (decide ((pA.toNat : Int) ≤ ((57 : UInt8).toNat : Int)))] [] (by kernel_rfl) fun s hS => (KW.nil ?_)
 exact (hS.know (t := 8) (u' := .bool ((decide ((pA.toNat : Int) ≥ ((48 : UInt8).toNat : Int))) && (decide ((pA.toNat : Int) ≤ ((57 : UInt8).toNat : Int))))) rfl (jn_and_t hcj)).subR rfl
 replace hS := hS.know (t := 5) rfl (congrArg Value.bool hcj)
 refine sg0 hS 3 [] [8] [.bool false] [] (by kernel_rfl) fun s hS => (KW.nil ?_)
 exact (hS.know (t := 8) (u' := .bool ((decide ((pA.toNat : Int) ≥ ((48 : UInt8).toNat : Int))) && (decide ((pA.toNat : Int) ≤ ((57 : UInt8).toNat : Int))))) rfl (jn_and_f hcj)).subR rfl
 refine sg0 hS 1 [] [2] [.bool ((decide ((pA.toNat : Int) ≥ ((48 : UInt8).toNat : Int))) && (decide ((pA.toNat : Int) ≤ ((57 : UInt8).toNat : Int))))] [] (by kernel_rfl) fun s hS => (KW.nil ?_)
 refine WW.ret ?_
 cases h
 exact fin1 hS (.inr rfl) 2 rfl rfl ⟨rfl, rfl, rfl⟩
noncomputable def g_2f.b0 (pA : List UInt8) (x1 : Int) : Option ((Int) ⊕ (Int)) :=
  Option.bind ((if (decide (x1 > 0)) then (if 0 ≤ (w64 (x1 - 1)) ∧ (w64 (x1 - 1)) < (pA.length : Int) then Option.bind (g_2g.f (gt pA (w64 (x1 - 1)))) fun y8 => some y8 else none) else some false)) fun z5 => (if z5 then some (.inl (w64 (x1 - 1))) else some (.inr x1))
noncomputable def g_2f.b1 (pA : List UInt8) (x15 : Int) : Option ((Int) ⊕ (Int)) :=
  Option.bind ((if (decide (x15 > 0)) then (if 0 ≤ (w64 (x15 - 1)) ∧ (w64 (x15 - 1)) < (pA.length : Int) then Option.bind (g_2g.f (gt pA (w64 (x15 - 1)))) fun y22 => some y22 else none) else some false)) fun z19 => (if z19 then some (.inl (w64 (x15 - 1))) else some (.inr x15))
noncomputable def g_2f.f (pA : List UInt8) : Option (Int) :=
  Option.bind (iter (g_2f.b0 pA) (pA.length : Int)) fun o2 => Option.bind ((if ((decide ((w64 ((pA.length : Int) - o2)) > 0)) && (decide (o2 > 0))) then (if 0 ≤ (w64 (o2 - 1)) ∧ (w64 (o2 - 1)) < (pA.length : Int) then some (((gt pA (w64 (o2 - 1))).toNat : Int) == ((42 : UInt8).toNat : Int)) else none) else some false)) fun z11 => (if z11 then Option.bind (iter (g_2f.b1 pA) (w64 (o2 - 1))) fun o16 => (if (o16 == (w64 (o2 - 1))) then some 0 else Option.bind ((if (o16 == 0) then some true else (if 0 ≤ (w64 (o16 - 1)) ∧ (w64 (o16 - 1)) < (pA.length : Int) then Option.bind ((if (((gt pA (w64 (o16 - 1))).toNat : Int) != ((40 : UInt8).toNat : Int)) then (if 0 ≤ (w64 (o16 - 1)) ∧ (w64 (o16 - 1)) < (pA.length : Int) then some (((gt pA (w64 (o16 - 1))).toNat : Int) != ((44 : UInt8).toNat : Int)) else none) else some false)) fun z29 => Option.bind ((if z29 then (if 0 ≤ (w64 (o16 - 1)) ∧ (w64 (o16 - 1)) < (pA.length : Int) then some (((gt pA (w64 (o16 - 1))).toNat : Int) != ((47 : UInt8).toNat : Int)) else none) else some false)) fun z32 => Option.bind ((if z32 then (if 0 ≤ (w64 (o16 - 1)) ∧ (w64 (o16 - 1)) < (pA.length : Int) then some (((gt pA (w64 (o16 - 1))).toNat : Int) != ((61 : UInt8).toNat : Int)) else none) else some false)) fun z35 => some z35 else none))) fun z26 => (if z26 then some 0 else some (w64 ((pA.length : Int) - o2)))) else Option.bind ((if (o2 == 0) then some true else (if 0 ≤ (w64 (o2 - 1)) ∧ (w64 (o2 - 1)) < (pA.length : Int) then Option.bind ((if (((gt pA (w64 (o2 - 1))).toNat : Int) != ((40 : UInt8).toNat : Int)) then (if 0 ≤ (w64 (o2 - 1)) ∧ (w64 (o2 - 1)) < (pA.length : Int) then some (((gt pA (w64 (o2 - 1))).toNat : Int) != ((44 : UInt8).toNat : Int)) else none) else some false)) fun z42 => Option.bind ((if z42 then (if 0 ≤ (w64 (o2 - 1)) ∧ (w64 (o2 - 1)) < (pA.length : Int) then some (((gt pA (w64 (o2 - 1))).toNat : Int) != ((47 : UInt8).toNat : Int)) else none) else some false)) fun z45 => Option.bind ((if z45 then (if 0 ≤ (w64 (o2 - 1)) ∧ (w64 (o2 - 1)) < (pA.length : Int) then some (((gt pA (w64 (o2 - 1))).toNat : Int) != ((61 : UInt8).toNat : Int)) else none) else some false)) fun z48 => some z48 else none))) fun z39 => (if z39 then some 0 else some (w64 ((pA.length : Int) - o2))))
theorem g_2f.ok {pA : List UInt8} {F : FZ} {r : Int} (h : g_2f.f pA = some r) :
    Cl EV 79 [strV pA] [] F (fun v S' F' => F = F' ∧ v = .int .i64 r ∧ S' = []) := by
 refine Cl.of Tryz.func79 rfl (fun _ _ => rfl) (by kernel_rfl) fun s L nx0 hS => ?_
 unfold g_2f.f at h
 refine WW.seq (WW.region ?_)
 refine sg0 hS 1 [] [2] [.int .i64 0] [] (by kernel_rfl) fun s hS => (KW.nil ?_)
 refine WW.seq (WW.region ?_)
 refine sg0 hS 3 [] [3] [.int .i64 (pA.length : Int)] [] (by kernel_rfl) fun s hS => (KW.nil ?_)
 refine WW.seq (WW.block ?_)
 obtain ⟨o2, ho2, h⟩ := bind_some h
 refine WW.loop (LW.iterE ho2 (fun (x1 : Int) s => Stt EV s [(0, strV pA), (2, .int .i64 0), (3, .int .i64 x1)] [] F L F nx0) 0 (hS.subR rfl) ?_ ?_)
 clear hS
 rintro x1 s hS o2' h4
 unfold g_2f.b0 at h4
 refine WW.seq (WW.seq ?_)
 refine WW.region (sg0 hS 3 [] [10] [.bool (decide (x1 > 0))] [] (by kernel_rfl) fun s hS => ?_)
 obtain ⟨z5, hz5, h4⟩ := bind_some h4
 refine q_cut 6 (fun s => Stt EV s [(16, .bool z5), (0, strV pA), (2, .int .i64 0), (3, .int .i64 x1)] [] F L F nx0) ?_ fun s hS => ?_
 refine bc hz5 (fun hc6 hz5 => ?_) fun hc6 hz5 => ?_
 replace hS := hS.kb 10 hc6 rfl
 refine sg0 hS 3 [] [11, 13] [strV pA, .int .i64 (w64 (x1 - 1))] [] (by kernel_rfl) fun s hS => ?_
 obtain ⟨hk7, hz5⟩ := ite_some hz5
 refine q_pu hS (wt hS rfl rfl rfl rfl) rfl rfl rfl (v := vB (gt pA (w64 (x1 - 1)))) (aop_idxS tu9 (hS.lk rfl) (hS.lk rfl) hk7) fun s hS => ?_
 obtain ⟨y8, hy8, hz5⟩ := bind_some hz5
 refine q_cl hS (wt hS rfl rfl rfl rfl) (vs := [vB (gt pA (w64 (x1 - 1)))]) (ws := [vB (gt pA (w64 (x1 - 1)))]) rfl rfl rfl rfl rfl 0 rfl (g_2g.ok hy8) fun s v S' F' hp9 hF hS => ?_
 obtain ⟨rfl, rfl, rfl⟩ := hp9
 refine sg0 hS 1 [] [16] [.bool y8] [] (by kernel_rfl) fun s hS => (KW.nil ?_)
 obtain rfl := Option.some.inj hz5
 exact hS.subR rfl
 replace hS := hS.kb 10 hc6 rfl
 refine sg0 hS 6 [] [16] [.bool false] [] (by kernel_rfl) fun s hS => (KW.nil ?_)
 obtain rfl := Option.some.inj hz5
 exact hS.subR rfl
 refine KW.nil (bc h4 (fun hc10 h4 => ?_) fun hc10 h4 => ?_)
 refine WW.condK hS rfl hc10 (WW.skip ?_)
 refine WW.block (WW.region ?_)
 refine sg0 hS 3 [] [3] [.int .i64 (w64 (x1 - 1))] [] (by kernel_rfl) fun s hS => (KW.nil ?_)
 obtain rfl := Option.some.inj h4
 exact ⟨_, rfl, (hS.subR rfl)⟩
 refine WW.condF hS rfl hc10 (WW.exit ?_)
 refine thenQ_exit ?_
 obtain rfl := Option.some.inj h4
 exact ⟨_, rfl, rfl, (hS.subR rfl)⟩
 clear hS
 rintro e s ⟨rfl, hS⟩
 refine blockQ_exit (WW.seq ?_)
 refine WW.region (sg0 hS 5 [] [4] [.int .i64 (w64 ((pA.length : Int) - o2))] [] (by kernel_rfl) fun s hS => ?_)
 refine KW.nil (WW.seq ?_)
 refine WW.seq (WW.region ?_)
 refine sg0 hS 3 [] [25] [.bool (decide ((w64 ((pA.length : Int) - o2)) > 0))] [] (by kernel_rfl) fun s hS => (q_cut 3 (fun s => Stt EV s [(28, .bool ((decide ((w64 ((pA.length : Int) - o2)) > 0)) && (decide (o2 > 0)))), (0, strV pA), (2, .int .i64 0), (3, .int .i64 o2), (4, .int .i64 (w64 ((pA.length : Int) - o2)))] [] F L F nx0) ?_ fun s hS => ?_)
 rcases bool_cases ((decide ((w64 ((pA.length : Int) - o2)) > 0))) with hcj | hcj
 replace hS := hS.know (t := 25) rfl (congrArg Value.bool hcj)
 refine sg0 hS 3 [] [28] [.bool (decide (o2 > 0))] [] (by kernel_rfl) fun s hS => (KW.nil ?_)
 exact (hS.know (t := 28) (u' := .bool ((decide ((w64 ((pA.length : Int) - o2)) > 0)) && (decide (o2 > 0)))) rfl (jn_and_t hcj)).subR rfl
 replace hS := hS.know (t := 25) rfl (congrArg Value.bool hcj)
 refine sg0 hS 3 [] [28] [.bool false] [] (by kernel_rfl) fun s hS => (KW.nil ?_)
 exact (hS.know (t := 28) (u' := .bool ((decide ((w64 ((pA.length : Int) - o2)) > 0)) && (decide (o2 > 0)))) rfl (jn_and_f hcj)).subR rfl
 refine sg0 hS 1 [] [29] [.bool ((decide ((w64 ((pA.length : Int) - o2)) > 0)) && (decide (o2 > 0)))] [] (by kernel_rfl) fun s hS => ?_
 obtain ⟨z11, hz11, h⟩ := bind_some h
 refine q_cut 6 (fun s => Stt EV s [(35, .bool z11), (0, strV pA), (2, .int .i64 0), (3, .int .i64 o2), (4, .int .i64 (w64 ((pA.length : Int) - o2)))] [] F L F nx0) ?_ fun s hS => ?_
 refine bc hz11 (fun hc12 hz11 => ?_) fun hc12 hz11 => ?_
 replace hS := hS.kb 28 hc12 rfl
 replace hS := hS.kb 29 hc12 rfl
 refine sg0 hS 3 [] [30, 32] [strV pA, .int .i64 (w64 (o2 - 1))] [] (by kernel_rfl) fun s hS => ?_
 obtain ⟨hk13, hz11⟩ := ite_some hz11
 refine q_pu hS (wt hS rfl rfl rfl rfl) rfl rfl rfl (v := vB (gt pA (w64 (o2 - 1)))) (aop_idxS tu9 (hS.lk rfl) (hS.lk rfl) hk13) fun s hS => (sg0 hS 2 [] [35] [.bool (((gt pA (w64 (o2 - 1))).toNat : Int) == ((42 : UInt8).toNat : Int))] [] (by kernel_rfl) fun s hS => ?_)
 refine KW.nil ?_
 obtain rfl := Option.some.inj hz11
 exact hS.subR rfl
 replace hS := hS.kb 28 hc12 rfl
 replace hS := hS.kb 29 hc12 rfl
 refine sg0 hS 6 [] [35] [.bool false] [] (by kernel_rfl) fun s hS => (KW.nil ?_)
 obtain rfl := Option.some.inj hz11
 exact hS.subR rfl
 refine KW.nil (bc h (fun hc14 h => ?_) fun hc14 h => ?_)
 refine WW.condK hS rfl hc14 (WW.seq ?_)
 refine WW.region (sg0 hS 3 [] [5] [.int .i64 (w64 (o2 - 1))] [] (by kernel_rfl) fun s hS => ?_)
 refine KW.nil (WW.seq ?_)
 refine WW.block ?_
 obtain ⟨o16, ho16, h⟩ := bind_some h
 refine WW.loop (LW.iterE ho16 (fun (x15 : Int) s => Stt EV s [(0, strV pA), (2, .int .i64 0), (3, .int .i64 o2), (4, .int .i64 (w64 ((pA.length : Int) - o2))), (5, .int .i64 x15)] [] F L F nx0) 2 (hS.subR rfl) ?_ ?_)
 clear hS
 rintro x15 s hS o16' h18
 unfold g_2f.b1 at h18
 refine WW.seq (WW.seq ?_)
 refine WW.region (sg0 hS 3 [] [40] [.bool (decide (x15 > 0))] [] (by kernel_rfl) fun s hS => ?_)
 obtain ⟨z19, hz19, h18⟩ := bind_some h18
 refine q_cut 6 (fun s => Stt EV s [(46, .bool z19), (0, strV pA), (2, .int .i64 0), (3, .int .i64 o2), (4, .int .i64 (w64 ((pA.length : Int) - o2))), (5, .int .i64 x15)] [] F L F nx0) ?_ fun s hS => ?_
 refine bc hz19 (fun hc20 hz19 => ?_) fun hc20 hz19 => ?_
 replace hS := hS.kb 40 hc20 rfl
 refine sg0 hS 3 [] [41, 43] [strV pA, .int .i64 (w64 (x15 - 1))] [] (by kernel_rfl) fun s hS => ?_
 obtain ⟨hk21, hz19⟩ := ite_some hz19
 refine q_pu hS (wt hS rfl rfl rfl rfl) rfl rfl rfl (v := vB (gt pA (w64 (x15 - 1)))) (aop_idxS tu9 (hS.lk rfl) (hS.lk rfl) hk21) fun s hS => ?_
 obtain ⟨y22, hy22, hz19⟩ := bind_some hz19
 refine q_cl hS (wt hS rfl rfl rfl rfl) (vs := [vB (gt pA (w64 (x15 - 1)))]) (ws := [vB (gt pA (w64 (x15 - 1)))]) rfl rfl rfl rfl rfl 0 rfl (g_2g.ok hy22) fun s v S' F' hp23 hF hS => ?_
 obtain ⟨rfl, rfl, rfl⟩ := hp23
 refine sg0 hS 1 [] [46] [.bool y22] [] (by kernel_rfl) fun s hS => (KW.nil ?_)
 obtain rfl := Option.some.inj hz19
 exact hS.subR rfl
 replace hS := hS.kb 40 hc20 rfl
 refine sg0 hS 6 [] [46] [.bool false] [] (by kernel_rfl) fun s hS => (KW.nil ?_)
 obtain rfl := Option.some.inj hz19
 exact hS.subR rfl
 refine KW.nil (bc h18 (fun hc24 h18 => ?_) fun hc24 h18 => ?_)
 refine WW.condK hS rfl hc24 (WW.skip ?_)
 refine WW.block (WW.region ?_)
 refine sg0 hS 3 [] [5] [.int .i64 (w64 (x15 - 1))] [] (by kernel_rfl) fun s hS => (KW.nil ?_)
 obtain rfl := Option.some.inj h18
 exact ⟨_, rfl, (hS.subR rfl)⟩
 refine WW.condF hS rfl hc24 (WW.exit ?_)
 refine thenQ_exit ?_
 obtain rfl := Option.some.inj h18
 exact ⟨_, rfl, rfl, (hS.subR rfl)⟩
 clear hS
 rintro e s ⟨rfl, hS⟩
 refine blockQ_exit (WW.seq ?_)
 refine WW.seq (WW.region ?_)
 refine sg0 hS 4 [] [52] [.bool (o16 == (w64 (o2 - 1)))] [] (by kernel_rfl) fun s hS => (KW.nil ?_)
 refine bc h (fun hc25 h => ?_) fun hc25 h => ?_
 refine WW.condK hS rfl hc25 (WW.seq ?_)
 refine WW.region (sg0 hS 1 [] [2] [.int .i64 0] [] (by kernel_rfl) fun s hS => ?_)
 refine KW.nil (WW.ret ?_)
 cases h
 exact fin1 hS (.inr rfl) 2 rfl rfl ⟨rfl, rfl, rfl⟩
 refine WW.condF hS rfl hc25 (WW.skip ?_)
 refine WW.region (sg0 hS 2 [] [3] [.int .i64 o16] [] (by kernel_rfl) fun s hS => ?_)
 refine KW.nil (WW.seq ?_)
 refine WW.seq (WW.region ?_)
 refine sg0 hS 3 [] [56] [.bool (o16 == 0)] [] (by kernel_rfl) fun s hS => ?_
 obtain ⟨z26, hz26, h⟩ := bind_some h
 refine q_cut 27 (fun s => Stt EV s [(83, .bool z26), (2, .int .i64 0), (4, .int .i64 (w64 ((pA.length : Int) - o2)))] [] F L F nx0) ?_ fun s hS => ?_
 refine bc hz26 (fun hc27 hz26 => ?_) fun hc27 hz26 => ?_
 replace hS := hS.kb 56 hc27 rfl
 refine sg0 hS 6 [] [62] [undef] [] (by kernel_rfl) fun s hS => (q_no hS (wu hS rfl rfl rfl) rfl fun s hS => ?_)
 refine q_no hS (wu hS rfl rfl rfl) rfl fun s hS => (q_no hS (wu hS rfl rfl rfl) rfl fun s hS => ?_)
 refine q_no hS (wu hS rfl rfl rfl) rfl fun s hS => (q_no hS (wu hS rfl rfl rfl) rfl fun s hS => ?_)
 refine sg0 hS 2 [] [69] [undef] [] (by kernel_rfl) fun s hS => (q_no hS (wu hS rfl rfl rfl) rfl fun s hS => ?_)
 refine q_no hS (wu hS rfl rfl rfl) rfl fun s hS => (q_no hS (wu hS rfl rfl rfl) rfl fun s hS => ?_)
 refine q_no hS (wu hS rfl rfl rfl) rfl fun s hS => (q_no hS (wu hS rfl rfl rfl) rfl fun s hS => ?_)
 refine sg0 hS 2 [] [76] [undef] [] (by kernel_rfl) fun s hS => (q_no hS (wu hS rfl rfl rfl) rfl fun s hS => ?_)
 refine q_no hS (wu hS rfl rfl rfl) rfl fun s hS => (q_no hS (wu hS rfl rfl rfl) rfl fun s hS => ?_)
 refine q_no hS (wu hS rfl rfl rfl) rfl fun s hS => (q_no hS (wu hS rfl rfl rfl) rfl fun s hS => ?_)
 refine sg0 hS 2 [] [83] [.bool true] [] (by kernel_rfl) fun s hS => (KW.nil ?_)
 obtain rfl := Option.some.inj hz26
 exact hS.subR rfl
 replace hS := hS.kb 56 hc27 rfl
 refine sg0 hS 3 [] [57, 59] [strV pA, .int .i64 (w64 (o16 - 1))] [] (by kernel_rfl) fun s hS => ?_
 obtain ⟨hk28, hz26⟩ := ite_some hz26
 refine q_pu hS (wt hS rfl rfl rfl rfl) rfl rfl rfl (v := vB (gt pA (w64 (o16 - 1)))) (aop_idxS tu9 (hS.lk rfl) (hS.lk rfl) hk28) fun s hS => (sg0 hS 2 [] [62] [.bool (((gt pA (w64 (o16 - 1))).toNat : Int) != ((40 : UInt8).toNat : Int))] [] (by kernel_rfl) fun s hS => ?_)
 obtain ⟨z29, hz29, hz26⟩ := bind_some hz26
 refine q_cut 6 (fun s => Stt EV s [(68, .bool z29), (0, strV pA), (2, .int .i64 0), (3, .int .i64 o16), (4, .int .i64 (w64 ((pA.length : Int) - o2))), (56, .bool false)] [] F L F nx0) ?_ fun s hS => ?_
 refine bc hz29 (fun hc30 hz29 => ?_) fun hc30 hz29 => ?_
 replace hS := hS.kb 62 hc30 rfl
 refine sg0 hS 3 [] [63, 65] [strV pA, .int .i64 (w64 (o16 - 1))] [] (by kernel_rfl) fun s hS => ?_
 obtain ⟨hk31, hz29⟩ := ite_some hz29
 refine q_pu hS (wt hS rfl rfl rfl rfl) rfl rfl rfl (v := vB (gt pA (w64 (o16 - 1)))) (aop_idxS tu9 (hS.lk rfl) (hS.lk rfl) hk31) fun s hS => (sg0 hS 2 [] [68] [.bool (((gt pA (w64 (o16 - 1))).toNat : Int) != ((44 : UInt8).toNat : Int))] [] (by kernel_rfl) fun s hS => ?_)
 refine KW.nil ?_
 obtain rfl := Option.some.inj hz29
 exact hS.subR rfl
 replace hS := hS.kb 62 hc30 rfl
 refine sg0 hS 6 [] [68] [.bool false] [] (by kernel_rfl) fun s hS => (KW.nil ?_)
 obtain rfl := Option.some.inj hz29
 exact hS.subR rfl
 refine sg0 hS 1 [] [69] [.bool z29] [] (by kernel_rfl) fun s hS => ?_
 obtain ⟨z32, hz32, hz26⟩ := bind_some hz26
 refine q_cut 6 (fun s => Stt EV s [(75, .bool z32), (0, strV pA), (2, .int .i64 0), (3, .int .i64 o16), (4, .int .i64 (w64 ((pA.length : Int) - o2))), (56, .bool false)] [] F L F nx0) ?_ fun s hS => ?_
 refine bc hz32 (fun hc33 hz32 => ?_) fun hc33 hz32 => ?_
 replace hS := hS.kb 68 hc33 rfl
 replace hS := hS.kb 69 hc33 rfl
 refine sg0 hS 3 [] [70, 72] [strV pA, .int .i64 (w64 (o16 - 1))] [] (by kernel_rfl) fun s hS => ?_
 obtain ⟨hk34, hz32⟩ := ite_some hz32
 refine q_pu hS (wt hS rfl rfl rfl rfl) rfl rfl rfl (v := vB (gt pA (w64 (o16 - 1)))) (aop_idxS tu9 (hS.lk rfl) (hS.lk rfl) hk34) fun s hS => (sg0 hS 2 [] [75] [.bool (((gt pA (w64 (o16 - 1))).toNat : Int) != ((47 : UInt8).toNat : Int))] [] (by kernel_rfl) fun s hS => ?_)
 refine KW.nil ?_
 obtain rfl := Option.some.inj hz32
 exact hS.subR rfl
 replace hS := hS.kb 68 hc33 rfl
 replace hS := hS.kb 69 hc33 rfl
 refine sg0 hS 6 [] [75] [.bool false] [] (by kernel_rfl) fun s hS => (KW.nil ?_)
 obtain rfl := Option.some.inj hz32
 exact hS.subR rfl
 refine sg0 hS 1 [] [76] [.bool z32] [] (by kernel_rfl) fun s hS => ?_
 obtain ⟨z35, hz35, hz26⟩ := bind_some hz26
 refine q_cut 6 (fun s => Stt EV s [(82, .bool z35), (2, .int .i64 0), (4, .int .i64 (w64 ((pA.length : Int) - o2))), (56, .bool false)] [] F L F nx0) ?_ fun s hS => ?_
 refine bc hz35 (fun hc36 hz35 => ?_) fun hc36 hz35 => ?_
 replace hS := hS.kb 75 hc36 rfl
 replace hS := hS.kb 76 hc36 rfl
 refine sg0 hS 3 [] [77, 79] [strV pA, .int .i64 (w64 (o16 - 1))] [] (by kernel_rfl) fun s hS => ?_
 obtain ⟨hk37, hz35⟩ := ite_some hz35
 refine q_pu hS (wt hS rfl rfl rfl rfl) rfl rfl rfl (v := vB (gt pA (w64 (o16 - 1)))) (aop_idxS tu9 (hS.lk rfl) (hS.lk rfl) hk37) fun s hS => (sg0 hS 2 [] [82] [.bool (((gt pA (w64 (o16 - 1))).toNat : Int) != ((61 : UInt8).toNat : Int))] [] (by kernel_rfl) fun s hS => ?_)
 refine KW.nil ?_
 obtain rfl := Option.some.inj hz35
 exact hS.subR rfl
 replace hS := hS.kb 75 hc36 rfl
 replace hS := hS.kb 76 hc36 rfl
 refine sg0 hS 6 [] [82] [.bool false] [] (by kernel_rfl) fun s hS => (KW.nil ?_)
 obtain rfl := Option.some.inj hz35
 exact hS.subR rfl
 refine sg0 hS 1 [] [83] [.bool z35] [] (by kernel_rfl) fun s hS => (KW.nil ?_)
 obtain rfl := Option.some.inj hz26
 exact hS.subR rfl
 refine KW.nil (bc h (fun hc38 h => ?_) fun hc38 h => ?_)
 refine WW.condK hS rfl hc38 (WW.seq ?_)
 refine WW.region (sg0 hS 1 [] [2] [.int .i64 0] [] (by kernel_rfl) fun s hS => ?_)
 refine KW.nil (WW.ret ?_)
 cases h
 exact fin1 hS (.inr rfl) 2 rfl rfl ⟨rfl, rfl, rfl⟩
 refine WW.condF hS rfl hc38 (WW.skip ?_)
 refine WW.seq (WW.region ?_)
 refine sg0 hS 2 [] [2] [.int .i64 (w64 ((pA.length : Int) - o2))] [] (by kernel_rfl) fun s hS => (KW.nil ?_)
 refine WW.ret ?_
 cases h
 exact fin1 hS (.inr rfl) 2 rfl rfl ⟨rfl, rfl, rfl⟩
 refine WW.condF hS rfl hc14 (WW.skip ?_)
 refine WW.seq (WW.seq ?_)
 refine WW.region (sg0 hS 3 [] [56] [.bool (o2 == 0)] [] (by kernel_rfl) fun s hS => ?_)
 obtain ⟨z39, hz39, h⟩ := bind_some h
 refine q_cut 27 (fun s => Stt EV s [(83, .bool z39), (2, .int .i64 0), (4, .int .i64 (w64 ((pA.length : Int) - o2)))] [] F L F nx0) ?_ fun s hS => ?_
 refine bc hz39 (fun hc40 hz39 => ?_) fun hc40 hz39 => ?_
 replace hS := hS.kb 56 hc40 rfl
 refine sg0 hS 6 [] [62] [undef] [] (by kernel_rfl) fun s hS => (q_no hS (wu hS rfl rfl rfl) rfl fun s hS => ?_)
 refine q_no hS (wu hS rfl rfl rfl) rfl fun s hS => (q_no hS (wu hS rfl rfl rfl) rfl fun s hS => ?_)
 refine q_no hS (wu hS rfl rfl rfl) rfl fun s hS => (q_no hS (wu hS rfl rfl rfl) rfl fun s hS => ?_)
 refine sg0 hS 2 [] [69] [undef] [] (by kernel_rfl) fun s hS => (q_no hS (wu hS rfl rfl rfl) rfl fun s hS => ?_)
 refine q_no hS (wu hS rfl rfl rfl) rfl fun s hS => (q_no hS (wu hS rfl rfl rfl) rfl fun s hS => ?_)
 refine q_no hS (wu hS rfl rfl rfl) rfl fun s hS => (q_no hS (wu hS rfl rfl rfl) rfl fun s hS => ?_)
 refine sg0 hS 2 [] [76] [undef] [] (by kernel_rfl) fun s hS => (q_no hS (wu hS rfl rfl rfl) rfl fun s hS => ?_)
 refine q_no hS (wu hS rfl rfl rfl) rfl fun s hS => (q_no hS (wu hS rfl rfl rfl) rfl fun s hS => ?_)
 refine q_no hS (wu hS rfl rfl rfl) rfl fun s hS => (q_no hS (wu hS rfl rfl rfl) rfl fun s hS => ?_)
 refine sg0 hS 2 [] [83] [.bool true] [] (by kernel_rfl) fun s hS => (KW.nil ?_)
 obtain rfl := Option.some.inj hz39
 exact hS.subR rfl
 replace hS := hS.kb 56 hc40 rfl
 refine sg0 hS 3 [] [57, 59] [strV pA, .int .i64 (w64 (o2 - 1))] [] (by kernel_rfl) fun s hS => ?_
 obtain ⟨hk41, hz39⟩ := ite_some hz39
 refine q_pu hS (wt hS rfl rfl rfl rfl) rfl rfl rfl (v := vB (gt pA (w64 (o2 - 1)))) (aop_idxS tu9 (hS.lk rfl) (hS.lk rfl) hk41) fun s hS => (sg0 hS 2 [] [62] [.bool (((gt pA (w64 (o2 - 1))).toNat : Int) != ((40 : UInt8).toNat : Int))] [] (by kernel_rfl) fun s hS => ?_)
 obtain ⟨z42, hz42, hz39⟩ := bind_some hz39
 refine q_cut 6 (fun s => Stt EV s [(68, .bool z42), (0, strV pA), (2, .int .i64 0), (3, .int .i64 o2), (4, .int .i64 (w64 ((pA.length : Int) - o2))), (56, .bool false)] [] F L F nx0) ?_ fun s hS => ?_
 refine bc hz42 (fun hc43 hz42 => ?_) fun hc43 hz42 => ?_
 replace hS := hS.kb 62 hc43 rfl
 refine sg0 hS 3 [] [63, 65] [strV pA, .int .i64 (w64 (o2 - 1))] [] (by kernel_rfl) fun s hS => ?_
 obtain ⟨hk44, hz42⟩ := ite_some hz42
 refine q_pu hS (wt hS rfl rfl rfl rfl) rfl rfl rfl (v := vB (gt pA (w64 (o2 - 1)))) (aop_idxS tu9 (hS.lk rfl) (hS.lk rfl) hk44) fun s hS => (sg0 hS 2 [] [68] [.bool (((gt pA (w64 (o2 - 1))).toNat : Int) != ((44 : UInt8).toNat : Int))] [] (by kernel_rfl) fun s hS => ?_)
 refine KW.nil ?_
 obtain rfl := Option.some.inj hz42
 exact hS.subR rfl
 replace hS := hS.kb 62 hc43 rfl
 refine sg0 hS 6 [] [68] [.bool false] [] (by kernel_rfl) fun s hS => (KW.nil ?_)
 obtain rfl := Option.some.inj hz42
 exact hS.subR rfl
 refine sg0 hS 1 [] [69] [.bool z42] [] (by kernel_rfl) fun s hS => ?_
 obtain ⟨z45, hz45, hz39⟩ := bind_some hz39
 refine q_cut 6 (fun s => Stt EV s [(75, .bool z45), (0, strV pA), (2, .int .i64 0), (3, .int .i64 o2), (4, .int .i64 (w64 ((pA.length : Int) - o2))), (56, .bool false)] [] F L F nx0) ?_ fun s hS => ?_
 refine bc hz45 (fun hc46 hz45 => ?_) fun hc46 hz45 => ?_
 replace hS := hS.kb 68 hc46 rfl
 replace hS := hS.kb 69 hc46 rfl
 refine sg0 hS 3 [] [70, 72] [strV pA, .int .i64 (w64 (o2 - 1))] [] (by kernel_rfl) fun s hS => ?_
 obtain ⟨hk47, hz45⟩ := ite_some hz45
 refine q_pu hS (wt hS rfl rfl rfl rfl) rfl rfl rfl (v := vB (gt pA (w64 (o2 - 1)))) (aop_idxS tu9 (hS.lk rfl) (hS.lk rfl) hk47) fun s hS => (sg0 hS 2 [] [75] [.bool (((gt pA (w64 (o2 - 1))).toNat : Int) != ((47 : UInt8).toNat : Int))] [] (by kernel_rfl) fun s hS => ?_)
 refine KW.nil ?_
 obtain rfl := Option.some.inj hz45
 exact hS.subR rfl
 replace hS := hS.kb 68 hc46 rfl
 replace hS := hS.kb 69 hc46 rfl
 refine sg0 hS 6 [] [75] [.bool false] [] (by kernel_rfl) fun s hS => (KW.nil ?_)
 obtain rfl := Option.some.inj hz45
 exact hS.subR rfl
 refine sg0 hS 1 [] [76] [.bool z45] [] (by kernel_rfl) fun s hS => ?_
 obtain ⟨z48, hz48, hz39⟩ := bind_some hz39
 refine q_cut 6 (fun s => Stt EV s [(82, .bool z48), (2, .int .i64 0), (4, .int .i64 (w64 ((pA.length : Int) - o2))), (56, .bool false)] [] F L F nx0) ?_ fun s hS => ?_
 refine bc hz48 (fun hc49 hz48 => ?_) fun hc49 hz48 => ?_
 replace hS := hS.kb 75 hc49 rfl
 replace hS := hS.kb 76 hc49 rfl
 refine sg0 hS 3 [] [77, 79] [strV pA, .int .i64 (w64 (o2 - 1))] [] (by kernel_rfl) fun s hS => ?_
 obtain ⟨hk50, hz48⟩ := ite_some hz48
 refine q_pu hS (wt hS rfl rfl rfl rfl) rfl rfl rfl (v := vB (gt pA (w64 (o2 - 1)))) (aop_idxS tu9 (hS.lk rfl) (hS.lk rfl) hk50) fun s hS => (sg0 hS 2 [] [82] [.bool (((gt pA (w64 (o2 - 1))).toNat : Int) != ((61 : UInt8).toNat : Int))] [] (by kernel_rfl) fun s hS => ?_)
 refine KW.nil ?_
 obtain rfl := Option.some.inj hz48
 exact hS.subR rfl
 replace hS := hS.kb 75 hc49 rfl
 replace hS := hS.kb 76 hc49 rfl
 refine sg0 hS 6 [] [82] [.bool false] [] (by kernel_rfl) fun s hS => (KW.nil ?_)
 obtain rfl := Option.some.inj hz48
 exact hS.subR rfl
 refine sg0 hS 1 [] [83] [.bool z48] [] (by kernel_rfl) fun s hS => (KW.nil ?_)
 obtain rfl := Option.some.inj hz39
 exact hS.subR rfl
 refine KW.nil (bc h (fun hc51 h => ?_) fun hc51 h => ?_)
 refine WW.condK hS rfl hc51 (WW.seq ?_)
 refine WW.region (sg0 hS 1 [] [2] [.int .i64 0] [] (by kernel_rfl) fun s hS => ?_)
 refine KW.nil (WW.ret ?_)
 cases h
 exact fin1 hS (.inr rfl) 2 rfl rfl ⟨rfl, rfl, rfl⟩
 refine WW.condF hS rfl hc51 (WW.skip ?_)
 refine WW.seq (WW.region ?_)
 refine sg0 hS 2 [] [2] [.int .i64 (w64 ((pA.length : Int) - o2))] [] (by kernel_rfl) fun s hS => (KW.nil ?_)
 refine WW.ret ?_
 cases h
 exact fin1 hS (.inr rfl) 2 rfl rfl ⟨rfl, rfl, rfl⟩
noncomputable def g_2h.b0 (pA : List UInt8) (x1 : List UInt8 × Int) : Option ((List UInt8 × Int) ⊕ (List UInt8 × Int)) :=
  (if (decide (x1.2 < (pA.length : Int))) then (if 0 ≤ x1.2 ∧ x1.2 < (pA.length : Int) then Option.bind ((if ((decide (((gt pA x1.2).toNat : Int) ≥ ((97 : UInt8).toNat : Int))) && (decide (((gt pA x1.2).toNat : Int) ≤ ((122 : UInt8).toNat : Int)))) then some ((gt pA x1.2) - 32) else some (gt pA x1.2))) fun z7 => (if x1.1.length + ([z7] : List UInt8).length < 1000000000 then some (.inl ((x1.1 ++ ([z7] : List UInt8)), (w64 (x1.2 + 1)))) else none) else none) else some (.inr (x1.1, x1.2)))
noncomputable def g_2h.f (pA : List UInt8) : Option (List UInt8) :=
  Option.bind (iter (g_2h.b0 pA) ([], 0)) fun o2 => some o2.1
theorem g_2h.ok {pA : List UInt8} {F : FZ} {r : List UInt8} (h : g_2h.f pA = some r) :
    Cl EV 80 [strV pA] [] F (fun v S' F' => F = F' ∧ v = strV r ∧ S' = []) := by
 refine Cl.of Tryz.func80 rfl (fun _ _ => rfl) (by kernel_rfl) fun s L nx0 hS => ?_
 unfold g_2h.f at h
 refine WW.seq (WW.region ?_)
 refine sg0 hS 1 [] [2] [strV ([])] [] (by kernel_rfl) fun s hS => (KW.nil ?_)
 refine WW.seq (WW.region ?_)
 refine sg0 hS 1 [] [3] [strV ([])] [] (by kernel_rfl) fun s hS => (KW.nil ?_)
 refine WW.seq (WW.seq ?_)
 refine WW.region (sg0 hS 1 [] [4] [.int .i64 0] [] (by kernel_rfl) fun s hS => ?_)
 refine KW.nil (WW.block ?_)
 obtain ⟨o2, ho2, h⟩ := bind_some h
 refine WW.loop (LW.iterE ho2 (fun (x1 : List UInt8 × Int) s => Stt EV s [(0, strV pA), (2, strV ([])), (3, strV x1.1), (4, .int .i64 x1.2)] [] F L F nx0) 0 (hS.subR rfl) ?_ ?_)
 clear hS
 rintro x1 s hS o2' h4
 unfold g_2h.b0 at h4
 refine WW.seq (WW.seq ?_)
 refine WW.region (sg0 hS 4 [] [9] [.bool (decide (x1.2 < (pA.length : Int)))] [] (by kernel_rfl) fun s hS => ?_)
 refine KW.nil (bc h4 (fun hc5 h4 => ?_) fun hc5 h4 => ?_)
 refine WW.condK hS rfl hc5 (WW.skip ?_)
 refine WW.seq (WW.block ?_)
 refine WW.seq (WW.region ?_)
 refine sg0 hS 2 [] [12, 13] [strV pA, .int .i64 x1.2] [] (by kernel_rfl) fun s hS => ?_
 obtain ⟨hk6, h4⟩ := ite_some h4
 refine q_pu hS (wn rfl) rfl rfl rfl (v := vB (gt pA x1.2)) (aop_idxS tu9 (hS.lk rfl) (hS.lk rfl) hk6) fun s hS => (sg0 hS 1 [] [5] [vB (gt pA x1.2)] [] (by kernel_rfl) fun s hS => ?_)
 refine KW.nil ?_
 obtain ⟨z7, hz7, h4⟩ := bind_some h4
 refine WW.seqJ (fun s => Stt EV s [(0, strV pA), (2, strV ([])), (3, strV x1.1), (4, .int .i64 x1.2), (5, vB z7)] [] F L F nx0) ?_ ?_
 refine WW.seq (WW.region ?_)
 refine sg0 hS 3 [] [17] [.bool (decide (((gt pA x1.2).toNat : Int) ≥ ((97 : UInt8).toNat : Int)))] [] (by kernel_rfl) fun s hS => (q_cut 3 (fun s => Stt EV s [(20, .bool ((decide (((gt pA x1.2).toNat : Int) ≥ ((97 : UInt8).toNat : Int))) && (decide (((gt pA x1.2).toNat : Int) ≤ ((122 : UInt8).toNat : Int))))), (0, strV pA), (2, strV ([])), (3, strV x1.1), (4, .int .i64 x1.2), (5, vB (gt pA x1.2))] [] F L F nx0) ?_ fun s hS => ?_)
 rcases bool_cases ((decide (((gt pA x1.2).toNat : Int) ≥ ((97 : UInt8).toNat : Int)))) with hcj | hcj
 replace hS := hS.know (t := 17) rfl (congrArg Value.bool hcj)
 refine sg0 hS 3 [] [20] [.bool (decide (((gt pA x1.2).toNat : Int) ≤ ((122 : UInt8).toNat : Int)))] [] (by kernel_rfl) fun s hS => (KW.nil ?_)
 exact (hS.know (t := 20) (u' := .bool ((decide (((gt pA x1.2).toNat : Int) ≥ ((97 : UInt8).toNat : Int))) && (decide (((gt pA x1.2).toNat : Int) ≤ ((122 : UInt8).toNat : Int))))) rfl (jn_and_t hcj)).subR rfl
 replace hS := hS.know (t := 17) rfl (congrArg Value.bool hcj)
 refine sg0 hS 3 [] [20] [.bool false] [] (by kernel_rfl) fun s hS => (KW.nil ?_)
 exact (hS.know (t := 20) (u' := .bool ((decide (((gt pA x1.2).toNat : Int) ≥ ((97 : UInt8).toNat : Int))) && (decide (((gt pA x1.2).toNat : Int) ≤ ((122 : UInt8).toNat : Int))))) rfl (jn_and_f hcj)).subR rfl
 refine KW.nil (bc hz7 (fun hc8 hz7 => ?_) fun hc8 hz7 => ?_)
 refine WW.condK hS rfl hc8 (WW.region ?_)
 refine sg0 hS 1 [] [21] [vB (gt pA x1.2)] [] (by kernel_rfl) fun s hS => (q_pu hS (wn rfl) rfl rfl rfl (v := vB ((gt pA x1.2) - 32)) (aop_u8sub (hS.lk rfl) (hS.lk rfl)) fun s hS => ?_)
 refine sg0 hS 1 [] [5] [vB ((gt pA x1.2) - 32)] [] (by kernel_rfl) fun s hS => (KW.nil ?_)
 obtain rfl := Option.some.inj hz7
 exact (hS.subR rfl)
 refine WW.condF hS rfl hc8 (WW.skip ?_)
 obtain rfl := Option.some.inj hz7
 exact (hS.subR rfl)
 rintro s hS
 refine WW.region (sg0 hS 2 [] [23, 24] [strV x1.1, vB z7] [] (by kernel_rfl) fun s hS => ?_)
 refine q_nw hS (wn rfl) rfl rfl rfl (v := fun i => .slice (some ⟨i, 0, none⟩) 1 1) (b := .row [vB z7] 5 1 true) (aop_bsl tu79 tz5 t0_5 rfl [(0, vB z7)] (parts_eq hS rfl) rfl) fun s i9 hS => ?_
 have hC10 : Cells (elB 5) F ([z7] : List UInt8) [vB z7] := ⟨[vB z7], [], rfl, rfl, rfl⟩
 refine q_cvO hS (wn rfl) rfl rfl (lst := ([z7] : List UInt8)) rfl (Own.blk0 hC10) (p := 0) rfl (cv0 tu79 tb5 tu9) (cv1 tu79 tb5 tu9) fun s hS => ?_
 obtain ⟨hk11, h4⟩ := ite_some h4
 refine q_pu hS (wn rfl) rfl rfl rfl (v := strV (x1.1 ++ ([z7] : List UInt8))) (aop_sadd (hS.lk rfl) (hS.lk rfl) hk11) fun s hS => (sg0 hS 1 [] [3] [strV (x1.1 ++ ([z7] : List UInt8))] [] (by kernel_rfl) fun s hS => ?_)
 refine KW.nil (WW.region ?_)
 refine sg0 hS 3 [] [4] [.int .i64 (w64 (x1.2 + 1))] [] (by kernel_rfl) fun s hS => (KW.nil ?_)
 replace hS := hS.drop
 obtain rfl := Option.some.inj h4
 exact ⟨_, rfl, (hS.subR rfl)⟩
 refine WW.condF hS rfl hc5 (WW.exit ?_)
 refine thenQ_exit ?_
 obtain rfl := Option.some.inj h4
 exact ⟨_, rfl, rfl, (hS.subR rfl)⟩
 clear hS
 rintro e s ⟨rfl, hS⟩
 refine blockQ_exit (WW.seq ?_)
 refine WW.region (sg0 hS 2 [] [2] [strV o2.1] [] (by kernel_rfl) fun s hS => ?_)
 refine KW.nil (WW.ret ?_)
 cases h
 exact fin1 hS (.inr rfl) 2 rfl rfl ⟨rfl, rfl, rfl⟩
noncomputable def g_2c.b1 (pA : List UInt8) (x6 : Int × List UInt8 × List UInt8 × List Int × (List (Int × Int)) × Int) (x30 : Int) : Option ((Int) ⊕ (Int)) :=
  Option.bind ((if (decide (x30 < (pA.length : Int))) then (if 0 ≤ x30 ∧ x30 < (pA.length : Int) then some (((gt pA x30).toNat : Int) != ((gt pA x6.1).toNat : Int)) else none) else some false)) fun z34 => (if z34 then some (.inl (w64 (x30 + 1))) else some (.inr x30))
noncomputable def g_2c.b2 (pA : List UInt8) (o31 : Int) (x45 : Int × List UInt8 × List UInt8 × List Int × (List (Int × Int)) × Int) : Option ((Int × List UInt8 × List UInt8 × List Int × (List (Int × Int)) × Int) ⊕ (Int × List UInt8 × List UInt8 × List Int × (List (Int × Int)) × Int)) :=
  (if (decide (x45.1 ≤ o31)) then (if 0 ≤ x45.1 ∧ x45.1 < (pA.length : Int) then Option.bind (g_2i.f x45.2.1 x45.2.2.1 x45.2.2.2.1 x45.2.2.2.2.1 x45.2.2.2.2.2 (gt pA x45.1) x45.1) fun y67 => Option.bind (g_2e.f y67.1 y67.2.1 y67.2.2.1 y67.2.2.2.1 y67.2.2.2.2) fun y77 => some (.inl ((w64 (x45.1 + 1)), y77.1, y77.2.1, y77.2.2.1, y77.2.2.2.1, y77.2.2.2.2)) else none) else some (.inr (x45.1, x45.2.1, x45.2.2.1, x45.2.2.2.1, x45.2.2.2.2.1, x45.2.2.2.2.2)))
noncomputable def g_2c.b3 (x6 : Int × List UInt8 × List UInt8 × List Int × (List (Int × Int)) × Int) (x102 : Int × Int) : Option ((Int × Int) ⊕ (Int × Int)) :=
  (if (decide (x102.2 < (x6.2.1.length : Int))) then (if 0 ≤ x102.2 ∧ x102.2 < (x6.2.1.length : Int) then some (.inl ((if (10000 : Int) < (w64 ((w64 (10 * x102.1)) + (IntKind.i64.wrap (((gt x6.2.1 x102.2) - 48).toNat : Int)))) then 10000 else (w64 ((w64 (10 * x102.1)) + (IntKind.i64.wrap (((gt x6.2.1 x102.2) - 48).toNat : Int))))), (w64 (x102.2 + 1)))) else none) else some (.inr (x102.1, x102.2)))
noncomputable def g_2c.b4 (pA : List UInt8) (x6 : Int × List UInt8 × List UInt8 × List Int × (List (Int × Int)) × Int) (o103 : Int × Int) (x146 : Int × List UInt8 × List UInt8 × List Int × (List (Int × Int)) × Int) : Option ((Int × List UInt8 × List UInt8 × List Int × (List (Int × Int)) × Int) ⊕ (Int × List UInt8 × List UInt8 × List Int × (List (Int × Int)) × Int)) :=
  (if (decide (x146.1 ≤ (w64 (x6.1 + o103.1)))) then (if 0 ≤ x146.1 ∧ x146.1 < (pA.length : Int) then Option.bind (g_2i.f x146.2.1 x146.2.2.1 x146.2.2.2.1 x146.2.2.2.2.1 x146.2.2.2.2.2 (gt pA x146.1) x146.1) fun y168 => Option.bind (g_2e.f y168.1 y168.2.1 y168.2.2.1 y168.2.2.2.1 y168.2.2.2.2) fun y178 => some (.inl ((w64 (x146.1 + 1)), y178.1, y178.2.1, y178.2.2.1, y178.2.2.2.1, y178.2.2.2.2)) else none) else some (.inr (x146.1, x146.2.1, x146.2.2.1, x146.2.2.2.1, x146.2.2.2.2.1, x146.2.2.2.2.2)))
noncomputable def g_2c.b0 (pA : List UInt8) (x6 : Int × List UInt8 × List UInt8 × List Int × (List (Int × Int)) × Int) : Option ((Int × List UInt8 × List UInt8 × List Int × (List (Int × Int)) × Int) ⊕ ((Int × List UInt8 × List UInt8 × List Int × (List (Int × Int)) × Int) ⊕ (List UInt8 × List UInt8 × List Int × (List (Int × Int)) × Int))) :=
  (if (decide (x6.1 < (pA.length : Int))) then (if 0 ≤ x6.1 ∧ x6.1 < (pA.length : Int) then (if (((gt pA x6.1).toNat : Int) == ((32 : UInt8).toNat : Int)) then some (.inl ((w64 (x6.1 + 1)), x6.2.1, x6.2.2.1, x6.2.2.2.1, x6.2.2.2.2.1, x6.2.2.2.2.2)) else (if ((((gt pA x6.1).toNat : Int) == ((39 : UInt8).toNat : Int)) || (((gt pA x6.1).toNat : Int) == ((34 : UInt8).toNat : Int))) then Option.bind (iter (g_2c.b1 pA x6) (w64 (x6.1 + 1))) fun o31 => (if (o31 == (pA.length : Int)) then some (.inr (.inr ([], [], ([] : List Int), ([] : List (Int × Int)), 21))) else (if x6.2.2.2.2.1.length + ([(x6.1, (w64 (o31 + 1)))] : List (Int × Int)).length < 1000000000 then Option.bind (iter (g_2c.b2 pA o31) (x6.1, x6.2.1, x6.2.2.1, x6.2.2.2.1, (x6.2.2.2.2.1 ++ ([(x6.1, (w64 (o31 + 1)))] : List (Int × Int))), x6.2.2.2.2.2)) fun o54 => some (.inl (o54.1, o54.2.1, o54.2.2.1, o54.2.2.2.1, o54.2.2.2.2.1, o54.2.2.2.2.2)) else none)) else Option.bind ((if ((((gt pA x6.1).toNat : Int) == ((72 : UInt8).toNat : Int)) || (((gt pA x6.1).toNat : Int) == ((104 : UInt8).toNat : Int))) then Option.bind (g_2f.f x6.2.2.1) fun y97 => some (decide (y97 > 0)) else some false)) fun z95 => (if z95 then Option.bind (g_2f.f x6.2.2.1) fun y100 => Option.bind (iter (g_2c.b3 x6) (0, (w64 ((x6.2.1.length : Int) - y100)))) fun o103 => (if (o103.1 == 0) then some (.inr (.inr ([], [], ([] : List Int), ([] : List (Int × Int)), 11))) else (if (decide ((w64 (x6.1 + o103.1)) ≥ (pA.length : Int))) then some (.inr (.inr ([], [], ([] : List Int), ([] : List (Int × Int)), 21))) else (if 0 ≤ (w64 ((x6.2.2.2.1.length : Int) - y100)) ∧ (w64 ((x6.2.2.2.1.length : Int) - y100)) < (x6.2.2.2.1.length : Int) then (if x6.2.2.2.2.1.length + ([((gt x6.2.2.2.1 (w64 ((x6.2.2.2.1.length : Int) - y100))), (w64 ((w64 (x6.1 + o103.1)) + 1)))] : List (Int × Int)).length < 1000000000 then Option.bind (g_2i.f x6.2.1 x6.2.2.1 x6.2.2.2.1 (x6.2.2.2.2.1 ++ ([((gt x6.2.2.2.1 (w64 ((x6.2.2.2.1.length : Int) - y100))), (w64 ((w64 (x6.1 + o103.1)) + 1)))] : List (Int × Int))) x6.2.2.2.2.2 72 x6.1) fun y126 => Option.bind (g_2e.f y126.1 y126.2.1 y126.2.2.1 y126.2.2.2.1 y126.2.2.2.2) fun y136 => Option.bind (iter (g_2c.b4 pA x6 o103) ((w64 (x6.1 + 1)), y136.1, y136.2.1, y136.2.2.1, y136.2.2.2.1, y136.2.2.2.2)) fun o155 => some (.inl ((w64 ((w64 (x6.1 + o103.1)) + 1)), o155.2.1, o155.2.2.1, o155.2.2.2.1, o155.2.2.2.2.1, o155.2.2.2.2.2)) else none) else none))) else (if 0 ≤ x6.1 ∧ x6.1 ≤ (w64 (x6.1 + 1)) ∧ (w64 (x6.1 + 1)) ≤ (pA.length : Int) then Option.bind (g_2h.f (mid pA x6.1 (w64 (x6.1 + 1)))) fun y197 => (if 0 ≤ (0 : Int) ∧ (0 : Int) < (y197.length : Int) then Option.bind (g_2i.f x6.2.1 x6.2.2.1 x6.2.2.2.1 x6.2.2.2.2.1 x6.2.2.2.2.2 (gt y197 (0 : Int)) x6.1) fun y200 => some (.inl ((w64 (x6.1 + 1)), y200.1, y200.2.1, y200.2.2.1, y200.2.2.2.1, y200.2.2.2.2)) else none) else none)))) else none) else some (.inr (.inl (x6.1, x6.2.1, x6.2.2.1, x6.2.2.2.1, x6.2.2.2.2.1, x6.2.2.2.2.2))))
noncomputable def g_2c.f (pA : List UInt8) : Option (List UInt8 × List UInt8 × List Int × (List (Int × Int)) × Int) :=
  Option.bind (g_2d.f pA) fun y2 => (if (y2 != 0) then some ([], [], ([] : List Int), ([] : List (Int × Int)), y2) else Option.bind (iter (g_2c.b0 pA) (0, [], [], ([] : List Int), ([] : List (Int × Int)), 0)) fun o15 => onSum o15 fun y210 => some (y210.2.1, y210.2.2.1, y210.2.2.2.1, y210.2.2.2.2.1, y210.2.2.2.2.2))
theorem g_2c.ok {pA : List UInt8} {F : FZ} {r : List UInt8 × List UInt8 × List Int × (List (Int × Int)) × Int} (h : g_2c.f pA = some r) :
    Cl EV 44 [strV pA] [] F (fun v S' F' => ∃ (ra1 : Option Addr) (rz2 : Nat) (rB4 : Seg) (ra5 : Option Addr) (rz6 : Nat) (rB8 : Seg), F = F' ∧ v = .agg #[strV r.1, strV r.2.1, .slice ra1 r.2.2.1.length rz2, .slice ra5 r.2.2.2.1.length rz6, .int .i64 r.2.2.2.2] ∧ S' = [rB4, rB8] ∧ Own (elI .i64 3) F' ra1 rz2 r.2.2.1 rB4 ∧ Own el50 F' ra5 rz6 r.2.2.2.1 rB8) := by
 refine Cl.of Tryz.func44 rfl (fun _ _ => rfl) (by kernel_rfl) fun s L nx0 hS => ?_
 unfold g_2c.f at h
 refine WW.seq (WW.region ?_)
 refine q_nw hS (wn rfl) rfl rfl rfl (v := fun i => .pointer (some ⟨i, 0, none⟩)) (b := .row [strV ([]), strV ([]), .slice none 0 0, .slice none 0 0, .int .i64 0] 73 0 true) (aop_alloc t0_73) fun s i1 hS => (KW.nil ?_)
 refine WW.seq (WW.seq ?_)
 refine WW.region ?_
 obtain ⟨y2, hy2, h⟩ := bind_some h
 refine cR (g_2d.ok hy2) hS 1 13 0 rfl (by kernel_rfl) fun s hS => (sg0 hS 1 [] [3] [.int .i64 y2] [] (by kernel_rfl) fun s hS => ?_)
 refine KW.nil (WW.seq ?_)
 refine WW.region (sg0 hS 2 [] [15] [.bool (y2 != 0)] [] (by kernel_rfl) fun s hS => ?_)
 refine KW.nil (bc h (fun hc4 h => ?_) fun hc4 h => ?_)
 refine WW.condK hS rfl hc4 (WW.seq ?_)
 refine WW.region (sg0 hS 1 [] [16] [.int .i64 y2] [] (by kernel_rfl) fun s hS => ?_)
 refine q_pu hS (wn rfl) rfl rfl rfl (v := .agg #[strV ([]), strV ([]), .slice none 0 0, .slice none 0 0, .int .i64 y2]) (aop_bld t0_73 tp73 [(4, .int .i64 y2)] (parts_eq hS rfl) (cs := [strV ([]), strV ([]), .slice none 0 0, .slice none 0 0, .int .i64 y2]) rfl) fun s hS => (sg hS 1 [0] [] [] [i1] [[(i1, .row [strV ([]), strV ([]), .slice none 0 0, .slice none 0 0, .int .i64 y2] 73 0 true)]] (by kernel_rfl) fun s hS => ?_)
 refine KW.nil (WW.ret ?_)
 replace hS := hS.gap0
 replace hS := hS.gap0
 have hres := (res_cell hS (t := 2) (ty := 73) rfl (p := 2) rfl tg73 tz73 (ws := [strV ([]), strV ([]), .slice none ([] : List Int).length 0, .slice none ([] : List (Int × Int)).length 0, .int .i64 y2]) rfl (res_nil (E := EV) (s := s)))
 replace hS := (hS.pull 2).drop
 replace hS := hS.pull 1
 cases h
 exact fin hS (.inr rfl) hres (v := .agg #[strV ([]), strV ([]), .slice none ([] : List Int).length 0, .slice none ([] : List (Int × Int)).length 0, .int .i64 y2]) rfl ⟨_, _, _, _, _, _, rfl, rfl, rfl, Own.nil, Own.nil⟩
 refine WW.condF hS rfl hc4 (WW.skip ?_)
 refine WW.seq (WW.region ?_)
 refine q_nw hS (wn rfl) rfl rfl rfl (v := fun i => .pointer (some ⟨i, 0, none⟩)) (b := .row [strV ([]), strV ([]), .slice none 0 0, .slice none 0 0, .int .i64 0] 73 0 true) (aop_alloc t0_73) fun s i5 hS => (KW.nil ?_)
 refine WW.seq (WW.seq ?_)
 refine WW.region (sg0 hS 1 [] [5] [.int .i64 0] [] (by kernel_rfl) fun s hS => ?_)
 refine KW.nil (WW.block ?_)
 replace hS := hS.gap0
 replace hS := hS.gap0
 obtain ⟨o15, ho15, h⟩ := bind_some h
 refine WW.loop (LW.iterS ho15 (fun (x6 : Int × List UInt8 × List UInt8 × List Int × (List (Int × Int)) × Int) s => ∃ (a7 : Option Addr) (z8 : Nat) (B10 : Seg) (a11 : Option Addr) (z12 : Nat) (B14 : Seg), Stt EV s [(0, strV pA), (2, .pointer (some ⟨i1, 0, none⟩)), (4, .pointer (some ⟨i5, 0, none⟩)), (5, .int .i64 x6.1)] [B14, B10, [(i5, .row [strV x6.2.1, strV x6.2.2.1, .slice a7 x6.2.2.2.1.length z8, .slice a11 x6.2.2.2.2.1.length z12, .int .i64 x6.2.2.2.2.2] 73 0 true)], [(i1, .row [strV ([]), strV ([]), .slice none 0 0, .slice none 0 0, .int .i64 0] 73 0 true)]] F L F nx0 ∧ Own (elI .i64 3) F a7 z8 x6.2.2.2.1 B10 ∧ Own el50 F a11 z12 x6.2.2.2.2.1 B14) 0 (fun r => FinQ EV Tryz.f44 L F nx0 (fun v S' F' => ∃ (ra1 : Option Addr) (rz2 : Nat) (rB4 : Seg) (ra5 : Option Addr) (rz6 : Nat) (rB8 : Seg), F = F' ∧ v = .agg #[strV r.1, strV r.2.1, .slice ra1 r.2.2.1.length rz2, .slice ra5 r.2.2.2.1.length rz6, .int .i64 r.2.2.2.2] ∧ S' = [rB4, rB8] ∧ Own (elI .i64 3) F' ra1 rz2 r.2.2.1 rB4 ∧ Own el50 F' ra5 rz6 r.2.2.2.1 rB8)) ⟨_, _, _, _, _, _, (hS.subR rfl), Own.nil, Own.nil⟩ ?_ ?_)
 clear hS
 rintro x6 s ⟨a7, z8, B10, a11, z12, B14, hS, h9, h13⟩ o15' h25
 unfold g_2c.b0 at h25
 refine WW.seq (WW.seq ?_)
 refine WW.region (sg0 hS 4 [] [21] [.bool (decide (x6.1 < (pA.length : Int)))] [] (by kernel_rfl) fun s hS => ?_)
 refine KW.nil (bc h25 (fun hc26 h25 => ?_) fun hc26 h25 => ?_)
 refine WW.condK hS rfl hc26 (WW.skip ?_)
 refine WW.block (WW.seq ?_)
 refine WW.region (sg0 hS 2 [] [22, 23] [strV pA, .int .i64 x6.1] [] (by kernel_rfl) fun s hS => ?_)
 obtain ⟨hk27, h25⟩ := ite_some h25
 refine q_pu hS (wn rfl) rfl rfl rfl (v := vB (gt pA x6.1)) (aop_idxS tu9 (hS.lk rfl) (hS.lk rfl) hk27) fun s hS => (sg0 hS 1 [] [6] [vB (gt pA x6.1)] [] (by kernel_rfl) fun s hS => ?_)
 refine KW.nil (WW.seq ?_)
 refine WW.seq (WW.region ?_)
 refine sg0 hS 2 [] [26] [.bool (((gt pA x6.1).toNat : Int) == ((32 : UInt8).toNat : Int))] [] (by kernel_rfl) fun s hS => (KW.nil ?_)
 refine bc h25 (fun hc28 h25 => ?_) fun hc28 h25 => ?_
 refine WW.condK hS rfl hc28 (WW.seq ?_)
 refine WW.region (sg0 hS 3 [] [5] [.int .i64 (w64 (x6.1 + 1))] [] (by kernel_rfl) fun s hS => ?_)
 refine KW.nil (WW.exit ?_)
 refine thenQ_exit (blockQ_exit ?_)
 obtain rfl := Option.some.inj h25
 exact ⟨_, rfl, _, _, _, _, _, _, (hS.subR rfl), h9, h13⟩
 refine WW.condF hS rfl hc28 (WW.skip ?_)
 refine WW.seq (WW.seq ?_)
 refine WW.region (sg0 hS 3 [] [31] [.bool (((gt pA x6.1).toNat : Int) == ((39 : UInt8).toNat : Int))] [] (by kernel_rfl) fun s hS => ?_)
 refine q_cut 3 (fun s => Stt EV s [(34, .bool ((((gt pA x6.1).toNat : Int) == ((39 : UInt8).toNat : Int)) || (((gt pA x6.1).toNat : Int) == ((34 : UInt8).toNat : Int)))), (0, strV pA), (2, .pointer (some ⟨i1, 0, none⟩)), (4, .pointer (some ⟨i5, 0, none⟩)), (5, .int .i64 x6.1), (6, vB (gt pA x6.1))] [B14, B10, [(i5, .row [strV x6.2.1, strV x6.2.2.1, .slice a7 x6.2.2.2.1.length z8, .slice a11 x6.2.2.2.2.1.length z12, .int .i64 x6.2.2.2.2.2] 73 0 true)], [(i1, .row [strV ([]), strV ([]), .slice none 0 0, .slice none 0 0, .int .i64 0] 73 0 true)]] F L F nx0) ?_ fun s hS => ?_
 rcases bool_cases ((((gt pA x6.1).toNat : Int) == ((39 : UInt8).toNat : Int))) with hcj | hcj
 replace hS := hS.know (t := 31) rfl (congrArg Value.bool hcj)
 refine sg0 hS 3 [] [34] [.bool true] [] (by kernel_rfl) fun s hS => (KW.nil ?_)
 exact (hS.know (t := 34) (u' := .bool ((((gt pA x6.1).toNat : Int) == ((39 : UInt8).toNat : Int)) || (((gt pA x6.1).toNat : Int) == ((34 : UInt8).toNat : Int)))) rfl (jn_or_t hcj)).subR rfl
 replace hS := hS.know (t := 31) rfl (congrArg Value.bool hcj)
 refine sg0 hS 3 [] [34] [.bool (((gt pA x6.1).toNat : Int) == ((34 : UInt8).toNat : Int))] [] (by kernel_rfl) fun s hS => (KW.nil ?_)
 exact (hS.know (t := 34) (u' := .bool ((((gt pA x6.1).toNat : Int) == ((39 : UInt8).toNat : Int)) || (((gt pA x6.1).toNat : Int) == ((34 : UInt8).toNat : Int)))) rfl (jn_or_f hcj)).subR rfl
 refine KW.nil (bc h25 (fun hc29 h25 => ?_) fun hc29 h25 => ?_)
 refine WW.condK hS rfl hc29 (WW.seq ?_)
 refine WW.region (sg0 hS 3 [] [7] [.int .i64 (w64 (x6.1 + 1))] [] (by kernel_rfl) fun s hS => ?_)
 refine KW.nil (WW.seq ?_)
 refine WW.block ?_
 obtain ⟨o31, ho31, h25⟩ := bind_some h25
 refine WW.loop (LW.iterE ho31 (fun (x30 : Int) s => Stt EV s [(0, strV pA), (2, .pointer (some ⟨i1, 0, none⟩)), (4, .pointer (some ⟨i5, 0, none⟩)), (5, .int .i64 x6.1), (6, vB (gt pA x6.1)), (7, .int .i64 x30)] [B14, B10, [(i5, .row [strV x6.2.1, strV x6.2.2.1, .slice a7 x6.2.2.2.1.length z8, .slice a11 x6.2.2.2.2.1.length z12, .int .i64 x6.2.2.2.2.2] 73 0 true)], [(i1, .row [strV ([]), strV ([]), .slice none 0 0, .slice none 0 0, .int .i64 0] 73 0 true)]] F L F nx0) 2 (hS.subR rfl) ?_ ?_)
 clear hS
 rintro x30 s hS o31' h33
 unfold g_2c.b1 at h33
 refine WW.seq (WW.seq ?_)
 refine WW.region (sg0 hS 5 [] [41] [.bool (decide (x30 < (pA.length : Int)))] [] (by kernel_rfl) fun s hS => ?_)
 obtain ⟨z34, hz34, h33⟩ := bind_some h33
 refine q_cut 6 (fun s => Stt EV s [(47, .bool z34), (0, strV pA), (2, .pointer (some ⟨i1, 0, none⟩)), (4, .pointer (some ⟨i5, 0, none⟩)), (5, .int .i64 x6.1), (6, vB (gt pA x6.1)), (7, .int .i64 x30)] [B14, B10, [(i5, .row [strV x6.2.1, strV x6.2.2.1, .slice a7 x6.2.2.2.1.length z8, .slice a11 x6.2.2.2.2.1.length z12, .int .i64 x6.2.2.2.2.2] 73 0 true)], [(i1, .row [strV ([]), strV ([]), .slice none 0 0, .slice none 0 0, .int .i64 0] 73 0 true)]] F L F nx0) ?_ fun s hS => ?_
 refine bc hz34 (fun hc35 hz34 => ?_) fun hc35 hz34 => ?_
 replace hS := hS.kb 41 hc35 rfl
 refine sg0 hS 2 [] [42, 43] [strV pA, .int .i64 x30] [] (by kernel_rfl) fun s hS => ?_
 obtain ⟨hk36, hz34⟩ := ite_some hz34
 refine q_pu hS (wt hS rfl rfl rfl rfl) rfl rfl rfl (v := vB (gt pA x30)) (aop_idxS tu9 (hS.lk rfl) (hS.lk rfl) hk36) fun s hS => (sg0 hS 3 [] [47] [.bool (((gt pA x30).toNat : Int) != ((gt pA x6.1).toNat : Int))] [] (by kernel_rfl) fun s hS => ?_)
 refine KW.nil ?_
 obtain rfl := Option.some.inj hz34
 exact hS.subR rfl
 replace hS := hS.kb 41 hc35 rfl
 refine sg0 hS 6 [] [47] [.bool false] [] (by kernel_rfl) fun s hS => (KW.nil ?_)
 obtain rfl := Option.some.inj hz34
 exact hS.subR rfl
 refine KW.nil (bc h33 (fun hc37 h33 => ?_) fun hc37 h33 => ?_)
 refine WW.condK hS rfl hc37 (WW.skip ?_)
 refine WW.block (WW.region ?_)
 refine sg0 hS 3 [] [7] [.int .i64 (w64 (x30 + 1))] [] (by kernel_rfl) fun s hS => (KW.nil ?_)
 obtain rfl := Option.some.inj h33
 exact ⟨_, rfl, (hS.subR rfl)⟩
 refine WW.condF hS rfl hc37 (WW.exit ?_)
 refine thenQ_exit ?_
 obtain rfl := Option.some.inj h33
 exact ⟨_, rfl, rfl, (hS.subR rfl)⟩
 clear hS
 rintro e s ⟨rfl, hS⟩
 refine blockQ_exit (WW.seq ?_)
 refine WW.seq (WW.region ?_)
 refine sg0 hS 4 [] [53] [.bool (o31 == (pA.length : Int))] [] (by kernel_rfl) fun s hS => (KW.nil ?_)
 refine bc h25 (fun hc38 h25 => ?_) fun hc38 h25 => ?_
 refine WW.condK hS rfl hc38 (WW.seq ?_)
 refine WW.region (q_pu hS (wn rfl) rfl rfl rfl (v := .agg #[strV ([]), strV ([]), .slice none 0 0, .slice none 0 0, .int .i64 21]) (aop_bld t0_73 tp73 [(4, .int .i64 21)] (parts_eq hS rfl) (cs := [strV ([]), strV ([]), .slice none 0 0, .slice none 0 0, .int .i64 21]) rfl) fun s hS => ?_)
 refine sg hS 1 [3] [] [] [i1] [B14, B10, [(i5, .row [strV x6.2.1, strV x6.2.2.1, .slice a7 x6.2.2.2.1.length z8, .slice a11 x6.2.2.2.2.1.length z12, .int .i64 x6.2.2.2.2.2] 73 0 true)], [(i1, .row [strV ([]), strV ([]), .slice none 0 0, .slice none 0 0, .int .i64 21] 73 0 true)]] (by kernel_rfl) fun s hS => (KW.nil ?_)
 refine WW.ret ?_
 replace hS := hS.gap0
 replace hS := hS.gap0
 have hres := (res_cell hS (t := 2) (ty := 73) rfl (p := 5) rfl tg73 tz73 (ws := [strV ([]), strV ([]), .slice none ([] : List Int).length 0, .slice none ([] : List (Int × Int)).length 0, .int .i64 21]) rfl (res_nil (E := EV) (s := s)))
 replace hS := (hS.pull 2).drop
 replace hS := (hS.pull 2).drop
 replace hS := (hS.pull 2).drop
 replace hS := (hS.pull 2).drop
 replace hS := hS.pull 1
 cases h25
 exact ⟨_, rfl, rfl, fin hS (.inr rfl) hres (v := .agg #[strV ([]), strV ([]), .slice none ([] : List Int).length 0, .slice none ([] : List (Int × Int)).length 0, .int .i64 21]) rfl ⟨_, _, _, _, _, _, rfl, rfl, rfl, Own.nil, Own.nil⟩⟩
 refine WW.condF hS rfl hc38 (WW.skip ?_)
 refine WW.seq (WW.region ?_)
 refine sg0 hS 5 [2] [56, 57, 59] [.slice a11 x6.2.2.2.2.1.length z12, .int .i64 x6.1, .int .i64 (w64 (o31 + 1))] [i5] (by kernel_rfl) fun s hS => (q_pu hS (wn rfl) rfl rfl rfl (v := .agg #[.int .i64 x6.1, .int .i64 (w64 (o31 + 1))]) (aop_bldA t0_50 tu50 tz3 [(0, .int .i64 x6.1), (1, .int .i64 (w64 (o31 + 1)))] (parts_eq hS rfl) (cs := [.int .i64 x6.1, .int .i64 (w64 (o31 + 1))]) rfl) fun s hS => ?_)
 refine q_nw hS (wn rfl) rfl rfl rfl (v := fun i => .slice (some ⟨i, 0, none⟩) 1 2) (b := .row [.int .i64 x6.1, .int .i64 (w64 (o31 + 1))] 50 2 true) (aop_bsl tu46 tz50 t0_50 rfl [(0, .agg #[.int .i64 x6.1, .int .i64 (w64 (o31 + 1))])] (parts_eq hS rfl) rfl) fun s i39 hS => ?_
 have hC40 : Cells el50 F ([(x6.1, (w64 (o31 + 1)))] : List (Int × Int)) [.int .i64 x6.1, .int .i64 (w64 (o31 + 1))] := ⟨[.int .i64 x6.1, .int .i64 (w64 (o31 + 1))], [], rfl, rfl, rfl⟩
 obtain ⟨hk44, h25⟩ := ite_some h25
 refine q_app hS (wn rfl) (dd := el50) (lst := x6.2.2.2.2.1) (m := ([(x6.1, (w64 (o31 + 1)))] : List (Int × Int))) rfl rfl ta46_46 rfl rfl h13 (Nat.succ_pos _) hC40 hk44 fun s i41 cs42 hC43 hS => (sg hS 2 [2] [] [] [i5] [[(i41, .row cs42 50 2 true)], B10, [(i5, .row [strV x6.2.1, strV x6.2.2.1, .slice a7 x6.2.2.2.1.length z8, .slice (some ⟨i41, 0, none⟩) (x6.2.2.2.2.1 ++ ([(x6.1, (w64 (o31 + 1)))] : List (Int × Int))).length 2, .int .i64 x6.2.2.2.2.2] 73 0 true)], [(i1, .row [strV ([]), strV ([]), .slice none 0 0, .slice none 0 0, .int .i64 0] 73 0 true)]] (by kernel_rfl) fun s hS => ?_)
 refine KW.nil (WW.seq ?_)
 refine WW.block ?_
 obtain ⟨o54, ho54, h25⟩ := bind_some h25
 refine WW.loop (LW.iterE ho54 (fun (x45 : Int × List UInt8 × List UInt8 × List Int × (List (Int × Int)) × Int) s => ∃ (a46 : Option Addr) (z47 : Nat) (B49 : Seg) (a50 : Option Addr) (z51 : Nat) (B53 : Seg), Stt EV s [(0, strV pA), (2, .pointer (some ⟨i1, 0, none⟩)), (4, .pointer (some ⟨i5, 0, none⟩)), (5, .int .i64 x45.1), (6, vB (gt pA x6.1)), (7, .int .i64 o31)] [B53, B49, [(i5, .row [strV x45.2.1, strV x45.2.2.1, .slice a46 x45.2.2.2.1.length z47, .slice a50 x45.2.2.2.2.1.length z51, .int .i64 x45.2.2.2.2.2] 73 0 true)], [(i1, .row [strV ([]), strV ([]), .slice none 0 0, .slice none 0 0, .int .i64 0] 73 0 true)]] F L F nx0 ∧ Own (elI .i64 3) F a46 z47 x45.2.2.2.1 B49 ∧ Own el50 F a50 z51 x45.2.2.2.2.1 B53) 4 ⟨_, _, _, _, _, _, (hS.subR rfl), h9, (Own.blk0 hC43)⟩ ?_ ?_)
 clear hS
 rintro x45 s ⟨a46, z47, B49, a50, z51, B53, hS, h48, h52⟩ o54' h64
 unfold g_2c.b2 at h64
 refine WW.seq (WW.seq ?_)
 refine WW.region (sg0 hS 3 [] [66] [.bool (decide (x45.1 ≤ o31))] [] (by kernel_rfl) fun s hS => ?_)
 refine KW.nil (bc h64 (fun hc65 h64 => ?_) fun hc65 h64 => ?_)
 refine WW.condK hS rfl hc65 (WW.skip ?_)
 refine WW.seq (WW.block ?_)
 refine WW.regionD (i := [[], [0], [1, 0], [0], [3, 2, 1, 0], [], [], []]) (by kernel_rfl) ?_
 have hq := RS.start [i5, i1]
 refine K.ldA hS hq rfl (wn rfl) rfl rfl rfl (hS.at (k := 2) rfl) tg73 tz73 (vs := [strV x45.2.1, strV x45.2.2.1, .slice a46 x45.2.2.2.1.length z47, .slice a50 x45.2.2.2.2.1.length z51, .int .i64 x45.2.2.2.2.2]) rfl 0 rfl rfl fun s rs hS hq => (kg hS hq 2 [70, 71] [strV pA, .int .i64 x45.1] (by kernel_rfl) fun s rs hS hq => ?_)
 obtain ⟨hk66, h64⟩ := ite_some h64
 refine K.pu hS hq rfl (wn rfl) rfl rfl rfl (v := vB (gt pA x45.1)) (aop_idxS tu9 (hS.lk rfl) (hS.lk rfl) hk66) fun s rs hS hq => (kg hS hq 1 [73] [.int .i64 x45.1] (by kernel_rfl) fun s rs hS hq => ?_)
 obtain ⟨y67, hy67, h64⟩ := bind_some h64
 replace hS := hS.pull 1
 refine K.cl hS hq rfl (wn rfl) (vs := [.agg #[strV x45.2.1, strV x45.2.2.1, .slice a46 x45.2.2.2.1.length z47, .slice a50 x45.2.2.2.2.1.length z51, .int .i64 x45.2.2.2.2.2], vB (gt pA x45.1), .int .i64 x45.1]) (ws := [.agg #[strV x45.2.1, strV x45.2.2.1, .slice a46 x45.2.2.2.1.length z47, .slice a50 x45.2.2.2.2.1.length z51, .int .i64 x45.2.2.2.2.2], vB (gt pA x45.1), .int .i64 x45.1]) rfl rfl rfl rfl rfl 2 rfl (g_2i.ok hy67 h48 h52)  [0, 1] rfl rfl (aw_c rfl mm0 (aw_c rfl (mm1 mm0) aw_n)) fun s rs v S' F' hp68 hF hS hq => ?_
 obtain ⟨a69, z70, B72, a73, z74, B76, rfl, rfl, rfl, h71, h75⟩ := hp68
 obtain ⟨y77, hy77, h64⟩ := bind_some h64
 refine K.cl hS hq rfl (wn rfl) (vs := [.agg #[strV y67.1, strV y67.2.1, .slice a69 y67.2.2.1.length z70, .slice a73 y67.2.2.2.1.length z74, .int .i64 y67.2.2.2.2]]) (ws := [.agg #[strV y67.1, strV y67.2.1, .slice a69 y67.2.2.1.length z70, .slice a73 y67.2.2.2.1.length z74, .int .i64 y67.2.2.2.2]]) rfl rfl rfl rfl rfl 2 rfl (g_2e.ok hy77 h71 h75)  [0, 1] rfl rfl (aw_c rfl mm0 (aw_c rfl (mm1 mm0) aw_n)) fun s rs v S' F' hp78 hF hS hq => ?_
 obtain ⟨a79, z80, B82, a83, z84, B86, rfl, rfl, rfl, h81, h85⟩ := hp78
 refine K.sto hS hq rfl (wn rfl) rfl rfl rfl rfl (p := 2) rfl tz73 rfl [strV y77.1, strV y77.2.1, .slice a79 y77.2.2.1.length z80, .slice a83 y77.2.2.2.1.length z84, .int .i64 y77.2.2.2.2] rfl [1] rfl (aw_c rfl (mm1 (mm1 mm0)) aw_n) fun s rs hS hq => (KW.nil ?_)
 refine WW.region (sg0 hS 3 [] [5] [.int .i64 (w64 (x45.1 + 1))] [] (by kernel_rfl) fun s hS => ?_)
 refine KW.nil ?_
 replace hS := hS.pull 3
 replace hS := hS.pull 3
 replace hS := hS.pull 2
 replace hS := hS.pull 3
 obtain rfl := Option.some.inj h64
 exact ⟨_, rfl, _, _, _, _, _, _, (hS.subR rfl), h81, h85⟩
 refine WW.condF hS rfl hc65 (WW.exit ?_)
 refine thenQ_exit ?_
 obtain rfl := Option.some.inj h64
 exact ⟨_, rfl, rfl, _, _, _, _, _, _, (hS.subR rfl), h48, h52⟩
 clear hS
 rintro e s ⟨rfl, a87, z88, B90, a91, z92, B94, hS, h89, h93⟩
 refine blockQ_exit (WW.exit ?_)
 refine thenQ_exit (blockQ_exit ?_)
 obtain rfl := Option.some.inj h25
 exact ⟨_, rfl, _, _, _, _, _, _, (hS.subR rfl), h89, h93⟩
 refine WW.condF hS rfl hc29 (WW.skip ?_)
 refine WW.seq (WW.seq ?_)
 refine WW.region (sg0 hS 3 [] [78] [.bool (((gt pA x6.1).toNat : Int) == ((72 : UInt8).toNat : Int))] [] (by kernel_rfl) fun s hS => ?_)
 refine q_cut 3 (fun s => Stt EV s [(81, .bool ((((gt pA x6.1).toNat : Int) == ((72 : UInt8).toNat : Int)) || (((gt pA x6.1).toNat : Int) == ((104 : UInt8).toNat : Int)))), (0, strV pA), (2, .pointer (some ⟨i1, 0, none⟩)), (4, .pointer (some ⟨i5, 0, none⟩)), (5, .int .i64 x6.1)] [B14, B10, [(i5, .row [strV x6.2.1, strV x6.2.2.1, .slice a7 x6.2.2.2.1.length z8, .slice a11 x6.2.2.2.2.1.length z12, .int .i64 x6.2.2.2.2.2] 73 0 true)], [(i1, .row [strV ([]), strV ([]), .slice none 0 0, .slice none 0 0, .int .i64 0] 73 0 true)]] F L F nx0) ?_ fun s hS => ?_
 rcases bool_cases ((((gt pA x6.1).toNat : Int) == ((72 : UInt8).toNat : Int))) with hcj | hcj
 replace hS := hS.know (t := 78) rfl (congrArg Value.bool hcj)
 refine sg0 hS 3 [] [81] [.bool true] [] (by kernel_rfl) fun s hS => (KW.nil ?_)
 exact (hS.know (t := 81) (u' := .bool ((((gt pA x6.1).toNat : Int) == ((72 : UInt8).toNat : Int)) || (((gt pA x6.1).toNat : Int) == ((104 : UInt8).toNat : Int)))) rfl (jn_or_t hcj)).subR rfl
 replace hS := hS.know (t := 78) rfl (congrArg Value.bool hcj)
 refine sg0 hS 3 [] [81] [.bool (((gt pA x6.1).toNat : Int) == ((104 : UInt8).toNat : Int))] [] (by kernel_rfl) fun s hS => (KW.nil ?_)
 exact (hS.know (t := 81) (u' := .bool ((((gt pA x6.1).toNat : Int) == ((72 : UInt8).toNat : Int)) || (((gt pA x6.1).toNat : Int) == ((104 : UInt8).toNat : Int)))) rfl (jn_or_f hcj)).subR rfl
 refine sg0 hS 1 [] [82] [.bool ((((gt pA x6.1).toNat : Int) == ((72 : UInt8).toNat : Int)) || (((gt pA x6.1).toNat : Int) == ((104 : UInt8).toNat : Int)))] [] (by kernel_rfl) fun s hS => ?_
 obtain ⟨z95, hz95, h25⟩ := bind_some h25
 refine q_cut 5 (fun s => Stt EV s [(87, .bool z95), (0, strV pA), (2, .pointer (some ⟨i1, 0, none⟩)), (4, .pointer (some ⟨i5, 0, none⟩)), (5, .int .i64 x6.1)] [B14, B10, [(i5, .row [strV x6.2.1, strV x6.2.2.1, .slice a7 x6.2.2.2.1.length z8, .slice a11 x6.2.2.2.2.1.length z12, .int .i64 x6.2.2.2.2.2] 73 0 true)], [(i1, .row [strV ([]), strV ([]), .slice none 0 0, .slice none 0 0, .int .i64 0] 73 0 true)]] F L F nx0) ?_ fun s hS => ?_
 refine bc hz95 (fun hc96 hz95 => ?_) fun hc96 hz95 => ?_
 replace hS := hS.kb 81 hc96 rfl
 replace hS := hS.kb 82 hc96 rfl
 refine sg0 hS 2 [2] [84] [strV x6.2.2.1] [i5] (by kernel_rfl) fun s hS => ?_
 obtain ⟨y97, hy97, hz95⟩ := bind_some hz95
 refine q_cl hS (wt hS rfl rfl rfl rfl) (vs := [strV x6.2.2.1]) (ws := [strV x6.2.2.1]) rfl rfl rfl rfl rfl 0 rfl (g_2f.ok hy97) fun s v S' F' hp98 hF hS => ?_
 obtain ⟨rfl, rfl, rfl⟩ := hp98
 refine sg0 hS 2 [] [87] [.bool (decide (y97 > 0))] [] (by kernel_rfl) fun s hS => (KW.nil ?_)
 obtain rfl := Option.some.inj hz95
 exact hS.subR rfl
 replace hS := hS.kb 81 hc96 rfl
 replace hS := hS.kb 82 hc96 rfl
 refine sg0 hS 5 [] [87] [.bool false] [] (by kernel_rfl) fun s hS => (KW.nil ?_)
 obtain rfl := Option.some.inj hz95
 exact hS.subR rfl
 refine KW.nil (bc h25 (fun hc99 h25 => ?_) fun hc99 h25 => ?_)
 refine WW.condK hS rfl hc99 (WW.seq ?_)
 refine WW.region (sg0 hS 2 [2] [89] [strV x6.2.2.1] [i5] (by kernel_rfl) fun s hS => ?_)
 obtain ⟨y100, hy100, h25⟩ := bind_some h25
 refine q_cl hS (wn rfl) (vs := [strV x6.2.2.1]) (ws := [strV x6.2.2.1]) rfl rfl rfl rfl rfl 0 rfl (g_2f.ok hy100) fun s v S' F' hp101 hF hS => ?_
 obtain ⟨rfl, rfl, rfl⟩ := hp101
 refine sg0 hS 1 [] [8] [.int .i64 y100] [] (by kernel_rfl) fun s hS => (KW.nil ?_)
 refine WW.seq (WW.region ?_)
 refine sg0 hS 1 [] [9] [.int .i64 0] [] (by kernel_rfl) fun s hS => (KW.nil ?_)
 refine WW.seq (WW.seq ?_)
 refine WW.region (sg0 hS 6 [2] [10] [.int .i64 (w64 ((x6.2.1.length : Int) - y100))] [i5] (by kernel_rfl) fun s hS => ?_)
 refine KW.nil (WW.block ?_)
 obtain ⟨o103, ho103, h25⟩ := bind_some h25
 refine WW.loop (LW.iterE ho103 (fun (x102 : Int × Int) s => Stt EV s [(0, strV pA), (2, .pointer (some ⟨i1, 0, none⟩)), (4, .pointer (some ⟨i5, 0, none⟩)), (5, .int .i64 x6.1), (8, .int .i64 y100), (9, .int .i64 x102.1), (10, .int .i64 x102.2)] [B14, B10, [(i5, .row [strV x6.2.1, strV x6.2.2.1, .slice a7 x6.2.2.2.1.length z8, .slice a11 x6.2.2.2.2.1.length z12, .int .i64 x6.2.2.2.2.2] 73 0 true)], [(i1, .row [strV ([]), strV ([]), .slice none 0 0, .slice none 0 0, .int .i64 0] 73 0 true)]] F L F nx0) 6 (hS.subR rfl) ?_ ?_)
 clear hS
 rintro x102 s hS o103' h105
 unfold g_2c.b3 at h105
 refine WW.seq (WW.seq ?_)
 refine WW.region (sg0 hS 5 [2] [100] [.bool (decide (x102.2 < (x6.2.1.length : Int)))] [i5] (by kernel_rfl) fun s hS => ?_)
 refine KW.nil (bc h105 (fun hc106 h105 => ?_) fun hc106 h105 => ?_)
 refine WW.condK hS rfl hc106 (WW.skip ?_)
 refine WW.seq (WW.block ?_)
 refine WW.region (sg0 hS 5 [2] [104, 106, 107] [.int .i64 (w64 (10 * x102.1)), strV x6.2.1, .int .i64 x102.2] [i5] (by kernel_rfl) fun s hS => ?_)
 obtain ⟨hk107, h105⟩ := ite_some h105
 refine q_pu hS (wn rfl) rfl rfl rfl (v := vB (gt x6.2.1 x102.2)) (aop_idxS tu9 (hS.lk rfl) (hS.lk rfl) hk107) fun s hS => (q_pu hS (wn rfl) rfl rfl rfl (v := vB ((gt x6.2.1 x102.2) - 48)) (aop_u8sub (hS.lk rfl) (hS.lk rfl)) fun s hS => ?_)
 refine q_pu hS (wn rfl) rfl rfl (tgt_cv hS rfl rfl) (v := .int .i64 (IntKind.i64.wrap (((gt x6.2.1 x102.2) - 48).toNat : Int))) (aop_cvi (hS.lk rfl) tu5 tu3) fun s hS => (sg0 hS 1 [] [111] [.int .i64 (w64 ((w64 (10 * x102.1)) + (IntKind.i64.wrap (((gt x6.2.1 x102.2) - 48).toNat : Int))))] [] (by kernel_rfl) fun s hS => ?_)
 refine q_pu hS (wn rfl) rfl rfl rfl (v := .int .i64 (if (10000 : Int) < (w64 ((w64 (10 * x102.1)) + (IntKind.i64.wrap (((gt x6.2.1 x102.2) - 48).toNat : Int)))) then 10000 else (w64 ((w64 (10 * x102.1)) + (IntKind.i64.wrap (((gt x6.2.1 x102.2) - 48).toNat : Int)))))) (aop_min rfl (hS.lk rfl) (hS.lk rfl)) fun s hS => (sg0 hS 1 [] [9] [.int .i64 (if (10000 : Int) < (w64 ((w64 (10 * x102.1)) + (IntKind.i64.wrap (((gt x6.2.1 x102.2) - 48).toNat : Int)))) then 10000 else (w64 ((w64 (10 * x102.1)) + (IntKind.i64.wrap (((gt x6.2.1 x102.2) - 48).toNat : Int)))))] [] (by kernel_rfl) fun s hS => ?_)
 refine KW.nil (WW.region ?_)
 refine sg0 hS 3 [] [10] [.int .i64 (w64 (x102.2 + 1))] [] (by kernel_rfl) fun s hS => (KW.nil ?_)
 obtain rfl := Option.some.inj h105
 exact ⟨_, rfl, (hS.subR rfl)⟩
 refine WW.condF hS rfl hc106 (WW.exit ?_)
 refine thenQ_exit ?_
 obtain rfl := Option.some.inj h105
 exact ⟨_, rfl, rfl, (hS.subR rfl)⟩
 clear hS
 rintro e s ⟨rfl, hS⟩
 refine blockQ_exit (WW.seq ?_)
 refine WW.seq (WW.region ?_)
 refine sg0 hS 2 [] [114] [.bool (o103.1 == 0)] [] (by kernel_rfl) fun s hS => (KW.nil ?_)
 refine bc h25 (fun hc108 h25 => ?_) fun hc108 h25 => ?_
 refine WW.condK hS rfl hc108 (WW.seq ?_)
 refine WW.region (q_pu hS (wn rfl) rfl rfl rfl (v := .agg #[strV ([]), strV ([]), .slice none 0 0, .slice none 0 0, .int .i64 11]) (aop_bld t0_73 tp73 [(4, .int .i64 11)] (parts_eq hS rfl) (cs := [strV ([]), strV ([]), .slice none 0 0, .slice none 0 0, .int .i64 11]) rfl) fun s hS => ?_)
 refine sg hS 1 [3] [] [] [i1] [B14, B10, [(i5, .row [strV x6.2.1, strV x6.2.2.1, .slice a7 x6.2.2.2.1.length z8, .slice a11 x6.2.2.2.2.1.length z12, .int .i64 x6.2.2.2.2.2] 73 0 true)], [(i1, .row [strV ([]), strV ([]), .slice none 0 0, .slice none 0 0, .int .i64 11] 73 0 true)]] (by kernel_rfl) fun s hS => (KW.nil ?_)
 refine WW.ret ?_
 replace hS := hS.gap0
 replace hS := hS.gap0
 have hres := (res_cell hS (t := 2) (ty := 73) rfl (p := 5) rfl tg73 tz73 (ws := [strV ([]), strV ([]), .slice none ([] : List Int).length 0, .slice none ([] : List (Int × Int)).length 0, .int .i64 11]) rfl (res_nil (E := EV) (s := s)))
 replace hS := (hS.pull 2).drop
 replace hS := (hS.pull 2).drop
 replace hS := (hS.pull 2).drop
 replace hS := (hS.pull 2).drop
 replace hS := hS.pull 1
 cases h25
 exact ⟨_, rfl, rfl, fin hS (.inr rfl) hres (v := .agg #[strV ([]), strV ([]), .slice none ([] : List Int).length 0, .slice none ([] : List (Int × Int)).length 0, .int .i64 11]) rfl ⟨_, _, _, _, _, _, rfl, rfl, rfl, Own.nil, Own.nil⟩⟩
 refine WW.condF hS rfl hc108 (WW.skip ?_)
 refine WW.seq (WW.seq ?_)
 refine WW.region (sg0 hS 6 [] [121] [.bool (decide ((w64 (x6.1 + o103.1)) ≥ (pA.length : Int)))] [] (by kernel_rfl) fun s hS => ?_)
 refine KW.nil (bc h25 (fun hc109 h25 => ?_) fun hc109 h25 => ?_)
 refine WW.condK hS rfl hc109 (WW.seq ?_)
 refine WW.region (q_pu hS (wn rfl) rfl rfl rfl (v := .agg #[strV ([]), strV ([]), .slice none 0 0, .slice none 0 0, .int .i64 21]) (aop_bld t0_73 tp73 [(4, .int .i64 21)] (parts_eq hS rfl) (cs := [strV ([]), strV ([]), .slice none 0 0, .slice none 0 0, .int .i64 21]) rfl) fun s hS => ?_)
 refine sg hS 1 [3] [] [] [i1] [B14, B10, [(i5, .row [strV x6.2.1, strV x6.2.2.1, .slice a7 x6.2.2.2.1.length z8, .slice a11 x6.2.2.2.2.1.length z12, .int .i64 x6.2.2.2.2.2] 73 0 true)], [(i1, .row [strV ([]), strV ([]), .slice none 0 0, .slice none 0 0, .int .i64 21] 73 0 true)]] (by kernel_rfl) fun s hS => (KW.nil ?_)
 refine WW.ret ?_
 replace hS := hS.gap0
 replace hS := hS.gap0
 have hres := (res_cell hS (t := 2) (ty := 73) rfl (p := 5) rfl tg73 tz73 (ws := [strV ([]), strV ([]), .slice none ([] : List Int).length 0, .slice none ([] : List (Int × Int)).length 0, .int .i64 21]) rfl (res_nil (E := EV) (s := s)))
 replace hS := (hS.pull 2).drop
 replace hS := (hS.pull 2).drop
 replace hS := (hS.pull 2).drop
 replace hS := (hS.pull 2).drop
 replace hS := hS.pull 1
 cases h25
 exact ⟨_, rfl, rfl, fin hS (.inr rfl) hres (v := .agg #[strV ([]), strV ([]), .slice none ([] : List Int).length 0, .slice none ([] : List (Int × Int)).length 0, .int .i64 21]) rfl ⟨_, _, _, _, _, _, rfl, rfl, rfl, Own.nil, Own.nil⟩⟩
 refine WW.condF hS rfl hc109 (WW.skip ?_)
 refine WW.seq (WW.regionD (i := [[], [], [1, 0], [1, 0], [3, 2, 1, 0], [3, 2, 1, 0], [3, 2, 1, 0], [6, 5, 4, 3, 2, 1, 0], [3, 2, 1, 0], [1, 0], [1, 0], [10, 9, 8, 7, 6, 5, 4, 3, 2, 1, 0], [11, 10, 9, 8, 7, 6, 5, 4, 3, 2, 1, 0], [10, 9, 8, 7, 6, 5, 4, 3, 2, 1, 0], [10, 9, 8, 7, 6, 5, 4, 3, 2, 1, 0], [1, 0], [1, 0], [], [], []]) (by kernel_rfl) ?_)
 have hq := RS.start [i5, i1]
 refine kg hS hq 1 [123] [.pointer (some ⟨i5, 3, none⟩)] (by kernel_rfl) fun s rs hS hq => (K.ld hS hq rfl (wn rfl) rfl rfl rfl (hS.at (k := 2) rfl) tg46 (v := .slice a11 x6.2.2.2.2.1.length z12) rfl 0 rfl rfl fun s rs hS hq => ?_)
 refine kg hS hq 1 [125] [.pointer (some ⟨i5, 2, none⟩)] (by kernel_rfl) fun s rs hS hq => (K.ld hS hq rfl (wn rfl) rfl rfl rfl (hS.at (k := 2) rfl) tg22 (v := .slice a7 x6.2.2.2.1.length z8) rfl 0 rfl rfl fun s rs hS hq => ?_)
 refine kg hS hq 1 [127] [.pointer (some ⟨i5, 2, none⟩)] (by kernel_rfl) fun s rs hS hq => (K.ld hS hq rfl (wn rfl) rfl rfl rfl (hS.at (k := 2) rfl) tg22 (v := .slice a7 x6.2.2.2.1.length z8) rfl 0 rfl rfl fun s rs hS hq => ?_)
 refine kg hS hq 3 [131] [.int .i64 (w64 ((x6.2.2.2.1.length : Int) - y100))] (by kernel_rfl) fun s rs hS hq => ?_
 obtain ⟨hk110, h25⟩ := ite_some h25
 obtain ⟨i116, cs117, ex118, rfl, rfl, rfl, hC119⟩ := Own.some_ h9 (by omega)
 obtain ⟨c111, hR112, hN114, hN113, hT115⟩ := Cells.loadF hC119 ex118 hk110 (z := 1) rfl
 obtain rfl := hR112
 refine K.pu hS hq rfl (wn rfl) rfl rfl rfl (v := .pointer (some ⟨i116, 0 + ((w64 ((x6.2.2.2.1.length : Int) - y100))).toNat * 1, none⟩)) (aop_ia (hS.lk rfl) (hS.lk rfl) te22 hk110) fun s rs hS hq => ?_
 replace hq := hq.more i116 rfl rfl rfl
 refine K.ld hS hq rfl (wn rfl) rfl rfl rfl (hS.at (k := 1) rfl) tg3 (v := .int .i64 (gt x6.2.2.2.1 (w64 ((x6.2.2.2.1.length : Int) - y100)))) hN113 2 rfl rfl fun s rs hS hq => (kg hS hq 4 [137] [.int .i64 (w64 ((w64 (x6.1 + o103.1)) + 1))] (by kernel_rfl) fun s rs hS hq => ?_)
 refine K.pu hS hq rfl (wn rfl) rfl rfl rfl (v := .agg #[.int .i64 (gt x6.2.2.2.1 (w64 ((x6.2.2.2.1.length : Int) - y100))), .int .i64 (w64 ((w64 (x6.1 + o103.1)) + 1))]) (aop_bldA t0_50 tu50 tz3 [(0, .int .i64 (gt x6.2.2.2.1 (w64 ((x6.2.2.2.1.length : Int) - y100)))), (1, .int .i64 (w64 ((w64 (x6.1 + o103.1)) + 1)))] (parts_eq hS rfl) (cs := [.int .i64 (gt x6.2.2.2.1 (w64 ((x6.2.2.2.1.length : Int) - y100))), .int .i64 (w64 ((w64 (x6.1 + o103.1)) + 1))]) rfl) fun s rs hS hq => (K.nw hS hq rfl (wn rfl) rfl rfl rfl (v := fun i => .slice (some ⟨i, 0, none⟩) 1 2) (b := .row [.int .i64 (gt x6.2.2.2.1 (w64 ((x6.2.2.2.1.length : Int) - y100))), .int .i64 (w64 ((w64 (x6.1 + o103.1)) + 1))] 50 2 true) (aop_bsl tu46 tz50 t0_50 rfl [(0, .agg #[.int .i64 (gt x6.2.2.2.1 (w64 ((x6.2.2.2.1.length : Int) - y100))), .int .i64 (w64 ((w64 (x6.1 + o103.1)) + 1))])] (parts_eq hS rfl) rfl) [0, 1, 2] (aw_c rfl (mm1 (mm1 mm0)) (aw_c rfl (mm1 (mm1 (mm1 mm0))) (aw_c rfl (mm1 mm0) aw_n))) rfl rfl rfl fun s rs i120 hS hq => ?_)
 have hC121 : Cells el50 F ([((gt x6.2.2.2.1 (w64 ((x6.2.2.2.1.length : Int) - y100))), (w64 ((w64 (x6.1 + o103.1)) + 1)))] : List (Int × Int)) [.int .i64 (gt x6.2.2.2.1 (w64 ((x6.2.2.2.1.length : Int) - y100))), .int .i64 (w64 ((w64 (x6.1 + o103.1)) + 1))] := ⟨[.int .i64 (gt x6.2.2.2.1 (w64 ((x6.2.2.2.1.length : Int) - y100))), .int .i64 (w64 ((w64 (x6.1 + o103.1)) + 1))], [], rfl, rfl, rfl⟩
 obtain ⟨hk125, h25⟩ := ite_some h25
 refine K.app [] hS hq rfl (wn rfl) (dd := el50) (lst := x6.2.2.2.2.1) (m := ([((gt x6.2.2.2.1 (w64 ((x6.2.2.2.1.length : Int) - y100))), (w64 ((w64 (x6.1 + o103.1)) + 1)))] : List (Int × Int))) rfl rfl ta46_46 rfl rfl h13 (Nat.succ_pos _) hC121 hk125 [0, 1, 2] rfl rfl (aw_c rfl (mm1 mm0) (aw_c rfl (mm1 (mm1 mm0)) (aw_c rfl mm0 aw_n))) fun s rs i122 cs123 hC124 hS hq => (kg hS hq 1 [141] [.pointer (some ⟨i5, 3, none⟩)] (by kernel_rfl) fun s rs hS hq => ?_)
 refine K.sto hS hq rfl (wn rfl) rfl rfl rfl rfl (p := 2) rfl tz46 rfl [strV x6.2.1, strV x6.2.2.1, .slice (some ⟨i116, 0, none⟩) x6.2.2.2.1.length 1, .slice (some ⟨i122, 0, none⟩) (x6.2.2.2.2.1 ++ ([((gt x6.2.2.2.1 (w64 ((x6.2.2.2.1.length : Int) - y100))), (w64 ((w64 (x6.1 + o103.1)) + 1)))] : List (Int × Int))).length 2, .int .i64 x6.2.2.2.2.2] rfl [1, 2] rfl (aw_c rfl (mm1 (mm1 mm0)) (aw_c rfl (mm1 mm0) aw_n)) fun s rs hS hq => (KW.nil ?_)
 refine WW.seq (WW.region ?_)
 refine sg0 hS 2 [2] [142, 143] [.agg #[strV x6.2.1, strV x6.2.2.1, .slice (some ⟨i116, 0, none⟩) x6.2.2.2.1.length 1, .slice (some ⟨i122, 0, none⟩) (x6.2.2.2.2.1 ++ ([((gt x6.2.2.2.1 (w64 ((x6.2.2.2.1.length : Int) - y100))), (w64 ((w64 (x6.1 + o103.1)) + 1)))] : List (Int × Int))).length 2, .int .i64 x6.2.2.2.2.2], .int .i64 x6.1] [i5] (by kernel_rfl) fun s hS => ?_
 obtain ⟨y126, hy126, h25⟩ := bind_some h25
 replace hS := hS.pull 1
 refine q_cl hS (wn rfl) (vs := [.agg #[strV x6.2.1, strV x6.2.2.1, .slice (some ⟨i116, 0, none⟩) x6.2.2.2.1.length 1, .slice (some ⟨i122, 0, none⟩) (x6.2.2.2.2.1 ++ ([((gt x6.2.2.2.1 (w64 ((x6.2.2.2.1.length : Int) - y100))), (w64 ((w64 (x6.1 + o103.1)) + 1)))] : List (Int × Int))).length 2, .int .i64 x6.2.2.2.2.2], vB 72, .int .i64 x6.1]) (ws := [.agg #[strV x6.2.1, strV x6.2.2.1, .slice (some ⟨i116, 0, none⟩) x6.2.2.2.1.length 1, .slice (some ⟨i122, 0, none⟩) (x6.2.2.2.2.1 ++ ([((gt x6.2.2.2.1 (w64 ((x6.2.2.2.1.length : Int) - y100))), (w64 ((w64 (x6.1 + o103.1)) + 1)))] : List (Int × Int))).length 2, .int .i64 x6.2.2.2.2.2], vB 72, .int .i64 x6.1]) rfl rfl rfl rfl rfl 2 rfl (g_2i.ok hy126 (Own.blk ex118 hC119) (Own.blk0 hC124)) fun s v S' F' hp127 hF hS => ?_
 obtain ⟨a128, z129, B131, a132, z133, B135, rfl, rfl, rfl, h130, h134⟩ := hp127
 obtain ⟨y136, hy136, h25⟩ := bind_some h25
 refine cK (g_2e.ok hy136 h130 h134) hS 0 145 2 rfl (by kernel_rfl) fun s v S' F' hp137 hF hS => ?_
 obtain ⟨a138, z139, B141, a142, z143, B145, rfl, rfl, rfl, h140, h144⟩ := hp137
 refine sg hS 1 [2] [] [] [i5] [B141, B145, [(i5, .row [strV y136.1, strV y136.2.1, .slice a138 y136.2.2.1.length z139, .slice a142 y136.2.2.2.1.length z143, .int .i64 y136.2.2.2.2] 73 0 true)], [(i1, .row [strV ([]), strV ([]), .slice none 0 0, .slice none 0 0, .int .i64 0] 73 0 true)]] (by kernel_rfl) fun s hS => (KW.nil ?_)
 refine WW.seq (WW.seq ?_)
 refine WW.region (sg0 hS 3 [] [11] [.int .i64 (w64 (x6.1 + 1))] [] (by kernel_rfl) fun s hS => ?_)
 refine KW.nil (WW.block ?_)
 obtain ⟨o155, ho155, h25⟩ := bind_some h25
 refine WW.loop (LW.iterE ho155 (fun (x146 : Int × List UInt8 × List UInt8 × List Int × (List (Int × Int)) × Int) s => ∃ (a147 : Option Addr) (z148 : Nat) (B150 : Seg) (a151 : Option Addr) (z152 : Nat) (B154 : Seg), Stt EV s [(0, strV pA), (2, .pointer (some ⟨i1, 0, none⟩)), (4, .pointer (some ⟨i5, 0, none⟩)), (5, .int .i64 x6.1), (9, .int .i64 o103.1), (11, .int .i64 x146.1)] [B150, B154, [(i5, .row [strV x146.2.1, strV x146.2.2.1, .slice a147 x146.2.2.2.1.length z148, .slice a151 x146.2.2.2.2.1.length z152, .int .i64 x146.2.2.2.2.2] 73 0 true)], [(i1, .row [strV ([]), strV ([]), .slice none 0 0, .slice none 0 0, .int .i64 0] 73 0 true)]] F L F nx0 ∧ Own (elI .i64 3) F a147 z148 x146.2.2.2.1 B150 ∧ Own el50 F a151 z152 x146.2.2.2.2.1 B154) 8 ⟨_, _, _, _, _, _, (hS.subR rfl), h140, h144⟩ ?_ ?_)
 clear hS
 rintro x146 s ⟨a147, z148, B150, a151, z152, B154, hS, h149, h153⟩ o155' h165
 unfold g_2c.b4 at h165
 refine WW.seq (WW.seq ?_)
 refine WW.region (sg0 hS 5 [] [152] [.bool (decide (x146.1 ≤ (w64 (x6.1 + o103.1))))] [] (by kernel_rfl) fun s hS => ?_)
 refine KW.nil (bc h165 (fun hc166 h165 => ?_) fun hc166 h165 => ?_)
 refine WW.condK hS rfl hc166 (WW.skip ?_)
 refine WW.seq (WW.block ?_)
 refine WW.regionD (i := [[], [0], [1, 0], [0], [3, 2, 1, 0], [], [], []]) (by kernel_rfl) ?_
 have hq := RS.start [i5, i1]
 refine K.ldA hS hq rfl (wn rfl) rfl rfl rfl (hS.at (k := 2) rfl) tg73 tz73 (vs := [strV x146.2.1, strV x146.2.2.1, .slice a147 x146.2.2.2.1.length z148, .slice a151 x146.2.2.2.2.1.length z152, .int .i64 x146.2.2.2.2.2]) rfl 0 rfl rfl fun s rs hS hq => (kg hS hq 2 [156, 157] [strV pA, .int .i64 x146.1] (by kernel_rfl) fun s rs hS hq => ?_)
 obtain ⟨hk167, h165⟩ := ite_some h165
 refine K.pu hS hq rfl (wn rfl) rfl rfl rfl (v := vB (gt pA x146.1)) (aop_idxS tu9 (hS.lk rfl) (hS.lk rfl) hk167) fun s rs hS hq => (kg hS hq 1 [159] [.int .i64 x146.1] (by kernel_rfl) fun s rs hS hq => ?_)
 obtain ⟨y168, hy168, h165⟩ := bind_some h165
 refine K.cl hS hq rfl (wn rfl) (vs := [.agg #[strV x146.2.1, strV x146.2.2.1, .slice a147 x146.2.2.2.1.length z148, .slice a151 x146.2.2.2.2.1.length z152, .int .i64 x146.2.2.2.2.2], vB (gt pA x146.1), .int .i64 x146.1]) (ws := [.agg #[strV x146.2.1, strV x146.2.2.1, .slice a147 x146.2.2.2.1.length z148, .slice a151 x146.2.2.2.2.1.length z152, .int .i64 x146.2.2.2.2.2], vB (gt pA x146.1), .int .i64 x146.1]) rfl rfl rfl rfl rfl 2 rfl (g_2i.ok hy168 h149 h153)  [0, 1] rfl rfl (aw_c rfl mm0 (aw_c rfl (mm1 mm0) aw_n)) fun s rs v S' F' hp169 hF hS hq => ?_
 obtain ⟨a170, z171, B173, a174, z175, B177, rfl, rfl, rfl, h172, h176⟩ := hp169
 obtain ⟨y178, hy178, h165⟩ := bind_some h165
 refine K.cl hS hq rfl (wn rfl) (vs := [.agg #[strV y168.1, strV y168.2.1, .slice a170 y168.2.2.1.length z171, .slice a174 y168.2.2.2.1.length z175, .int .i64 y168.2.2.2.2]]) (ws := [.agg #[strV y168.1, strV y168.2.1, .slice a170 y168.2.2.1.length z171, .slice a174 y168.2.2.2.1.length z175, .int .i64 y168.2.2.2.2]]) rfl rfl rfl rfl rfl 2 rfl (g_2e.ok hy178 h172 h176)  [0, 1] rfl rfl (aw_c rfl mm0 (aw_c rfl (mm1 mm0) aw_n)) fun s rs v S' F' hp179 hF hS hq => ?_
 obtain ⟨a180, z181, B183, a184, z185, B187, rfl, rfl, rfl, h182, h186⟩ := hp179
 refine K.sto hS hq rfl (wn rfl) rfl rfl rfl rfl (p := 2) rfl tz73 rfl [strV y178.1, strV y178.2.1, .slice a180 y178.2.2.1.length z181, .slice a184 y178.2.2.2.1.length z185, .int .i64 y178.2.2.2.2] rfl [1] rfl (aw_c rfl (mm1 (mm1 mm0)) aw_n) fun s rs hS hq => (KW.nil ?_)
 refine WW.region (sg0 hS 3 [] [11] [.int .i64 (w64 (x146.1 + 1))] [] (by kernel_rfl) fun s hS => ?_)
 refine KW.nil ?_
 obtain rfl := Option.some.inj h165
 exact ⟨_, rfl, _, _, _, _, _, _, (hS.subR rfl), h182, h186⟩
 refine WW.condF hS rfl hc166 (WW.exit ?_)
 refine thenQ_exit ?_
 obtain rfl := Option.some.inj h165
 exact ⟨_, rfl, rfl, _, _, _, _, _, _, (hS.subR rfl), h149, h153⟩
 clear hS
 rintro e s ⟨rfl, a188, z189, B191, a192, z193, B195, hS, h190, h194⟩
 refine blockQ_exit (WW.seq ?_)
 refine WW.region (sg0 hS 5 [] [5] [.int .i64 (w64 ((w64 (x6.1 + o103.1)) + 1))] [] (by kernel_rfl) fun s hS => ?_)
 refine KW.nil (WW.exit ?_)
 refine thenQ_exit (blockQ_exit ?_)
 replace hS := hS.pull 3
 replace hS := hS.pull 3
 replace hS := hS.pull 2
 replace hS := hS.pull 3
 obtain rfl := Option.some.inj h25
 exact ⟨_, rfl, _, _, _, _, _, _, (hS.subR rfl), h190, h194⟩
 refine WW.condF hS rfl hc99 (WW.skip ?_)
 refine WW.seq (WW.regionD (i := [[], [0], [1, 0], [2, 1, 0], [2, 1, 0], [0], [0], [0], [7, 6, 5, 4, 3, 2, 1, 0], [], []]) (by kernel_rfl) ?_)
 have hq := RS.start [i5, i1]
 refine K.ldA hS hq rfl (wn rfl) rfl rfl rfl (hS.at (k := 2) rfl) tg73 tz73 (vs := [strV x6.2.1, strV x6.2.2.1, .slice a7 x6.2.2.2.1.length z8, .slice a11 x6.2.2.2.2.1.length z12, .int .i64 x6.2.2.2.2.2]) rfl 0 rfl rfl fun s rs hS hq => (kg hS hq 4 [167, 168, 170] [strV pA, .int .i64 x6.1, .int .i64 (w64 (x6.1 + 1))] (by kernel_rfl) fun s rs hS hq => ?_)
 obtain ⟨hk196, h25⟩ := ite_some h25
 refine K.pu hS hq rfl (wn rfl) rfl rfl rfl (v := strV (mid pA x6.1 (w64 (x6.1 + 1)))) (aop_slS tu9 (hS.lk rfl) (i := x6.1) (j := (w64 (x6.1 + 1))) (bnd_eq hS rfl) (bnd_eq hS rfl) hk196) fun s rs hS hq => ?_
 obtain ⟨y197, hy197, h25⟩ := bind_some h25
 refine K.cl hS hq rfl (wn rfl) (vs := [strV (mid pA x6.1 (w64 (x6.1 + 1)))]) (ws := [strV (mid pA x6.1 (w64 (x6.1 + 1)))]) rfl rfl rfl rfl rfl 0 rfl (g_2h.ok hy197)  [0, 1] rfl rfl (aw_c rfl (mm1 (mm1 mm0)) (aw_c rfl (mm1 (mm1 (mm1 mm0))) aw_n)) fun s rs v S' F' hp198 hF hS hq => ?_
 obtain ⟨rfl, rfl, rfl⟩ := hp198
 obtain ⟨hk199, h25⟩ := ite_some h25
 refine K.pu hS hq rfl (wn rfl) rfl rfl rfl (v := vB (gt y197 (0 : Int))) (aop_idxS tu9 (hS.lk rfl) (hS.lk rfl) hk199) fun s rs hS hq => (kg hS hq 1 [174] [.int .i64 x6.1] (by kernel_rfl) fun s rs hS hq => ?_)
 obtain ⟨y200, hy200, h25⟩ := bind_some h25
 replace hS := hS.pull 1
 refine K.cl hS hq rfl (wn rfl) (vs := [.agg #[strV x6.2.1, strV x6.2.2.1, .slice a7 x6.2.2.2.1.length z8, .slice a11 x6.2.2.2.2.1.length z12, .int .i64 x6.2.2.2.2.2], vB (gt y197 (0 : Int)), .int .i64 x6.1]) (ws := [.agg #[strV x6.2.1, strV x6.2.2.1, .slice a7 x6.2.2.2.1.length z8, .slice a11 x6.2.2.2.2.1.length z12, .int .i64 x6.2.2.2.2.2], vB (gt y197 (0 : Int)), .int .i64 x6.1]) rfl rfl rfl rfl rfl 2 rfl (g_2i.ok hy200 h9 h13)  [0, 1] rfl rfl (aw_c rfl mm0 (aw_c rfl (mm1 mm0) aw_n)) fun s rs v S' F' hp201 hF hS hq => ?_
 obtain ⟨a202, z203, B205, a206, z207, B209, rfl, rfl, rfl, h204, h208⟩ := hp201
 refine K.sto hS hq rfl (wn rfl) rfl rfl rfl rfl (p := 2) rfl tz73 rfl [strV y200.1, strV y200.2.1, .slice a202 y200.2.2.1.length z203, .slice a206 y200.2.2.2.1.length z207, .int .i64 y200.2.2.2.2] rfl [1] rfl (aw_c rfl (mm1 (mm1 mm0)) aw_n) fun s rs hS hq => (KW.nil ?_)
 refine WW.region (sg0 hS 3 [] [5] [.int .i64 (w64 (x6.1 + 1))] [] (by kernel_rfl) fun s hS => ?_)
 refine KW.nil ?_
 replace hS := hS.pull 3
 replace hS := hS.pull 3
 replace hS := hS.pull 2
 replace hS := hS.pull 3
 obtain rfl := Option.some.inj h25
 exact ⟨_, rfl, _, _, _, _, _, _, (hS.subR rfl), h204, h208⟩
 refine WW.condF hS rfl hc26 (WW.exit ?_)
 refine thenQ_exit ?_
 obtain rfl := Option.some.inj h25
 exact ⟨_, rfl, rfl, _, _, _, _, _, _, (hS.subR rfl), h9, h13⟩
 clear hS
 rcases o15 with y210 | y210
 rintro e s ⟨rfl, a211, z212, B214, a215, z216, B218, hS, h213, h217⟩
 replace h := match_inl h
 refine blockQ_exit (WW.seq ?_)
 refine WW.region (sg hS 2 [2, 3] [] [] [i5, i1] [B218, B214, [(i5, .row [strV y210.2.1, strV y210.2.2.1, .slice a211 y210.2.2.2.1.length z212, .slice a215 y210.2.2.2.2.1.length z216, .int .i64 y210.2.2.2.2.2] 73 0 true)], [(i1, .row [strV y210.2.1, strV y210.2.2.1, .slice a211 y210.2.2.2.1.length z212, .slice a215 y210.2.2.2.2.1.length z216, .int .i64 y210.2.2.2.2.2] 73 0 true)]] (by kernel_rfl) fun s hS => ?_)
 refine KW.nil (WW.ret ?_)
 have hres := (res_cell hS (t := 2) (ty := 73) rfl (p := 3) rfl tg73 tz73 (ws := [strV y210.2.1, strV y210.2.2.1, .slice a211 y210.2.2.2.1.length z212, .slice a215 y210.2.2.2.2.1.length z216, .int .i64 y210.2.2.2.2.2]) rfl (res_nil (E := EV) (s := s)))
 replace hS := (hS.pull 2).drop
 replace hS := (hS.pull 2).drop
 replace hS := hS.pull 1
 cases h
 exact fin hS (.inr rfl) hres (v := .agg #[strV y210.2.1, strV y210.2.2.1, .slice a211 y210.2.2.2.1.length z212, .slice a215 y210.2.2.2.2.1.length z216, .int .i64 y210.2.2.2.2.2]) rfl ⟨_, _, _, _, _, _, rfl, rfl, rfl, h213, h217⟩
 rintro e s ⟨rfl, hfin⟩
 replace h := match_inr h
 obtain rfl := Option.some.inj h
 exact hfin
noncomputable def g_2l.b1 (y4 : List UInt8 × List UInt8 × List Int × (List (Int × Int)) × Int) (x14 : List Bool × Int) (x37 : List Bool × Int) : Option ((List Bool × Int) ⊕ (List Bool × Int)) :=
  (if 0 ≤ x14.2 ∧ x14.2 < (y4.2.2.2.1.length : Int) then (if (decide (x37.2 < ((gt y4.2.2.2.1 x14.2).2))) then (if 0 ≤ x37.2 ∧ x37.2 < (x37.1.length : Int) then some (.inl ((setI x37.1 x37.2 (true : Bool)), (w64 (x37.2 + 1)))) else none) else some (.inr (x37.1, x37.2))) else none)
noncomputable def g_2l.b0 (y4 : List UInt8 × List UInt8 × List Int × (List (Int × Int)) × Int) (x14 : List Bool × Int) : Option ((List Bool × Int) ⊕ (List Bool × Int)) :=
  (if (decide (x14.2 < (y4.2.2.2.1.length : Int))) then (if 0 ≤ x14.2 ∧ x14.2 < (y4.2.2.2.1.length : Int) then Option.bind (iter (g_2l.b1 y4 x14) (x14.1, ((gt y4.2.2.2.1 x14.2).1))) fun o42 => some (.inl (o42.1, (w64 (x14.2 + 1)))) else none) else some (.inr (x14.1, x14.2)))
noncomputable def g_2l.f (pA : List UInt8) : Option (List Bool) :=
  (if 0 ≤ (pA.length : Int) ∧ (pA.length : Int) < 1000000000 then Option.bind (g_2c.f pA) fun y4 => Option.bind (iter (g_2l.b0 y4) ((List.replicate ((pA.length : Int)).toNat (false : Bool)), 0)) fun o19 => some o19.1 else none)
theorem g_2l.ok {pA : List UInt8} {F : FZ} {r : List Bool} (h : g_2l.f pA = some r) :
    Cl EV 73 [strV pA] [] F (fun v S' F' => ∃ (ra1 : Option Addr) (rz2 : Nat) (rB4 : Seg), F = F' ∧ v = .slice ra1 r.length rz2 ∧ S' = [rB4] ∧ Own (elBool 4) F' ra1 rz2 r rB4) := by
 refine Cl.of Tryz.func73 rfl (fun _ _ => rfl) (by kernel_rfl) fun s L nx0 hS => ?_
 unfold g_2l.f at h
 refine WW.seq (WW.region ?_)
 refine sg0 hS 1 [] [2] [.slice none 0 0] [] (by kernel_rfl) fun s hS => (KW.nil ?_)
 refine WW.seq (WW.region ?_)
 refine sg0 hS 2 [] [8] [.int .i64 (pA.length : Int)] [] (by kernel_rfl) fun s hS => ?_
 obtain ⟨hk1, h⟩ := ite_some h
 refine q_nw hS (wn rfl) rfl rfl rfl (v := fun i => .slice (some ⟨i, 0, none⟩) (List.replicate ((pA.length : Int)).toNat (false : Bool)).length 1) (b := .row (repL [.bool false] ((pA.length : Int)).toNat) 4 1 true) (aop_mks (x0 := (false : Bool)) (hS.lk rfl) (hS.lk rfl) tu49 ti4 t0_4 rfl (by decide) hk1) fun s i2 hS => ?_
 have hC3 : Cells (elBool 4) F (List.replicate ((pA.length : Int)).toNat (false : Bool)) (repL [.bool false] ((pA.length : Int)).toNat) := Cells.rep rfl _
 refine sg0 hS 1 [] [3] [.slice (some ⟨i2, 0, none⟩) (List.replicate ((pA.length : Int)).toNat (false : Bool)).length 1] [] (by kernel_rfl) fun s hS => (KW.nil ?_)
 refine WW.seq (WW.region ?_)
 obtain ⟨y4, hy4, h⟩ := bind_some h
 refine cK (g_2c.ok hy4) hS 1 11 0 rfl (by kernel_rfl) fun s v S' F' hp5 hF hS => ?_
 obtain ⟨a6, z7, B9, a10, z11, B13, rfl, rfl, rfl, h8, h12⟩ := hp5
 refine sg0 hS 2 [] [4] [.slice a10 y4.2.2.2.1.length z11] [] (by kernel_rfl) fun s hS => (KW.nil ?_)
 refine WW.seq (WW.seq ?_)
 refine WW.region (sg0 hS 1 [] [5] [.int .i64 0] [] (by kernel_rfl) fun s hS => ?_)
 refine KW.nil (WW.block ?_)
 obtain ⟨o19, ho19, h⟩ := bind_some h
 refine WW.loop (LW.iterE ho19 (fun (x14 : List Bool × Int) s => ∃ (a15 : Option Addr) (z16 : Nat) (B18 : Seg), Stt EV s [(2, .slice none 0 0), (3, .slice a15 x14.1.length z16), (4, .slice a10 y4.2.2.2.1.length z11), (5, .int .i64 x14.2)] [B9, B13, B18] F L F nx0 ∧ Own (elBool 4) F a15 z16 x14.1 B18) 0 ⟨_, _, _, (hS.subR rfl), (Own.blk0 hC3)⟩ ?_ ?_)
 clear hS
 rintro x14 s ⟨a15, z16, B18, hS, h17⟩ o19' h25
 unfold g_2l.b0 at h25
 refine WW.seq (WW.seq ?_)
 refine WW.region (sg0 hS 4 [] [16] [.bool (decide (x14.2 < (y4.2.2.2.1.length : Int)))] [] (by kernel_rfl) fun s hS => ?_)
 refine KW.nil (bc h25 (fun hc26 h25 => ?_) fun hc26 h25 => ?_)
 refine WW.condK hS rfl hc26 (WW.skip ?_)
 refine WW.seq (WW.block ?_)
 refine WW.seq (WW.region ?_)
 refine sg0 hS 2 [] [19, 20] [.slice a10 y4.2.2.2.1.length z11, .int .i64 x14.2] [] (by kernel_rfl) fun s hS => ?_
 obtain ⟨hk27, h25⟩ := ite_some h25
 obtain ⟨i33, cs34, ex35, rfl, rfl, rfl, hC36⟩ := Own.some_ h12 (by omega)
 obtain ⟨c28, hR29, hN31, hN30, hT32⟩ := Cells.loadF hC36 ex35 hk27 (z := 2) rfl
 obtain rfl := hR29
 refine q_pu hS (wn rfl) rfl rfl rfl (v := .pointer (some ⟨i33, 0 + (x14.2).toNat * 2, none⟩)) (aop_ia (hS.lk rfl) (hS.lk rfl) te46 hk27) fun s hS => (q_pu hS (wn rfl) rfl rfl rfl (v := .pointer (some ⟨i33, 0 + (x14.2).toNat * 2 + 0, none⟩)) (aop_iaA (hS.lk rfl) (hS.lk rfl) ty50 (by decide) rfl) fun s hS => ?_)
 refine q_ld hS (wn rfl) rfl rfl rfl (hS.at (k := 1) rfl) tg3 (v := .int .i64 ((gt y4.2.2.2.1 x14.2).1)) (hN31 0 (by decide)) fun s hS => (sg0 hS 1 [] [6] [.int .i64 ((gt y4.2.2.2.1 x14.2).1)] [] (by kernel_rfl) fun s hS => ?_)
 refine KW.nil (WW.block ?_)
 obtain ⟨o42, ho42, h25⟩ := bind_some h25
 refine WW.loop (LW.iterE ho42 (fun (x37 : List Bool × Int) s => ∃ (a38 : Option Addr) (z39 : Nat) (B41 : Seg), Stt EV s [(2, .slice none 0 0), (3, .slice a38 x37.1.length z39), (4, .slice (some ⟨i33, 0, none⟩) y4.2.2.2.1.length 2), (5, .int .i64 x14.2), (6, .int .i64 x37.2)] [B9, [(i33, .row (cs34 ++ ex35) 50 2 true)], B41] F L F nx0 ∧ Own (elBool 4) F a38 z39 x37.1 B41) 2 ⟨_, _, _, (hS.subR rfl), h17⟩ ?_ ?_)
 clear hS
 rintro x37 s ⟨a38, z39, B41, hS, h40⟩ o42' h48
 unfold g_2l.b1 at h48
 refine WW.seq (WW.seq ?_)
 refine WW.region (sg0 hS 3 [] [24, 25, 26] [.int .i64 x37.2, .slice (some ⟨i33, 0, none⟩) y4.2.2.2.1.length 2, .int .i64 x14.2] [] (by kernel_rfl) fun s hS => ?_)
 obtain ⟨hk49, h48⟩ := ite_some h48
 obtain ⟨c50, hR51, hN53, hN52, hT54⟩ := Cells.loadF hC36 ex35 hk49 (z := 2) rfl
 obtain rfl := hR51
 refine q_pu hS (wn rfl) rfl rfl rfl (v := .pointer (some ⟨i33, 0 + (x14.2).toNat * 2, none⟩)) (aop_ia (hS.lk rfl) (hS.lk rfl) te46 hk49) fun s hS => (q_pu hS (wn rfl) rfl rfl rfl (v := .pointer (some ⟨i33, 0 + (x14.2).toNat * 2 + 1, none⟩)) (aop_iaA (hS.lk rfl) (hS.lk rfl) ty50 (by decide) rfl) fun s hS => ?_)
 refine q_ld hS (wn rfl) rfl rfl rfl (hS.at (k := 1) rfl) tg3 (v := .int .i64 ((gt y4.2.2.2.1 x14.2).2)) (hN53 1 (by decide)) fun s hS => (sg0 hS 1 [] [30] [.bool (decide (x37.2 < ((gt y4.2.2.2.1 x14.2).2)))] [] (by kernel_rfl) fun s hS => ?_)
 refine KW.nil (bc h48 (fun hc55 h48 => ?_) fun hc55 h48 => ?_)
 refine WW.condK hS rfl hc55 (WW.skip ?_)
 refine WW.seq (WW.block ?_)
 refine WW.region (sg0 hS 2 [] [33, 34] [.slice a38 x37.1.length z39, .int .i64 x37.2] [] (by kernel_rfl) fun s hS => ?_)
 obtain ⟨hk56, h48⟩ := ite_some h48
 obtain ⟨i62, cs63, ex64, rfl, rfl, rfl, hC65⟩ := Own.some_ h40 (by omega)
 obtain ⟨c57, hR58, hN60, hN59, hT61⟩ := Cells.loadF hC65 ex64 hk56 (z := 1) rfl
 obtain rfl := hR58
 refine q_pu hS (wn rfl) rfl rfl rfl (v := .pointer (some ⟨i62, 0 + (x37.2).toNat * 1, none⟩)) (aop_ia (hS.lk rfl) (hS.lk rfl) te49 hk56) fun s hS => (q_sto hS (wn rfl) rfl rfl rfl rfl (p := 2) rfl tz4 (sto_ok hC65 ex64 hk56 rfl rfl rfl rfl) ((setCells cs63 (0 + (x37.2).toNat * 1) [.bool true]) ++ ex64) (sto_cs hC65 ex64 hk56 rfl rfl rfl) fun s hS => ?_)
 have hC66 : Cells (elBool 4) F (setI x37.1 x37.2 (true : Bool)) (setCells cs63 (0 + (x37.2).toNat * 1) [.bool true]) := Cells.set hC65 hk56 rfl rfl
 replace hS := hS.know (t := 3) (u' := .slice (some ⟨i62, 0, none⟩) (setI x37.1 x37.2 (true : Bool)).length 1) rfl (congrArg (fun n => Value.slice (some ⟨i62, 0, none⟩) n 1) (setI_len x37.1 x37.2 (true : Bool)).symm)
 replace hS := hS.know (t := 33) (u' := .slice (some ⟨i62, 0, none⟩) (setI x37.1 x37.2 (true : Bool)).length 1) rfl (congrArg (fun n => Value.slice (some ⟨i62, 0, none⟩) n 1) (setI_len x37.1 x37.2 (true : Bool)).symm)
 refine KW.nil (WW.region ?_)
 refine sg0 hS 3 [] [6] [.int .i64 (w64 (x37.2 + 1))] [] (by kernel_rfl) fun s hS => (KW.nil ?_)
 obtain rfl := Option.some.inj h48
 exact ⟨_, rfl, _, _, _, (hS.subR rfl), (Own.blk ex64 hC66)⟩
 refine WW.condF hS rfl hc55 (WW.exit ?_)
 refine thenQ_exit ?_
 obtain rfl := Option.some.inj h48
 exact ⟨_, rfl, rfl, _, _, _, (hS.subR rfl), h40⟩
 clear hS
 rintro e s ⟨rfl, a67, z68, B70, hS, h69⟩
 refine blockQ_exit (WW.region ?_)
 refine sg0 hS 3 [] [5] [.int .i64 (w64 (x14.2 + 1))] [] (by kernel_rfl) fun s hS => (KW.nil ?_)
 obtain rfl := Option.some.inj h25
 exact ⟨_, rfl, _, _, _, (hS.subR rfl), h69⟩
 refine WW.condF hS rfl hc26 (WW.exit ?_)
 refine thenQ_exit ?_
 obtain rfl := Option.some.inj h25
 exact ⟨_, rfl, rfl, _, _, _, (hS.subR rfl), h17⟩
 clear hS
 rintro e s ⟨rfl, a71, z72, B74, hS, h73⟩
 refine blockQ_exit (WW.seq ?_)
 refine WW.region (sg0 hS 2 [] [2] [.slice a71 o19.1.length z72] [] (by kernel_rfl) fun s hS => ?_)
 refine KW.nil (WW.ret ?_)
 replace hS := hS.drop
 replace hS := hS.drop
 cases h
 exact fin1 hS (.inr rfl) 2 rfl rfl ⟨_, _, _, rfl, rfl, rfl, h73⟩
noncomputable def g_2j.b0 (pA : List UInt8) (y1 : List UInt8 × List UInt8 × List Int × (List (Int × Int)) × Int) (x15 : Int) : Option ((Int) ⊕ (Int)) :=
  (if (decide (x15 < (pA.length : Int))) then (if (decide (x15 < (y1.1.length : Int))) then (if 0 ≤ x15 ∧ x15 < (pA.length : Int) then (if 0 ≤ x15 ∧ x15 < (y1.1.length : Int) then (if (((gt pA x15).toNat : Int) == ((gt y1.1 x15).toNat : Int)) then some (.inl (w64 (x15 + 1))) else some (.inr x15)) else none) else none) else some (.inr x15)) else some (.inr x15))
noncomputable def g_2j.b1 (pA : List UInt8) (y24 : List Bool) (x30 : List Int × Int) : Option ((List Int × Int) ⊕ ((List Int × Int) ⊕ (Int × Int))) :=
  (if (decide (x30.2 < (pA.length : Int))) then (if 0 ≤ x30.2 ∧ x30.2 < (y24.length : Int) then (if (gt y24 x30.2) then some (.inl (x30.1, (w64 (x30.2 + 1)))) else Option.bind ((if 0 ≤ x30.2 ∧ x30.2 < (pA.length : Int) then (if (((gt pA x30.2).toNat : Int) == ((40 : UInt8).toNat : Int)) then (if x30.1.length + ([x30.2] : List Int).length < 1000000000 then some (x30.1 ++ ([x30.2] : List Int)) else none) else some x30.1) else none)) fun z54 => (if 0 ≤ x30.2 ∧ x30.2 < (pA.length : Int) then (if (((gt pA x30.2).toNat : Int) == ((41 : UInt8).toNat : Int)) then (if ((z54.length : Int) == 0) then some (.inr (.inr (x30.2, 10))) else (if 0 ≤ (0 : Int) ∧ (0 : Int) ≤ (w64 ((z54.length : Int) - 1)) ∧ (w64 ((z54.length : Int) - 1)) ≤ (z54.length : Int) then some (.inl ((mid z54 (0 : Int) (w64 ((z54.length : Int) - 1))), (w64 (x30.2 + 1)))) else none)) else some (.inl (z54, (w64 (x30.2 + 1))))) else none)) else none) else some (.inr (.inl (x30.1, x30.2))))
noncomputable def g_2j.f (pA : List UInt8) : Option (Int × Int) :=
  Option.bind (g_2c.f pA) fun y1 => (if (y1.2.2.2.2 != 0) then some (0, y1.2.2.2.2) else (if (decide (pA = [])) then some (0, 17) else (if (!decide (y1.1 = pA)) then Option.bind (iter (g_2j.b0 pA y1) 0) fun o16 => some (o16, 3) else Option.bind (g_2l.f pA) fun y24 => Option.bind (iter (g_2j.b1 pA y24) (([] : List Int), 0)) fun o35 => onSum o35 fun y73 => (if (decide ((y73.1.length : Int) > 0)) then (if 0 ≤ (w64 ((y73.1.length : Int) - 1)) ∧ (w64 ((y73.1.length : Int) - 1)) < (y73.1.length : Int) then some ((gt y73.1 (w64 ((y73.1.length : Int) - 1))), 10) else none) else some (0, 0)))))
theorem g_2j.ok {pA : List UInt8} {F : FZ} {r : Int × Int} (h : g_2j.f pA = some r) :
    Cl EV 39 [strV pA] [] F (fun v S' F' => F = F' ∧ v = .tuple #[.int .i64 r.1, .int .i64 r.2] ∧ S' = []) := by
 refine Cl.of Tryz.func39 rfl (fun _ _ => rfl) (by kernel_rfl) fun s L nx0 hS => ?_
 unfold g_2j.f at h
 refine WW.seq (WW.region ?_)
 refine sg0 hS 2 [] [2, 3] [.int .i64 0, .int .i64 0] [] (by kernel_rfl) fun s hS => (KW.nil ?_)
 refine WW.seq (WW.region ?_)
 obtain ⟨y1, hy1, h⟩ := bind_some h
 refine cK (g_2c.ok hy1) hS 1 10 0 rfl (by kernel_rfl) fun s v S' F' hp2 hF hS => ?_
 obtain ⟨a3, z4, B6, a7, z8, B10, rfl, rfl, rfl, h5, h9⟩ := hp2
 refine q_nw hS (wn rfl) rfl rfl rfl (v := fun i => .pointer (some ⟨i, 0, none⟩)) (b := .row [strV ([]), strV ([]), .slice none 0 0, .slice none 0 0, .int .i64 0] 73 0 true) (aop_alloc t0_73) fun s i11 hS => (sg hS 1 [0] [] [] [i11] [[(i11, .row [strV y1.1, strV y1.2.1, .slice a3 y1.2.2.1.length z4, .slice a7 y1.2.2.2.1.length z8, .int .i64 y1.2.2.2.2] 73 0 true)], B6, B10] (by kernel_rfl) fun s hS => ?_)
 refine KW.nil (WW.seq ?_)
 refine WW.seq (WW.region ?_)
 refine sg0 hS 3 [0] [13] [.bool (y1.2.2.2.2 != 0)] [i11] (by kernel_rfl) fun s hS => (KW.nil ?_)
 refine bc h (fun hc12 h => ?_) fun hc12 h => ?_
 refine WW.condK hS rfl hc12 (WW.seq ?_)
 refine WW.regionD (i := [[], [], [1, 0], []]) (by kernel_rfl) ?_
 have hq := RS.start [i11]
 refine kg hS hq 1 [14] [.pointer (some ⟨i11, 4, none⟩)] (by kernel_rfl) fun s rs hS hq => (K.ld hS hq rfl (wn rfl) rfl rfl rfl (hS.at (k := 0) rfl) tg3 (v := .int .i64 y1.2.2.2.2) rfl 0 rfl rfl fun s rs hS hq => ?_)
 refine kg hS hq 2 [2, 3] [.int .i64 0, .int .i64 y1.2.2.2.2] (by kernel_rfl) fun s rs hS hq => (KW.nil ?_)
 refine WW.ret ?_
 replace hS := hS.drop
 replace hS := hS.drop
 replace hS := hS.drop
 cases h
 exact fin2 hS (.inr rfl) 2 3 rfl rfl rfl ⟨rfl, rfl, rfl⟩
 refine WW.condF hS rfl hc12 (WW.skip ?_)
 refine WW.seq (WW.seq ?_)
 refine WW.region (sg0 hS 1 [] [16] [strV pA] [] (by kernel_rfl) fun s hS => ?_)
 refine q_pu hS (wn rfl) rfl rfl rfl (v := .bool (decide (pA = []))) (aop_seq (hS.lk rfl) (hS.lk rfl)) fun s hS => (KW.nil ?_)
 refine bc h (fun hc13 h => ?_) fun hc13 h => ?_
 refine WW.condK hS rfl hc13 (WW.seq ?_)
 refine WW.region (sg0 hS 2 [] [2, 3] [.int .i64 0, .int .i64 17] [] (by kernel_rfl) fun s hS => ?_)
 refine KW.nil (WW.ret ?_)
 replace hS := hS.drop
 replace hS := hS.drop
 replace hS := hS.drop
 cases h
 exact fin2 hS (.inr rfl) 2 3 rfl rfl rfl ⟨rfl, rfl, rfl⟩
 refine WW.condF hS rfl hc13 (WW.skip ?_)
 refine WW.seq (WW.seq ?_)
 refine WW.region (sg0 hS 3 [0] [19, 20] [strV y1.1, strV pA] [i11] (by kernel_rfl) fun s hS => ?_)
 refine q_pu hS (wn rfl) rfl rfl rfl (v := .bool (!decide (y1.1 = pA))) (aop_sne (hS.lk rfl) (hS.lk rfl)) fun s hS => (KW.nil ?_)
 refine bc h (fun hc14 h => ?_) fun hc14 h => ?_
 refine WW.condK hS rfl hc14 (WW.seq ?_)
 refine WW.region (sg0 hS 1 [] [5] [.int .i64 0] [] (by kernel_rfl) fun s hS => ?_)
 refine KW.nil (WW.seq ?_)
 refine WW.block ?_
 obtain ⟨o16, ho16, h⟩ := bind_some h
 refine WW.loop (LW.iterE ho16 (fun (x15 : Int) s => Stt EV s [(0, strV pA), (2, .int .i64 0), (3, .int .i64 0), (4, .pointer (some ⟨i11, 0, none⟩)), (5, .int .i64 x15)] [[(i11, .row [strV y1.1, strV y1.2.1, .slice a3 y1.2.2.1.length z4, .slice a7 y1.2.2.2.1.length z8, .int .i64 y1.2.2.2.2] 73 0 true)], B6, B10] F L F nx0) 0 (hS.subR rfl) ?_ ?_)
 clear hS
 rintro x15 s hS o16' h18
 unfold g_2j.b0 at h18
 refine WW.seq (WW.seq ?_)
 refine WW.regionD (i := [[], [0], [0], [], [], [], [5], [5], [5], [], [], [], [], [12], [], [14, 13, 12], [14, 13, 12], [16, 15, 14, 13, 12], [14, 13, 12], [], []]) (by kernel_rfl) ?_
 have hq := RS.start [i11]
 refine kg hS hq 5 [26] [.bool (decide (x15 < (pA.length : Int)))] (by kernel_rfl) fun s rs hS hq => (bc h18 (fun hc19 h18 => ?_) fun hc19 h18 => ?_)
 replace hS := hS.kb 26 hc19 rfl
 refine kg hS hq 2 [27, 28] [.int .i64 x15, .pointer (some ⟨i11, 0, none⟩)] (by kernel_rfl) fun s rs hS hq => (K.ld hS hq rfl (wt hS rfl rfl rfl rfl) rfl rfl rfl (hS.at (k := 0) rfl) tg9 (v := strV y1.1) rfl 0 rfl rfl fun s rs hS hq => ?_)
 refine kg hS hq 4 [33] [.bool (decide (x15 < (y1.1.length : Int)))] (by kernel_rfl) fun s rs hS hq => (bc h18 (fun hc20 h18 => ?_) fun hc20 h18 => ?_)
 replace hS := hS.kb 33 hc20 rfl
 refine kg hS hq 2 [34, 35] [strV pA, .int .i64 x15] (by kernel_rfl) fun s rs hS hq => ?_
 obtain ⟨hk21, h18⟩ := ite_some h18
 refine K.pu hS hq rfl (wt hS rfl rfl rfl rfl) rfl rfl rfl (v := vB (gt pA x15)) (aop_idxS tu9 (hS.lk rfl) (hS.lk rfl) hk21) fun s rs hS hq => (kg hS hq 1 [37] [.pointer (some ⟨i11, 0, none⟩)] (by kernel_rfl) fun s rs hS hq => ?_)
 refine K.ld hS hq rfl (wt hS rfl rfl rfl rfl) rfl rfl rfl (hS.at (k := 0) rfl) tg9 (v := strV y1.1) rfl 0 rfl rfl fun s rs hS hq => (kg hS hq 1 [39] [.int .i64 x15] (by kernel_rfl) fun s rs hS hq => ?_)
 obtain ⟨hk22, h18⟩ := ite_some h18
 refine K.pu hS hq rfl (wt hS rfl rfl rfl rfl) rfl rfl rfl (v := vB (gt y1.1 x15)) (aop_idxS tu9 (hS.lk rfl) (hS.lk rfl) hk22) fun s rs hS hq => (kg hS hq 2 [42] [.bool (((gt pA x15).toNat : Int) == ((gt y1.1 x15).toNat : Int))] (by kernel_rfl) fun s rs hS hq => ?_)
 refine KW.nil (bc h18 (fun hc23 h18 => ?_) fun hc23 h18 => ?_)
 refine WW.condK hS rfl hc23 (WW.skip ?_)
 refine WW.block (WW.region ?_)
 refine sg0 hS 3 [] [5] [.int .i64 (w64 (x15 + 1))] [] (by kernel_rfl) fun s hS => (KW.nil ?_)
 obtain rfl := Option.some.inj h18
 exact ⟨_, rfl, (hS.subR rfl)⟩
 refine WW.condF hS rfl hc23 (WW.exit ?_)
 refine thenQ_exit ?_
 obtain rfl := Option.some.inj h18
 exact ⟨_, rfl, rfl, (hS.subR rfl)⟩
 replace hS := hS.kb 33 hc20 rfl
 refine kg hS hq 9 [42] [.bool false] (by kernel_rfl) fun s rs hS hq => (KW.nil ?_)
 refine WW.condF hS rfl rfl (WW.exit ?_)
 refine thenQ_exit ?_
 obtain rfl := Option.some.inj h18
 exact ⟨_, rfl, rfl, (hS.subR rfl)⟩
 replace hS := hS.kb 26 hc19 rfl
 refine kg hS hq 16 [42] [.bool false] (by kernel_rfl) fun s rs hS hq => (KW.nil ?_)
 refine WW.condF hS rfl rfl (WW.exit ?_)
 refine thenQ_exit ?_
 obtain rfl := Option.some.inj h18
 exact ⟨_, rfl, rfl, (hS.subR rfl)⟩
 clear hS
 rintro e s ⟨rfl, hS⟩
 refine blockQ_exit (WW.seq ?_)
 refine WW.region (sg0 hS 3 [] [2, 3] [.int .i64 o16, .int .i64 3] [] (by kernel_rfl) fun s hS => ?_)
 refine KW.nil (WW.ret ?_)
 replace hS := hS.drop
 replace hS := hS.drop
 replace hS := hS.drop
 cases h
 exact fin2 hS (.inr rfl) 2 3 rfl rfl rfl ⟨rfl, rfl, rfl⟩
 refine WW.condF hS rfl hc14 (WW.skip ?_)
 refine WW.seq (WW.region ?_)
 obtain ⟨y24, hy24, h⟩ := bind_some h
 refine cK (g_2l.ok hy24) hS 1 47 0 rfl (by kernel_rfl) fun s v S' F' hp25 hF hS => ?_
 obtain ⟨a26, z27, B29, rfl, rfl, rfl, h28⟩ := hp25
 refine sg0 hS 1 [] [6] [.slice a26 y24.length z27] [] (by kernel_rfl) fun s hS => (KW.nil ?_)
 refine WW.seq (WW.region ?_)
 refine sg0 hS 1 [] [7] [.slice none 0 0] [] (by kernel_rfl) fun s hS => (KW.nil ?_)
 refine WW.seq (WW.seq ?_)
 refine WW.region (sg0 hS 1 [] [8] [.int .i64 0] [] (by kernel_rfl) fun s hS => ?_)
 refine KW.nil (WW.block ?_)
 replace hS := hS.gap0
 obtain ⟨o35, ho35, h⟩ := bind_some h
 refine WW.loop (LW.iterS ho35 (fun (x30 : List Int × Int) s => ∃ (a31 : Option Addr) (z32 : Nat) (B34 : Seg), Stt EV s [(0, strV pA), (2, .int .i64 0), (3, .int .i64 0), (6, .slice a26 y24.length z27), (7, .slice a31 x30.1.length z32), (8, .int .i64 x30.2)] [B34, B29, [(i11, .row [strV y1.1, strV y1.2.1, .slice a3 y1.2.2.1.length z4, .slice a7 y1.2.2.2.1.length z8, .int .i64 y1.2.2.2.2] 73 0 true)], B6, B10] F L F nx0 ∧ Own (elI .i64 3) F a31 z32 x30.1 B34) 2 (fun r => FinQ EV Tryz.f39 L F nx0 (fun v S' F' => F = F' ∧ v = .tuple #[.int .i64 r.1, .int .i64 r.2] ∧ S' = [])) ⟨_, _, _, (hS.subR rfl), Own.nil⟩ ?_ ?_)
 clear hS
 rintro x30 s ⟨a31, z32, B34, hS, h33⟩ o35' h41
 unfold g_2j.b1 at h41
 refine WW.seq (WW.seq ?_)
 refine WW.region (sg0 hS 4 [] [51] [.bool (decide (x30.2 < (pA.length : Int)))] [] (by kernel_rfl) fun s hS => ?_)
 refine KW.nil (bc h41 (fun hc42 h41 => ?_) fun hc42 h41 => ?_)
 refine WW.condK hS rfl hc42 (WW.skip ?_)
 refine WW.seq (WW.block ?_)
 refine WW.seq (WW.seq ?_)
 refine WW.region (sg0 hS 2 [] [54, 55] [.slice a26 y24.length z27, .int .i64 x30.2] [] (by kernel_rfl) fun s hS => ?_)
 obtain ⟨hk43, h41⟩ := ite_some h41
 obtain ⟨i49, cs50, ex51, rfl, rfl, rfl, hC52⟩ := Own.some_ h28 (by omega)
 obtain ⟨c44, hR45, hN47, hN46, hT48⟩ := Cells.loadF hC52 ex51 hk43 (z := 1) rfl
 obtain rfl := hR45
 refine q_pu hS (wn rfl) rfl rfl rfl (v := .pointer (some ⟨i49, 0 + (x30.2).toNat * 1, none⟩)) (aop_ia (hS.lk rfl) (hS.lk rfl) te49 hk43) fun s hS => (q_ld hS (wn rfl) rfl rfl rfl (hS.at (k := 1) rfl) tg4 (v := .bool (gt y24 x30.2)) hN46 fun s hS => ?_)
 refine KW.nil (bc h41 (fun hc53 h41 => ?_) fun hc53 h41 => ?_)
 refine WW.condK hS rfl hc53 (WW.exit ?_)
 refine thenQ_exit (blockQ_exit ?_)
 refine WW.region (sg0 hS 3 [] [8] [.int .i64 (w64 (x30.2 + 1))] [] (by kernel_rfl) fun s hS => ?_)
 refine KW.nil ?_
 obtain rfl := Option.some.inj h41
 exact ⟨_, rfl, _, _, _, (hS.subR rfl), h33⟩
 refine WW.condF hS rfl hc53 (WW.skip ?_)
 obtain ⟨z54, hz54, h41⟩ := bind_some h41
 refine WW.seqJ (fun s => ∃ (a55 : Option Addr) (z56 : Nat) (B58 : Seg), Stt EV s [(0, strV pA), (2, .int .i64 0), (3, .int .i64 0), (6, .slice (some ⟨i49, 0, none⟩) y24.length 1), (7, .slice a55 z54.length z56), (8, .int .i64 x30.2)] [B58, [(i49, .row (cs50 ++ ex51) 4 1 true)], [(i11, .row [strV y1.1, strV y1.2.1, .slice a3 y1.2.2.1.length z4, .slice a7 y1.2.2.2.1.length z8, .int .i64 y1.2.2.2.2] 73 0 true)], B6, B10] F L F nx0 ∧ Own (elI .i64 3) F a55 z56 z54 B58) ?_ ?_
 refine WW.seq (WW.region ?_)
 refine sg0 hS 2 [] [58, 59] [strV pA, .int .i64 x30.2] [] (by kernel_rfl) fun s hS => ?_
 obtain ⟨hk59, hz54⟩ := ite_some hz54
 refine q_pu hS (wn rfl) rfl rfl rfl (v := vB (gt pA x30.2)) (aop_idxS tu9 (hS.lk rfl) (hS.lk rfl) hk59) fun s hS => (sg0 hS 1 [] [61] [.bool (((gt pA x30.2).toNat : Int) == ((40 : UInt8).toNat : Int))] [] (by kernel_rfl) fun s hS => ?_)
 refine KW.nil (bc hz54 (fun hc60 hz54 => ?_) fun hc60 hz54 => ?_)
 refine WW.condK hS rfl hc60 (WW.region ?_)
 refine sg0 hS 2 [] [62, 63] [.slice a31 x30.1.length z32, .int .i64 x30.2] [] (by kernel_rfl) fun s hS => (q_nw hS (wn rfl) rfl rfl rfl (v := fun i => .slice (some ⟨i, 0, none⟩) 1 1) (b := .row [.int .i64 x30.2] 3 1 true) (aop_bsl tu22 tz3 t0_3 rfl [(0, .int .i64 x30.2)] (parts_eq hS rfl) rfl) fun s i61 hS => ?_)
 have hC62 : Cells (elI .i64 3) F ([x30.2] : List Int) [.int .i64 x30.2] := ⟨[.int .i64 x30.2], [], rfl, rfl, rfl⟩
 obtain ⟨hk66, hz54⟩ := ite_some hz54
 refine q_app hS (wn rfl) (dd := (elI .i64 3)) (lst := x30.1) (m := ([x30.2] : List Int)) rfl rfl ta22_22 rfl rfl h33 (Nat.succ_pos _) hC62 hk66 fun s i63 cs64 hC65 hS => (sg0 hS 1 [] [7] [.slice (some ⟨i63, 0, none⟩) (x30.1 ++ ([x30.2] : List Int)).length 1] [] (by kernel_rfl) fun s hS => ?_)
 refine KW.nil ?_
 obtain rfl := Option.some.inj hz54
 exact ⟨_, _, _, (hS.subR rfl), (Own.blk0 hC65)⟩
 refine WW.condF hS rfl hc60 (WW.skip ?_)
 obtain rfl := Option.some.inj hz54
 exact ⟨_, _, _, (hS.subR rfl), h33⟩
 rintro s ⟨a55, z56, B58, hS, h57⟩
 refine WW.seq (WW.region ?_)
 refine sg0 hS 2 [] [66, 67] [strV pA, .int .i64 x30.2] [] (by kernel_rfl) fun s hS => ?_
 obtain ⟨hk67, h41⟩ := ite_some h41
 refine q_pu hS (wn rfl) rfl rfl rfl (v := vB (gt pA x30.2)) (aop_idxS tu9 (hS.lk rfl) (hS.lk rfl) hk67) fun s hS => (sg0 hS 1 [] [69] [.bool (((gt pA x30.2).toNat : Int) == ((41 : UInt8).toNat : Int))] [] (by kernel_rfl) fun s hS => ?_)
 refine KW.nil (bc h41 (fun hc68 h41 => ?_) fun hc68 h41 => ?_)
 refine WW.condK hS rfl hc68 (WW.seq ?_)
 refine WW.seq (WW.region ?_)
 refine sg0 hS 3 [] [72] [.bool ((z54.length : Int) == 0)] [] (by kernel_rfl) fun s hS => (KW.nil ?_)
 refine bc h41 (fun hc69 h41 => ?_) fun hc69 h41 => ?_
 refine WW.condK hS rfl hc69 (WW.seq ?_)
 refine WW.region (sg0 hS 3 [] [2, 3] [.int .i64 x30.2, .int .i64 10] [] (by kernel_rfl) fun s hS => ?_)
 refine KW.nil (WW.ret ?_)
 replace hS := hS.drop
 replace hS := hS.drop
 replace hS := hS.drop
 replace hS := hS.drop
 replace hS := hS.drop
 cases h41
 exact ⟨_, rfl, rfl, fin2 hS (.inr rfl) 2 3 rfl rfl rfl ⟨rfl, rfl, rfl⟩⟩
 refine WW.condF hS rfl hc69 (WW.skip ?_)
 refine WW.region (sg0 hS 4 [] [74, 77] [.slice a55 z54.length z56, .int .i64 (w64 ((z54.length : Int) - 1))] [] (by kernel_rfl) fun s hS => ?_)
 obtain ⟨hk70, h41⟩ := ite_some h41
 obtain ⟨he71, hz72⟩ := Own.pre h57 hk70 (m := 1) rfl
 refine q_pu hS (wn rfl) rfl rfl rfl (v := .slice a55 (mid z54 (0 : Int) (w64 ((z54.length : Int) - 1))).length z56) (aop_slSl te22 (hS.lk rfl) (i := (0 : Int)) (h := (w64 ((z54.length : Int) - 1))) rfl (bnd_eq hS rfl) he71) fun s hS => (sg0 hS 1 [] [7] [.slice a55 (mid z54 (0 : Int) (w64 ((z54.length : Int) - 1))).length z56] [] (by kernel_rfl) fun s hS => ?_)
 refine KW.nil (WW.region ?_)
 refine sg0 hS 3 [] [8] [.int .i64 (w64 (x30.2 + 1))] [] (by kernel_rfl) fun s hS => (KW.nil ?_)
 obtain rfl := Option.some.inj h41
 exact ⟨_, rfl, _, _, _, (hS.subR rfl), hz72⟩
 refine WW.condF hS rfl hc68 (WW.skip ?_)
 refine WW.region (sg0 hS 3 [] [8] [.int .i64 (w64 (x30.2 + 1))] [] (by kernel_rfl) fun s hS => ?_)
 refine KW.nil ?_
 obtain rfl := Option.some.inj h41
 exact ⟨_, rfl, _, _, _, (hS.subR rfl), h57⟩
 refine WW.condF hS rfl hc42 (WW.exit ?_)
 refine thenQ_exit ?_
 obtain rfl := Option.some.inj h41
 exact ⟨_, rfl, rfl, _, _, _, (hS.subR rfl), h33⟩
 clear hS
 rcases o35 with y73 | y73
 rintro e s ⟨rfl, a74, z75, B77, hS, h76⟩
 replace h := match_inl h
 refine blockQ_exit (WW.seq ?_)
 refine WW.seq (WW.region ?_)
 refine sg0 hS 3 [] [81] [.bool (decide ((y73.1.length : Int) > 0))] [] (by kernel_rfl) fun s hS => (KW.nil ?_)
 refine bc h (fun hc78 h => ?_) fun hc78 h => ?_
 refine WW.condK hS rfl hc78 (WW.seq ?_)
 refine WW.region (sg0 hS 4 [] [82, 85] [.slice a74 y73.1.length z75, .int .i64 (w64 ((y73.1.length : Int) - 1))] [] (by kernel_rfl) fun s hS => ?_)
 obtain ⟨hk79, h⟩ := ite_some h
 obtain ⟨i85, cs86, ex87, rfl, rfl, rfl, hC88⟩ := Own.some_ h76 (by omega)
 obtain ⟨c80, hR81, hN83, hN82, hT84⟩ := Cells.loadF hC88 ex87 hk79 (z := 1) rfl
 obtain rfl := hR81
 refine q_pu hS (wn rfl) rfl rfl rfl (v := .pointer (some ⟨i85, 0 + ((w64 ((y73.1.length : Int) - 1))).toNat * 1, none⟩)) (aop_ia (hS.lk rfl) (hS.lk rfl) te22 hk79) fun s hS => (q_ld hS (wn rfl) rfl rfl rfl (hS.at (k := 0) rfl) tg3 (v := .int .i64 (gt y73.1 (w64 ((y73.1.length : Int) - 1)))) hN82 fun s hS => ?_)
 refine sg0 hS 2 [] [2, 3] [.int .i64 (gt y73.1 (w64 ((y73.1.length : Int) - 1))), .int .i64 10] [] (by kernel_rfl) fun s hS => (KW.nil ?_)
 refine WW.ret ?_
 replace hS := hS.drop
 replace hS := hS.drop
 replace hS := hS.drop
 replace hS := hS.drop
 replace hS := hS.drop
 cases h
 exact fin2 hS (.inr rfl) 2 3 rfl rfl rfl ⟨rfl, rfl, rfl⟩
 refine WW.condF hS rfl hc78 (WW.skip ?_)
 refine WW.seq (WW.region ?_)
 refine sg0 hS 2 [] [2, 3] [.int .i64 0, .int .i64 0] [] (by kernel_rfl) fun s hS => (KW.nil ?_)
 refine WW.ret ?_
 replace hS := hS.drop
 replace hS := hS.drop
 replace hS := hS.drop
 replace hS := hS.drop
 replace hS := hS.drop
 cases h
 exact fin2 hS (.inr rfl) 2 3 rfl rfl rfl ⟨rfl, rfl, rfl⟩
 rintro e s ⟨rfl, hfin⟩
 replace h := match_inr h
 obtain rfl := Option.some.inj h
 exact hfin
noncomputable def g_2k.b0 (pA : List UInt8) (y1 : List Bool) (x7 : List Int × Int × Int) : Option ((List Int × Int × Int) ⊕ (List Int × Int × Int)) :=
  (if (decide (x7.2.2 < (pA.length : Int))) then Option.bind ((if 0 ≤ x7.2.2 ∧ x7.2.2 < (y1.length : Int) then (if (gt y1 x7.2.2) then (if x7.1.length + ([(-1)] : List Int).length < 1000000000 then some ((x7.1 ++ ([(-1)] : List Int)), x7.2.1) else none) else Option.bind ((if 0 ≤ x7.2.2 ∧ x7.2.2 < (pA.length : Int) then (if (((gt pA x7.2.2).toNat : Int) == ((41 : UInt8).toNat : Int)) then some (w64 (x7.2.1 - 1)) else some x7.2.1) else none)) fun z42 => (if x7.1.length + ([z42] : List Int).length < 1000000000 then (if 0 ≤ x7.2.2 ∧ x7.2.2 < (pA.length : Int) then (if (((gt pA x7.2.2).toNat : Int) == ((40 : UInt8).toNat : Int)) then some ((x7.1 ++ ([z42] : List Int)), (w64 (z42 + 1))) else some ((x7.1 ++ ([z42] : List Int)), z42)) else none) else none)) else none)) fun z20 => some (.inl (z20.1, z20.2, (w64 (x7.2.2 + 1)))) else some (.inr (x7.1, x7.2.1, x7.2.2)))
noncomputable def g_2k.f (pA : List UInt8) : Option (List Int) :=
  Option.bind (g_2l.f pA) fun y1 => Option.bind (iter (g_2k.b0 pA y1) (([] : List Int), 0, 0)) fun o12 => some o12.1
theorem g_2k.ok {pA : List UInt8} {F : FZ} {r : List Int} (h : g_2k.f pA = some r) :
    Cl EV 40 [strV pA] [] F (fun v S' F' => ∃ (ra1 : Option Addr) (rz2 : Nat) (rB4 : Seg), F = F' ∧ v = .slice ra1 r.length rz2 ∧ S' = [rB4] ∧ Own (elI .i64 3) F' ra1 rz2 r rB4) := by
 refine Cl.of Tryz.func40 rfl (fun _ _ => rfl) (by kernel_rfl) fun s L nx0 hS => ?_
 unfold g_2k.f at h
 refine WW.seq (WW.region ?_)
 refine sg0 hS 1 [] [2] [.slice none 0 0] [] (by kernel_rfl) fun s hS => (KW.nil ?_)
 refine WW.seq (WW.region ?_)
 refine sg0 hS 1 [] [3] [.slice none 0 0] [] (by kernel_rfl) fun s hS => (KW.nil ?_)
 refine WW.seq (WW.region ?_)
 obtain ⟨y1, hy1, h⟩ := bind_some h
 refine cK (g_2l.ok hy1) hS 1 8 0 rfl (by kernel_rfl) fun s v S' F' hp2 hF hS => ?_
 obtain ⟨a3, z4, B6, rfl, rfl, rfl, h5⟩ := hp2
 refine sg0 hS 1 [] [4] [.slice a3 y1.length z4] [] (by kernel_rfl) fun s hS => (KW.nil ?_)
 refine WW.seq (WW.region ?_)
 refine sg0 hS 1 [] [5] [.int .i64 0] [] (by kernel_rfl) fun s hS => (KW.nil ?_)
 refine WW.seq (WW.seq ?_)
 refine WW.region (sg0 hS 1 [] [6] [.int .i64 0] [] (by kernel_rfl) fun s hS => ?_)
 refine KW.nil (WW.block ?_)
 replace hS := hS.gap0
 obtain ⟨o12, ho12, h⟩ := bind_some h
 refine WW.loop (LW.iterE ho12 (fun (x7 : List Int × Int × Int) s => ∃ (a8 : Option Addr) (z9 : Nat) (B11 : Seg), Stt EV s [(0, strV pA), (2, .slice none 0 0), (3, .slice a8 x7.1.length z9), (4, .slice a3 y1.length z4), (5, .int .i64 x7.2.1), (6, .int .i64 x7.2.2)] [B11, B6] F L F nx0 ∧ Own (elI .i64 3) F a8 z9 x7.1 B11) 0 ⟨_, _, _, (hS.subR rfl), Own.nil⟩ ?_ ?_)
 clear hS
 rintro x7 s ⟨a8, z9, B11, hS, h10⟩ o12' h18
 unfold g_2k.b0 at h18
 refine WW.seq (WW.seq ?_)
 refine WW.region (sg0 hS 4 [] [12] [.bool (decide (x7.2.2 < (pA.length : Int)))] [] (by kernel_rfl) fun s hS => ?_)
 refine KW.nil (bc h18 (fun hc19 h18 => ?_) fun hc19 h18 => ?_)
 refine WW.condK hS rfl hc19 (WW.skip ?_)
 obtain ⟨z20, hz20, h18⟩ := bind_some h18
 refine WW.seqJ (fun s => ∃ (a21 : Option Addr) (z22 : Nat) (B24 : Seg), Stt EV s [(0, strV pA), (2, .slice none 0 0), (3, .slice a21 z20.1.length z22), (4, .slice a3 y1.length z4), (5, .int .i64 z20.2), (6, .int .i64 x7.2.2)] [B24, B6] F L F nx0 ∧ Own (elI .i64 3) F a21 z22 z20.1 B24) ?_ ?_
 refine WW.block (WW.seq ?_)
 refine WW.seq (WW.region ?_)
 refine sg0 hS 2 [] [15, 16] [.slice a3 y1.length z4, .int .i64 x7.2.2] [] (by kernel_rfl) fun s hS => ?_
 obtain ⟨hk25, hz20⟩ := ite_some hz20
 obtain ⟨i31, cs32, ex33, rfl, rfl, rfl, hC34⟩ := Own.some_ h5 (by omega)
 obtain ⟨c26, hR27, hN29, hN28, hT30⟩ := Cells.loadF hC34 ex33 hk25 (z := 1) rfl
 obtain rfl := hR27
 refine q_pu hS (wn rfl) rfl rfl rfl (v := .pointer (some ⟨i31, 0 + (x7.2.2).toNat * 1, none⟩)) (aop_ia (hS.lk rfl) (hS.lk rfl) te49 hk25) fun s hS => (q_ld hS (wn rfl) rfl rfl rfl (hS.at (k := 1) rfl) tg4 (v := .bool (gt y1 x7.2.2)) hN28 fun s hS => ?_)
 refine KW.nil (bc hz20 (fun hc35 hz20 => ?_) fun hc35 hz20 => ?_)
 refine WW.condK hS rfl hc35 (WW.seq ?_)
 refine WW.region (sg0 hS 1 [] [19] [.slice a8 x7.1.length z9] [] (by kernel_rfl) fun s hS => ?_)
 refine q_nw hS (wn rfl) rfl rfl rfl (v := fun i => .slice (some ⟨i, 0, none⟩) 1 1) (b := .row [.int .i64 (-1)] 3 1 true) (aop_bsl tu22 tz3 t0_3 rfl [(0, .int .i64 (-1))] (parts_eq hS rfl) rfl) fun s i36 hS => ?_
 have hC37 : Cells (elI .i64 3) F ([(-1)] : List Int) [.int .i64 (-1)] := ⟨[.int .i64 (-1)], [], rfl, rfl, rfl⟩
 obtain ⟨hk41, hz20⟩ := ite_some hz20
 refine q_app hS (wn rfl) (dd := (elI .i64 3)) (lst := x7.1) (m := ([(-1)] : List Int)) rfl rfl ta22_22 rfl rfl h10 (Nat.succ_pos _) hC37 hk41 fun s i38 cs39 hC40 hS => (sg0 hS 1 [] [3] [.slice (some ⟨i38, 0, none⟩) (x7.1 ++ ([(-1)] : List Int)).length 1] [] (by kernel_rfl) fun s hS => ?_)
 refine KW.nil (WW.exit ?_)
 refine thenQ_exit (blockQ_exit ?_)
 obtain rfl := Option.some.inj hz20
 exact ⟨_, _, _, (hS.subR rfl), (Own.blk0 hC40)⟩
 refine WW.condF hS rfl hc35 (WW.skip ?_)
 obtain ⟨z42, hz42, hz20⟩ := bind_some hz20
 refine WW.seqJ (fun s => Stt EV s [(0, strV pA), (2, .slice none 0 0), (3, .slice a8 x7.1.length z9), (4, .slice (some ⟨i31, 0, none⟩) y1.length 1), (5, .int .i64 z42), (6, .int .i64 x7.2.2)] [B11, [(i31, .row (cs32 ++ ex33) 4 1 true)]] F L F nx0) ?_ ?_
 refine WW.seq (WW.region ?_)
 refine sg0 hS 2 [] [22, 23] [strV pA, .int .i64 x7.2.2] [] (by kernel_rfl) fun s hS => ?_
 obtain ⟨hk43, hz42⟩ := ite_some hz42
 refine q_pu hS (wn rfl) rfl rfl rfl (v := vB (gt pA x7.2.2)) (aop_idxS tu9 (hS.lk rfl) (hS.lk rfl) hk43) fun s hS => (sg0 hS 1 [] [25] [.bool (((gt pA x7.2.2).toNat : Int) == ((41 : UInt8).toNat : Int))] [] (by kernel_rfl) fun s hS => ?_)
 refine KW.nil (bc hz42 (fun hc44 hz42 => ?_) fun hc44 hz42 => ?_)
 refine WW.condK hS rfl hc44 (WW.region ?_)
 refine sg0 hS 3 [] [5] [.int .i64 (w64 (x7.2.1 - 1))] [] (by kernel_rfl) fun s hS => (KW.nil ?_)
 obtain rfl := Option.some.inj hz42
 exact (hS.subR rfl)
 refine WW.condF hS rfl hc44 (WW.skip ?_)
 obtain rfl := Option.some.inj hz42
 exact (hS.subR rfl)
 rintro s hS
 refine WW.seq (WW.region ?_)
 refine sg0 hS 2 [] [28, 29] [.slice a8 x7.1.length z9, .int .i64 z42] [] (by kernel_rfl) fun s hS => (q_nw hS (wn rfl) rfl rfl rfl (v := fun i => .slice (some ⟨i, 0, none⟩) 1 1) (b := .row [.int .i64 z42] 3 1 true) (aop_bsl tu22 tz3 t0_3 rfl [(0, .int .i64 z42)] (parts_eq hS rfl) rfl) fun s i45 hS => ?_)
 have hC46 : Cells (elI .i64 3) F ([z42] : List Int) [.int .i64 z42] := ⟨[.int .i64 z42], [], rfl, rfl, rfl⟩
 obtain ⟨hk50, hz20⟩ := ite_some hz20
 refine q_app hS (wn rfl) (dd := (elI .i64 3)) (lst := x7.1) (m := ([z42] : List Int)) rfl rfl ta22_22 rfl rfl h10 (Nat.succ_pos _) hC46 hk50 fun s i47 cs48 hC49 hS => (sg0 hS 1 [] [3] [.slice (some ⟨i47, 0, none⟩) (x7.1 ++ ([z42] : List Int)).length 1] [] (by kernel_rfl) fun s hS => ?_)
 refine KW.nil (WW.seq ?_)
 refine WW.region (sg0 hS 2 [] [32, 33] [strV pA, .int .i64 x7.2.2] [] (by kernel_rfl) fun s hS => ?_)
 obtain ⟨hk51, hz20⟩ := ite_some hz20
 refine q_pu hS (wn rfl) rfl rfl rfl (v := vB (gt pA x7.2.2)) (aop_idxS tu9 (hS.lk rfl) (hS.lk rfl) hk51) fun s hS => (sg0 hS 1 [] [35] [.bool (((gt pA x7.2.2).toNat : Int) == ((40 : UInt8).toNat : Int))] [] (by kernel_rfl) fun s hS => ?_)
 refine KW.nil (bc hz20 (fun hc52 hz20 => ?_) fun hc52 hz20 => ?_)
 refine WW.condK hS rfl hc52 (WW.region ?_)
 refine sg0 hS 3 [] [5] [.int .i64 (w64 (z42 + 1))] [] (by kernel_rfl) fun s hS => (KW.nil ?_)
 obtain rfl := Option.some.inj hz20
 exact ⟨_, _, _, (hS.subR rfl), (Own.blk0 hC49)⟩
 refine WW.condF hS rfl hc52 (WW.skip ?_)
 obtain rfl := Option.some.inj hz20
 exact ⟨_, _, _, (hS.subR rfl), (Own.blk0 hC49)⟩
 rintro s ⟨a21, z22, B24, hS, h23⟩
 refine WW.region (sg0 hS 3 [] [6] [.int .i64 (w64 (x7.2.2 + 1))] [] (by kernel_rfl) fun s hS => ?_)
 refine KW.nil ?_
 obtain rfl := Option.some.inj h18
 exact ⟨_, rfl, _, _, _, (hS.subR rfl), h23⟩
 refine WW.condF hS rfl hc19 (WW.exit ?_)
 refine thenQ_exit ?_
 obtain rfl := Option.some.inj h18
 exact ⟨_, rfl, rfl, _, _, _, (hS.subR rfl), h10⟩
 clear hS
 rintro e s ⟨rfl, a53, z54, B56, hS, h55⟩
 refine blockQ_exit (WW.seq ?_)
 refine WW.region (sg0 hS 2 [] [2] [.slice a53 o12.1.length z54] [] (by kernel_rfl) fun s hS => ?_)
 refine KW.nil (WW.ret ?_)
 replace hS := (hS.pull 1).drop
 cases h
 exact fin1 hS (.inr rfl) 2 rfl rfl ⟨_, _, _, rfl, rfl, rfl, h55⟩
noncomputable def g_1.b0 (pA : List Int) (pH : Int) (x1 : Bool × Int) : Option ((Bool × Int) ⊕ (Bool × Int)) :=
  (if (decide (x1.2 < (pA.length : Int))) then (if 0 ≤ x1.2 ∧ x1.2 < (pA.length : Int) then (if x1.1 then some (.inl (true, (w64 (x1.2 + 1)))) else some (.inl (((gt pA x1.2) == pH), (w64 (x1.2 + 1))))) else none) else some (.inr (x1.1, x1.2)))
noncomputable def g_1.f (pA : List Int) (pH : Int) : Option (Bool) :=
  Option.bind (iter (g_1.b0 pA pH) (false, 0)) fun o2 => some o2.1
theorem g_1.ok {aC : Option Addr} {zD : Nat} {BH : Seg} {pA : List Int} {pH : Int} {F : FZ} {r : Bool} (h : g_1.f pA pH = some r) (hE : Own (elI .i64 3) F aC zD pA BH) :
    Cl EV 41 [.slice aC pA.length zD, .int .i64 pH] [BH] F (fun v S' F' => F = F' ∧ v = .bool r ∧ S' = [BH]) := by
 refine Cl.of Tryz.func41 rfl (fun _ _ => rfl) (by kernel_rfl) fun s L nx0 hS => ?_
 unfold g_1.f at h
 refine WW.seq (WW.region ?_)
 refine sg0 hS 1 [] [4] [.bool false] [] (by kernel_rfl) fun s hS => (KW.nil ?_)
 refine WW.seq (WW.region ?_)
 refine sg0 hS 1 [] [5] [.bool false] [] (by kernel_rfl) fun s hS => (KW.nil ?_)
 refine WW.seq (WW.seq ?_)
 refine WW.region (sg0 hS 3 [] [8, 9, 10] [.slice aC pA.length zD, .int .i64 (pA.length : Int), .int .i64 0] [] (by kernel_rfl) fun s hS => ?_)
 refine KW.nil (WW.block ?_)
 obtain ⟨o2, ho2, h⟩ := bind_some h
 refine WW.loop (LW.iterE ho2 (fun (x1 : Bool × Int) s => Stt EV s [(1, .int .i64 pH), (4, .bool false), (5, .bool x1.1), (8, .slice aC pA.length zD), (9, .int .i64 (pA.length : Int)), (10, .int .i64 x1.2)] [BH] F L F nx0) 0 (hS.subR rfl) ?_ ?_)
 clear hS
 rintro x1 s hS o2' h4
 unfold g_1.b0 at h4
 refine WW.seq (WW.region ?_)
 refine sg0 hS 1 [] [11] [.bool (decide (x1.2 < (pA.length : Int)))] [] (by kernel_rfl) fun s hS => (KW.nil ?_)
 refine WW.seq (bc h4 (fun hc5 h4 => ?_) fun hc5 h4 => ?_)
 refine WW.condK hS rfl hc5 (WW.skip ?_)
 refine WW.seq (WW.block ?_)
 refine WW.seq (WW.region ?_)
 obtain ⟨hk6, h4⟩ := ite_some h4
 obtain ⟨i12, cs13, ex14, rfl, rfl, rfl, hC15⟩ := Own.some_ hE (by omega)
 obtain ⟨c7, hR8, hN10, hN9, hT11⟩ := Cells.loadF hC15 ex14 hk6 (z := 1) rfl
 obtain rfl := hR8
 refine q_pu hS (wn rfl) rfl rfl rfl (v := .pointer (some ⟨i12, 0 + (x1.2).toNat * 1, none⟩)) (aop_ia (hS.lk rfl) (hS.lk rfl) te22 hk6) fun s hS => (q_ld hS (wn rfl) rfl rfl rfl (hS.at (k := 0) rfl) tg3 (v := .int .i64 (gt pA x1.2)) hN9 fun s hS => ?_)
 refine sg0 hS 1 [] [7] [.int .i64 (gt pA x1.2)] [] (by kernel_rfl) fun s hS => (KW.nil ?_)
 refine WW.region (sg0 hS 2 [] [15] [.bool x1.1] [] (by kernel_rfl) fun s hS => ?_)
 refine bc h4 (fun hc16 h4 => ?_) fun hc16 h4 => ?_
 replace hS := hS.kb 5 hc16 rfl
 replace hS := hS.kb 15 hc16 rfl
 refine sg0 hS 5 [] [5] [.bool true] [] (by kernel_rfl) fun s hS => (KW.nil ?_)
 refine WW.region (sg0 hS 2 [] [10] [.int .i64 (w64 (x1.2 + 1))] [] (by kernel_rfl) fun s hS => ?_)
 refine KW.nil ?_
 obtain rfl := Option.some.inj h4
 exact ⟨_, rfl, (hS.subR rfl)⟩
 replace hS := hS.kb 5 hc16 rfl
 replace hS := hS.kb 15 hc16 rfl
 refine sg0 hS 5 [] [5] [.bool ((gt pA x1.2) == pH)] [] (by kernel_rfl) fun s hS => (KW.nil ?_)
 refine WW.region (sg0 hS 2 [] [10] [.int .i64 (w64 (x1.2 + 1))] [] (by kernel_rfl) fun s hS => ?_)
 refine KW.nil ?_
 obtain rfl := Option.some.inj h4
 exact ⟨_, rfl, (hS.subR rfl)⟩
 refine WW.condF hS rfl hc5 (WW.exit ?_)
 refine thenQ_exit ?_
 obtain rfl := Option.some.inj h4
 exact ⟨_, rfl, rfl, (hS.subR rfl)⟩
 clear hS
 rintro e s ⟨rfl, hS⟩
 refine blockQ_exit (WW.seq ?_)
 refine WW.region (sg0 hS 2 [] [4] [.bool o2.1] [] (by kernel_rfl) fun s hS => ?_)
 refine KW.nil (WW.ret ?_)
 cases h
 exact fin1 hS (.inr rfl) 4 rfl rfl ⟨rfl, rfl, rfl⟩
noncomputable def g_29.b1 (pA : List UInt8) (pB : List UInt8) (y33 : List Int) (x39 : List Int × Int) (x52 : List Int × Int) : Option ((List Int × Int) ⊕ (List Int × Int)) :=
  Option.bind ((if (decide (x52.2 < (pB.length : Int))) then (if 0 ≤ x39.2 ∧ x39.2 < (y33.length : Int) then some ((gt y33 x39.2) == 0) else none) else some false)) fun z64 => (if z64 then Option.bind ((if 0 ≤ x52.2 ∧ x52.2 < (pB.length : Int) then (if 0 ≤ x39.2 ∧ x39.2 < (pA.length : Int) then (if (((gt pB x52.2).toNat : Int) == ((gt pA x39.2).toNat : Int)) then Option.bind (g_1.f x52.1 x39.2) fun y85 => (if (!y85) then (if x52.1.length + ([x39.2] : List Int).length < 1000000000 then some (x52.1 ++ ([x39.2] : List Int)) else none) else some x52.1) else some x52.1) else none) else none)) fun z77 => some (.inl (z77, (w64 (x52.2 + 1)))) else some (.inr (x52.1, x52.2)))
noncomputable def g_29.b0 (pA : List UInt8) (pB : List UInt8) (y33 : List Int) (x39 : List Int × Int) : Option ((List Int × Int) ⊕ (List Int × Int)) :=
  (if (decide (x39.2 < (pA.length : Int))) then Option.bind (iter (g_29.b1 pA pB y33 x39) (x39.1, 0)) fun o57 => some (.inl (o57.1, (w64 (x39.2 + 1)))) else some (.inr (x39.1, x39.2)))
noncomputable def g_29.f (pA : List UInt8) (pB : List UInt8) : Option (Bool) :=
  Option.bind (g_2a.f) fun y1 => (if (!y1) then some false else Option.bind (g_2b.f pA) fun y6 => (if (y6 || (decide ((pB.length : Int) > 20))) then some true else Option.bind (g_7.f pA) fun y9 => Option.bind (g_9.f pA) fun y13 => Option.bind (g_a.f pA pB) fun y21 => Option.bind (g_2j.f pA) fun y29 => (if ((((y9.2 != y29.2) || (y13.2 != y29.2)) || (y21.2 != y29.2)) || (y9.1 != y29.1)) then some false else (if (y29.2 != 0) then some (((y13.1.length : Int) == 0) && ((y21.1.length : Int) == 0)) else Option.bind (g_2k.f pA) fun y33 => Option.bind (iter (g_29.b0 pA pB y33) (([] : List Int), 0)) fun o44 => Option.bind (g_2.f y13.1 y33) fun y108 => (if y108 then Option.bind (g_2.f y21.1 o44.1) fun y117 => some y117 else some false)))))
theorem g_29.ok {pA : List UInt8} {pB : List UInt8} {F : FZ} {r : Bool} (h : g_29.f pA pB = some r) (hG : Gl F) :
    Cl EV 9 [strV pA, strV pB] [] F (fun v S' F' => FLe F F' ∧ v = .bool r ∧ S' = []) := by
 refine Cl.of Tryz.func9 rfl (fun _ _ => rfl) (by kernel_rfl) fun s L nx0 hS => ?_
 unfold g_29.f at h
 refine WW.seq (WW.region ?_)
 refine sg0 hS 1 [] [4] [.bool false] [] (by kernel_rfl) fun s hS => (KW.nil ?_)
 refine WW.seq (WW.seq ?_)
 refine WW.region ?_
 obtain ⟨y1, hy1, h⟩ := bind_some h
 refine cK (g_2a.ok hy1 hG) hS 0 17 0 rfl (by kernel_rfl) fun s v S' F3 hp2 hF hS => ?_
 obtain ⟨hF4, rfl, rfl⟩ := hp2
 refine sg0 hS 1 [] [18] [.bool (!y1)] [] (by kernel_rfl) fun s hS => (KW.nil ?_)
 refine bc h (fun hc5 h => ?_) fun hc5 h => ?_
 refine WW.condK hS rfl hc5 (WW.seq ?_)
 refine WW.region (sg0 hS 1 [] [4] [.bool false] [] (by kernel_rfl) fun s hS => ?_)
 refine KW.nil (WW.ret ?_)
 cases h
 exact fin1 hS (.inr rfl) 4 rfl rfl ⟨(hF4), rfl, rfl⟩
 refine WW.condF hS rfl hc5 (WW.skip ?_)
 refine WW.seq (WW.seq ?_)
 refine WW.region ?_
 obtain ⟨y6, hy6, h⟩ := bind_some h
 refine cR (g_2b.ok hy6) hS 1 20 0 rfl (by kernel_rfl) fun s hS => (sg0 hS 1 [] [21] [.bool y6] [] (by kernel_rfl) fun s hS => ?_)
 refine q_cut 4 (fun s => Stt EV s [(25, .bool (y6 || (decide ((pB.length : Int) > 20)))), (0, strV pA), (1, strV pB), (4, .bool false)] [] F3 L F nx0) ?_ fun s hS => ?_
 rcases bool_cases (y6) with hcj | hcj
 replace hS := hS.know (t := 20) rfl (congrArg Value.bool hcj)
 replace hS := hS.know (t := 21) rfl (congrArg Value.bool hcj)
 refine sg0 hS 4 [] [25] [.bool true] [] (by kernel_rfl) fun s hS => (KW.nil ?_)
 exact (hS.know (t := 25) (u' := .bool (y6 || (decide ((pB.length : Int) > 20)))) rfl (jn_or_t hcj)).subR rfl
 replace hS := hS.know (t := 20) rfl (congrArg Value.bool hcj)
 replace hS := hS.know (t := 21) rfl (congrArg Value.bool hcj)
 refine sg0 hS 4 [] [25] [.bool (decide ((pB.length : Int) > 20))] [] (by kernel_rfl) fun s hS => (KW.nil ?_)
 exact (hS.know (t := 25) (u' := .bool (y6 || (decide ((pB.length : Int) > 20)))) rfl (jn_or_f hcj)).subR rfl
 refine KW.nil (bc h (fun hc8 h => ?_) fun hc8 h => ?_)
 refine WW.condK hS rfl hc8 (WW.seq ?_)
 refine WW.region (sg0 hS 1 [] [4] [.bool true] [] (by kernel_rfl) fun s hS => ?_)
 refine KW.nil (WW.ret ?_)
 cases h
 exact fin1 hS (.inr rfl) 4 rfl rfl ⟨(hF4), rfl, rfl⟩
 refine WW.condF hS rfl hc8 (WW.skip ?_)
 refine WW.seq (WW.region ?_)
 obtain ⟨y9, hy9, h⟩ := bind_some h
 refine cK (g_7.ok hy9 (hG.mono hF4)) hS 1 28 0 rfl (by kernel_rfl) fun s v S' F11 hp10 hF hS => ?_
 obtain ⟨hF12, rfl, rfl⟩ := hp10
 refine sg0 hS 5 [] [5, 6] [.int .i64 y9.1, .int .i64 y9.2] [] (by kernel_rfl) fun s hS => (KW.nil ?_)
 refine WW.seq (WW.region ?_)
 obtain ⟨y13, hy13, h⟩ := bind_some h
 refine cK (g_9.ok hy13 (hG.mono (FLe.trans hF4 hF12))) hS 1 33 0 rfl (by kernel_rfl) fun s v S' F15 hp14 hF hS => ?_
 obtain ⟨a16, z17, B19, hF20, rfl, rfl, h18⟩ := hp14
 refine sg0 hS 5 [] [7, 8] [.slice a16 y13.1.length z17, .int .i64 y13.2] [] (by kernel_rfl) fun s hS => (KW.nil ?_)
 refine WW.seq (WW.region ?_)
 obtain ⟨y21, hy21, h⟩ := bind_some h
 refine cK (g_a.ok hy21 (hG.mono (FLe.trans hF4 (FLe.trans hF12 hF20)))) hS 2 39 0 rfl (by kernel_rfl) fun s v S' F23 hp22 hF hS => ?_
 obtain ⟨a24, z25, B27, hF28, rfl, rfl, h26⟩ := hp22
 refine sg0 hS 5 [] [9, 10] [.slice a24 y21.1.length z25, .int .i64 y21.2] [] (by kernel_rfl) fun s hS => (KW.nil ?_)
 refine WW.seq (WW.region ?_)
 obtain ⟨y29, hy29, h⟩ := bind_some h
 refine cR (g_2j.ok hy29) hS 1 44 0 rfl (by kernel_rfl) fun s hS => (sg0 hS 5 [] [11, 12] [.int .i64 y29.1, .int .i64 y29.2] [] (by kernel_rfl) fun s hS => ?_)
 refine KW.nil (WW.seq ?_)
 refine WW.seq (WW.region ?_)
 refine sg0 hS 4 [] [50] [.bool (y9.2 != y29.2)] [] (by kernel_rfl) fun s hS => (q_cut 4 (fun s => Stt EV s [(54, .bool ((y9.2 != y29.2) || (y13.2 != y29.2))), (0, strV pA), (1, strV pB), (4, .bool false), (5, .int .i64 y9.1), (7, .slice a16 y13.1.length z17), (9, .slice a24 y21.1.length z25), (10, .int .i64 y21.2), (11, .int .i64 y29.1), (12, .int .i64 y29.2)] [B27, B19] F23 L F nx0) ?_ fun s hS => ?_)
 rcases bool_cases ((y9.2 != y29.2)) with hcj | hcj
 replace hS := hS.know (t := 50) rfl (congrArg Value.bool hcj)
 refine sg0 hS 4 [] [54] [.bool true] [] (by kernel_rfl) fun s hS => (KW.nil ?_)
 exact (hS.know (t := 54) (u' := .bool ((y9.2 != y29.2) || (y13.2 != y29.2))) rfl (jn_or_t hcj)).subR rfl
 replace hS := hS.know (t := 50) rfl (congrArg Value.bool hcj)
 refine sg0 hS 4 [] [54] [.bool (y13.2 != y29.2)] [] (by kernel_rfl) fun s hS => (KW.nil ?_)
 exact (hS.know (t := 54) (u' := .bool ((y9.2 != y29.2) || (y13.2 != y29.2))) rfl (jn_or_f hcj)).subR rfl
 refine sg0 hS 1 [] [55] [.bool ((y9.2 != y29.2) || (y13.2 != y29.2))] [] (by kernel_rfl) fun s hS => (q_cut 4 (fun s => Stt EV s [(59, .bool (((y9.2 != y29.2) || (y13.2 != y29.2)) || (y21.2 != y29.2))), (0, strV pA), (1, strV pB), (4, .bool false), (5, .int .i64 y9.1), (7, .slice a16 y13.1.length z17), (9, .slice a24 y21.1.length z25), (11, .int .i64 y29.1), (12, .int .i64 y29.2)] [B27, B19] F23 L F nx0) ?_ fun s hS => ?_)
 rcases bool_cases (((y9.2 != y29.2) || (y13.2 != y29.2))) with hcj | hcj
 replace hS := hS.know (t := 54) rfl (congrArg Value.bool hcj)
 replace hS := hS.know (t := 55) rfl (congrArg Value.bool hcj)
 refine sg0 hS 4 [] [59] [.bool true] [] (by kernel_rfl) fun s hS => (KW.nil ?_)
 exact (hS.know (t := 59) (u' := .bool (((y9.2 != y29.2) || (y13.2 != y29.2)) || (y21.2 != y29.2))) rfl (jn_or_t hcj)).subR rfl
 replace hS := hS.know (t := 54) rfl (congrArg Value.bool hcj)
 replace hS := hS.know (t := 55) rfl (congrArg Value.bool hcj)
 refine sg0 hS 4 [] [59] [.bool (y21.2 != y29.2)] [] (by kernel_rfl) fun s hS => (KW.nil ?_)
 exact (hS.know (t := 59) (u' := .bool (((y9.2 != y29.2) || (y13.2 != y29.2)) || (y21.2 != y29.2))) rfl (jn_or_f hcj)).subR rfl
 refine sg0 hS 1 [] [60] [.bool (((y9.2 != y29.2) || (y13.2 != y29.2)) || (y21.2 != y29.2))] [] (by kernel_rfl) fun s hS => (q_cut 4 (fun s => Stt EV s [(64, .bool ((((y9.2 != y29.2) || (y13.2 != y29.2)) || (y21.2 != y29.2)) || (y9.1 != y29.1))), (0, strV pA), (1, strV pB), (4, .bool false), (7, .slice a16 y13.1.length z17), (9, .slice a24 y21.1.length z25), (12, .int .i64 y29.2)] [B27, B19] F23 L F nx0) ?_ fun s hS => ?_)
 rcases bool_cases ((((y9.2 != y29.2) || (y13.2 != y29.2)) || (y21.2 != y29.2))) with hcj | hcj
 replace hS := hS.know (t := 59) rfl (congrArg Value.bool hcj)
 replace hS := hS.know (t := 60) rfl (congrArg Value.bool hcj)
 refine sg0 hS 4 [] [64] [.bool true] [] (by kernel_rfl) fun s hS => (KW.nil ?_)
 exact (hS.know (t := 64) (u' := .bool ((((y9.2 != y29.2) || (y13.2 != y29.2)) || (y21.2 != y29.2)) || (y9.1 != y29.1))) rfl (jn_or_t hcj)).subR rfl
 replace hS := hS.know (t := 59) rfl (congrArg Value.bool hcj)
 replace hS := hS.know (t := 60) rfl (congrArg Value.bool hcj)
 refine sg0 hS 4 [] [64] [.bool (y9.1 != y29.1)] [] (by kernel_rfl) fun s hS => (KW.nil ?_)
 exact (hS.know (t := 64) (u' := .bool ((((y9.2 != y29.2) || (y13.2 != y29.2)) || (y21.2 != y29.2)) || (y9.1 != y29.1))) rfl (jn_or_f hcj)).subR rfl
 refine KW.nil (bc h (fun hc31 h => ?_) fun hc31 h => ?_)
 refine WW.condK hS rfl hc31 (WW.seq ?_)
 refine WW.region (sg0 hS 1 [] [4] [.bool false] [] (by kernel_rfl) fun s hS => ?_)
 refine KW.nil (WW.ret ?_)
 replace hS := hS.drop
 replace hS := hS.drop
 cases h
 exact fin1 hS (.inr rfl) 4 rfl rfl ⟨((FLe.trans hF4 (FLe.trans hF12 (FLe.trans hF20 hF28)))), rfl, rfl⟩
 refine WW.condF hS rfl hc31 (WW.skip ?_)
 refine WW.seq (WW.seq ?_)
 refine WW.region (sg0 hS 2 [] [66] [.bool (y29.2 != 0)] [] (by kernel_rfl) fun s hS => ?_)
 refine KW.nil (bc h (fun hc32 h => ?_) fun hc32 h => ?_)
 refine WW.condK hS rfl hc32 (WW.seq ?_)
 refine WW.region (sg0 hS 4 [] [70] [.bool ((y13.1.length : Int) == 0)] [] (by kernel_rfl) fun s hS => ?_)
 refine q_cut 4 (fun s => Stt EV s [(74, .bool (((y13.1.length : Int) == 0) && ((y21.1.length : Int) == 0))), (0, strV pA), (1, strV pB), (4, .bool false), (7, .slice a16 y13.1.length z17), (9, .slice a24 y21.1.length z25)] [B27, B19] F23 L F nx0) ?_ fun s hS => ?_
 rcases bool_cases (((y13.1.length : Int) == 0)) with hcj | hcj
 replace hS := hS.know (t := 70) rfl (congrArg Value.bool hcj)
 refine sg0 hS 4 [] [74] [.bool ((y21.1.length : Int) == 0)] [] (by kernel_rfl) fun s hS => (KW.nil ?_)
 exact (hS.know (t := 74) (u' := .bool (((y13.1.length : Int) == 0) && ((y21.1.length : Int) == 0))) rfl (jn_and_t hcj)).subR rfl
 replace hS := hS.know (t := 70) rfl (congrArg Value.bool hcj)
 refine sg0 hS 4 [] [74] [.bool false] [] (by kernel_rfl) fun s hS => (KW.nil ?_)
 exact (hS.know (t := 74) (u' := .bool (((y13.1.length : Int) == 0) && ((y21.1.length : Int) == 0))) rfl (jn_and_f hcj)).subR rfl
 refine sg0 hS 1 [] [4] [.bool (((y13.1.length : Int) == 0) && ((y21.1.length : Int) == 0))] [] (by kernel_rfl) fun s hS => (KW.nil ?_)
 refine WW.ret ?_
 replace hS := hS.drop
 replace hS := hS.drop
 cases h
 exact fin1 hS (.inr rfl) 4 rfl rfl ⟨((FLe.trans hF4 (FLe.trans hF12 (FLe.trans hF20 hF28)))), rfl, rfl⟩
 refine WW.condF hS rfl hc32 (WW.skip ?_)
 refine WW.seq (WW.region ?_)
 obtain ⟨y33, hy33, h⟩ := bind_some h
 refine cK (g_2k.ok hy33) hS 1 76 0 rfl (by kernel_rfl) fun s v S' F' hp34 hF hS => ?_
 obtain ⟨a35, z36, B38, rfl, rfl, rfl, h37⟩ := hp34
 refine sg0 hS 1 [] [13] [.slice a35 y33.length z36] [] (by kernel_rfl) fun s hS => (KW.nil ?_)
 refine WW.seq (WW.region ?_)
 refine sg0 hS 1 [] [14] [.slice none 0 0] [] (by kernel_rfl) fun s hS => (KW.nil ?_)
 refine WW.seq (WW.seq ?_)
 refine WW.region (sg0 hS 1 [] [15] [.int .i64 0] [] (by kernel_rfl) fun s hS => ?_)
 refine KW.nil (WW.block ?_)
 replace hS := hS.gap0
 obtain ⟨o44, ho44, h⟩ := bind_some h
 refine WW.loop (LW.iterE ho44 (fun (x39 : List Int × Int) s => ∃ (a40 : Option Addr) (z41 : Nat) (B43 : Seg), Stt EV s [(0, strV pA), (1, strV pB), (4, .bool false), (7, .slice a16 y13.1.length z17), (9, .slice a24 y21.1.length z25), (13, .slice a35 y33.length z36), (14, .slice a40 x39.1.length z41), (15, .int .i64 x39.2)] [B43, B38, B27, B19] F23 L F nx0 ∧ Own (elI .i64 3) F23 a40 z41 x39.1 B43) 0 ⟨_, _, _, (hS.subR rfl), Own.nil⟩ ?_ ?_)
 clear hS
 rintro x39 s ⟨a40, z41, B43, hS, h42⟩ o44' h50
 unfold g_29.b0 at h50
 refine WW.seq (WW.seq ?_)
 refine WW.region (sg0 hS 4 [] [80] [.bool (decide (x39.2 < (pA.length : Int)))] [] (by kernel_rfl) fun s hS => ?_)
 refine KW.nil (bc h50 (fun hc51 h50 => ?_) fun hc51 h50 => ?_)
 refine WW.condK hS rfl hc51 (WW.skip ?_)
 refine WW.seq (WW.block ?_)
 refine WW.seq (WW.region ?_)
 refine sg0 hS 1 [] [16] [.int .i64 0] [] (by kernel_rfl) fun s hS => (KW.nil ?_)
 refine WW.block ?_
 obtain ⟨o57, ho57, h50⟩ := bind_some h50
 refine WW.loop (LW.iterE ho57 (fun (x52 : List Int × Int) s => ∃ (a53 : Option Addr) (z54 : Nat) (B56 : Seg), Stt EV s [(0, strV pA), (1, strV pB), (4, .bool false), (7, .slice a16 y13.1.length z17), (9, .slice a24 y21.1.length z25), (13, .slice a35 y33.length z36), (14, .slice a53 x52.1.length z54), (15, .int .i64 x39.2), (16, .int .i64 x52.2)] [B56, B38, B27, B19] F23 L F nx0 ∧ Own (elI .i64 3) F23 a53 z54 x52.1 B56) 2 ⟨_, _, _, (hS.subR rfl), h42⟩ ?_ ?_)
 clear hS
 rintro x52 s ⟨a53, z54, B56, hS, h55⟩ o57' h63
 unfold g_29.b1 at h63
 refine WW.seq (WW.seq ?_)
 refine WW.region (sg0 hS 5 [] [87] [.bool (decide (x52.2 < (pB.length : Int)))] [] (by kernel_rfl) fun s hS => ?_)
 obtain ⟨z64, hz64, h63⟩ := bind_some h63
 refine q_cut 6 (fun s => Stt EV s [(93, .bool z64), (0, strV pA), (1, strV pB), (4, .bool false), (7, .slice a16 y13.1.length z17), (9, .slice a24 y21.1.length z25), (13, .slice a35 y33.length z36), (14, .slice a53 x52.1.length z54), (15, .int .i64 x39.2), (16, .int .i64 x52.2)] [B56, B38, B27, B19] F23 L F nx0) ?_ fun s hS => ?_
 refine bc hz64 (fun hc65 hz64 => ?_) fun hc65 hz64 => ?_
 replace hS := hS.kb 87 hc65 rfl
 refine sg0 hS 2 [] [88, 89] [.slice a35 y33.length z36, .int .i64 x39.2] [] (by kernel_rfl) fun s hS => ?_
 obtain ⟨hk66, hz64⟩ := ite_some hz64
 obtain ⟨i72, cs73, ex74, rfl, rfl, rfl, hC75⟩ := Own.some_ h37 (by omega)
 obtain ⟨c67, hR68, hN70, hN69, hT71⟩ := Cells.loadF hC75 ex74 hk66 (z := 1) rfl
 obtain rfl := hR68
 refine q_pu hS (wt hS rfl rfl rfl rfl) rfl rfl rfl (v := .pointer (some ⟨i72, 0 + (x39.2).toNat * 1, none⟩)) (aop_ia (hS.lk rfl) (hS.lk rfl) te22 hk66) fun s hS => (q_ld hS (wt hS rfl rfl rfl rfl) rfl rfl rfl (hS.at (k := 1) rfl) tg3 (v := .int .i64 (gt y33 x39.2)) hN69 fun s hS => ?_)
 refine sg0 hS 2 [] [93] [.bool ((gt y33 x39.2) == 0)] [] (by kernel_rfl) fun s hS => (KW.nil ?_)
 obtain rfl := Option.some.inj hz64
 exact hS.subR rfl
 replace hS := hS.kb 87 hc65 rfl
 refine sg0 hS 6 [] [93] [.bool false] [] (by kernel_rfl) fun s hS => (KW.nil ?_)
 obtain rfl := Option.some.inj hz64
 exact hS.subR rfl
 refine KW.nil (bc h63 (fun hc76 h63 => ?_) fun hc76 h63 => ?_)
 refine WW.condK hS rfl hc76 (WW.skip ?_)
 obtain ⟨z77, hz77, h63⟩ := bind_some h63
 refine WW.seqJ (fun s => ∃ (a78 : Option Addr) (z79 : Nat) (B81 : Seg), Stt EV s [(0, strV pA), (1, strV pB), (4, .bool false), (7, .slice a16 y13.1.length z17), (9, .slice a24 y21.1.length z25), (13, .slice a35 y33.length z36), (14, .slice a78 z77.length z79), (15, .int .i64 x39.2), (16, .int .i64 x52.2)] [B81, B38, B27, B19] F23 L F nx0 ∧ Own (elI .i64 3) F23 a78 z79 z77 B81) ?_ ?_
 refine WW.block (WW.seq ?_)
 refine WW.regionD (i := [[], [0], [], [2, 1, 0], [3, 2, 1, 0], [2, 1, 0], [], [], [], [8], [], [], []]) (by kernel_rfl) ?_
 have hq := RS.start []
 refine kg hS hq 2 [96, 97] [strV pB, .int .i64 x52.2] (by kernel_rfl) fun s rs hS hq => ?_
 obtain ⟨hk82, hz77⟩ := ite_some hz77
 refine K.pu hS hq rfl (wn rfl) rfl rfl rfl (v := vB (gt pB x52.2)) (aop_idxS tu9 (hS.lk rfl) (hS.lk rfl) hk82) fun s rs hS hq => (kg hS hq 2 [99, 100] [strV pA, .int .i64 x39.2] (by kernel_rfl) fun s rs hS hq => ?_)
 obtain ⟨hk83, hz77⟩ := ite_some hz77
 refine K.pu hS hq rfl (wn rfl) rfl rfl rfl (v := vB (gt pA x39.2)) (aop_idxS tu9 (hS.lk rfl) (hS.lk rfl) hk83) fun s rs hS hq => (kg hS hq 2 [103] [.bool (((gt pB x52.2).toNat : Int) == ((gt pA x39.2).toNat : Int))] (by kernel_rfl) fun s rs hS hq => ?_)
 refine bc hz77 (fun hc84 hz77 => ?_) fun hc84 hz77 => ?_
 replace hS := hS.kb 103 hc84 rfl
 refine kg hS hq 2 [104, 105] [.slice a53 x52.1.length z54, .int .i64 x39.2] (by kernel_rfl) fun s rs hS hq => ?_
 obtain ⟨y85, hy85, hz77⟩ := bind_some hz77
 refine K.cl hS hq rfl (wt hS rfl rfl rfl rfl) (vs := [.slice a53 x52.1.length z54, .int .i64 x39.2]) (ws := [.slice a53 x52.1.length z54, .int .i64 x39.2]) rfl rfl rfl rfl rfl 1 rfl (g_1.ok hy85 h55)  [] rfl rfl aw_n fun s rs v S' F' hp86 hF hS hq => ?_
 obtain ⟨rfl, rfl, rfl⟩ := hp86
 refine kg hS hq 2 [108] [.bool (!y85)] (by kernel_rfl) fun s rs hS hq => (KW.nil ?_)
 refine bc hz77 (fun hc87 hz77 => ?_) fun hc87 hz77 => ?_
 refine WW.condK hS rfl hc87 (WW.region ?_)
 refine sg0 hS 2 [] [109, 110] [.slice a53 x52.1.length z54, .int .i64 x39.2] [] (by kernel_rfl) fun s hS => (q_nw hS (wn rfl) rfl rfl rfl (v := fun i => .slice (some ⟨i, 0, none⟩) 1 1) (b := .row [.int .i64 x39.2] 3 1 true) (aop_bsl tu22 tz3 t0_3 rfl [(0, .int .i64 x39.2)] (parts_eq hS rfl) rfl) fun s i88 hS => ?_)
 have hC89 : Cells (elI .i64 3) F23 ([x39.2] : List Int) [.int .i64 x39.2] := ⟨[.int .i64 x39.2], [], rfl, rfl, rfl⟩
 obtain ⟨hk93, hz77⟩ := ite_some hz77
 refine q_app hS (wn rfl) (dd := (elI .i64 3)) (lst := x52.1) (m := ([x39.2] : List Int)) rfl rfl ta22_22 rfl rfl h55 (Nat.succ_pos _) hC89 hk93 fun s i90 cs91 hC92 hS => (sg0 hS 1 [] [14] [.slice (some ⟨i90, 0, none⟩) (x52.1 ++ ([x39.2] : List Int)).length 1] [] (by kernel_rfl) fun s hS => ?_)
 refine KW.nil ?_
 obtain rfl := Option.some.inj hz77
 exact ⟨_, _, _, (hS.subR rfl), (Own.blk0 hC92)⟩
 refine WW.condF hS rfl hc87 (WW.skip ?_)
 obtain rfl := Option.some.inj hz77
 exact ⟨_, _, _, (hS.subR rfl), h55⟩
 replace hS := hS.kb 103 hc84 rfl
 refine kg hS hq 5 [108] [.bool false] (by kernel_rfl) fun s rs hS hq => (KW.nil ?_)
 refine WW.condF hS rfl rfl (WW.skip ?_)
 obtain rfl := Option.some.inj hz77
 exact ⟨_, _, _, (hS.subR rfl), h55⟩
 rintro s ⟨a78, z79, B81, hS, h80⟩
 refine WW.region (sg0 hS 3 [] [16] [.int .i64 (w64 (x52.2 + 1))] [] (by kernel_rfl) fun s hS => ?_)
 refine KW.nil ?_
 obtain rfl := Option.some.inj h63
 exact ⟨_, rfl, _, _, _, (hS.subR rfl), h80⟩
 refine WW.condF hS rfl hc76 (WW.exit ?_)
 refine thenQ_exit ?_
 obtain rfl := Option.some.inj h63
 exact ⟨_, rfl, rfl, _, _, _, (hS.subR rfl), h55⟩
 clear hS
 rintro e s ⟨rfl, a94, z95, B97, hS, h96⟩
 refine blockQ_exit (WW.region ?_)
 refine sg0 hS 3 [] [15] [.int .i64 (w64 (x39.2 + 1))] [] (by kernel_rfl) fun s hS => (KW.nil ?_)
 obtain rfl := Option.some.inj h50
 exact ⟨_, rfl, _, _, _, (hS.subR rfl), h96⟩
 refine WW.condF hS rfl hc51 (WW.exit ?_)
 refine thenQ_exit ?_
 obtain rfl := Option.some.inj h50
 exact ⟨_, rfl, rfl, _, _, _, (hS.subR rfl), h42⟩
 clear hS
 rintro e s ⟨rfl, a98, z99, B101, hS, h100⟩
 refine blockQ_exit (WW.seq ?_)
 refine WW.region ?_
 replace hS := hS.pull 3
 obtain ⟨F102, hF103, hS, hz104⟩ := hS.frzO (h18.mono hF28)
 replace hS := hS.pull 1
 obtain ⟨F105, hF106, hS, hz107⟩ := hS.frzO (h37.mono hF103)
 obtain ⟨y108, hy108, h⟩ := bind_some h
 refine cR (g_2.ok hy108 (hz104.mono hF106) hz107) hS 2 115 0 rfl (by kernel_rfl) fun s hS => (sg0 hS 1 [] [116] [.bool y108] [] (by kernel_rfl) fun s hS => ?_)
 refine bc h (fun hc110 h => ?_) fun hc110 h => ?_
 replace hS := hS.kb 115 hc110 rfl
 replace hS := hS.kb 116 hc110 rfl
 refine sg0 hS 2 [] [117, 118] [.slice a24 y21.1.length z25, .slice a98 o44.1.length z99] [] (by kernel_rfl) fun s hS => ?_
 replace hS := hS.pull 1
 obtain ⟨F111, hF112, hS, hz113⟩ := hS.frzO (h26.mono (FLe.trans hF103 hF106))
 obtain ⟨F114, hF115, hS, hz116⟩ := hS.frzO (h100.mono (FLe.trans hF103 (FLe.trans hF106 hF112)))
 obtain ⟨y117, hy117, h⟩ := bind_some h
 refine q_cl hS (wt hS rfl rfl rfl rfl) (vs := [.slice a24 y21.1.length z25, .slice a98 o44.1.length z99]) (ws := [.slice a24 y21.1.length z25, .slice a98 o44.1.length z99]) rfl rfl rfl rfl rfl 0 rfl (g_2.ok hy117 (hz113.mono hF115) hz116) fun s v S' F' hp118 hF hS => ?_
 obtain ⟨rfl, rfl, rfl⟩ := hp118
 refine sg0 hS 2 [] [4] [.bool y117] [] (by kernel_rfl) fun s hS => (KW.nil ?_)
 refine WW.ret ?_
 cases h
 exact fin1 hS (.inr rfl) 4 rfl rfl ⟨((FLe.trans hF4 (FLe.trans hF12 (FLe.trans hF20 (FLe.trans hF28 (FLe.trans hF103 (FLe.trans hF106 (FLe.trans hF112 hF115)))))))), rfl, rfl⟩
 replace hS := hS.kb 115 hc110 rfl
 replace hS := hS.kb 116 hc110 rfl
 refine sg0 hS 5 [] [4] [.bool false] [] (by kernel_rfl) fun s hS => (KW.nil ?_)
 refine WW.ret ?_
 replace hS := hS.drop
 replace hS := hS.drop
 cases h
 exact fin1 hS (.inr rfl) 4 rfl rfl ⟨((FLe.trans hF4 (FLe.trans hF12 (FLe.trans hF20 (FLe.trans hF28 (FLe.trans hF103 hF106)))))), rfl, rfl⟩
end Go.Proofs.YtcafgoomipkljaaGreatDoorAi
