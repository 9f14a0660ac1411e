import Derived.Test.YtcafgoomipkljaaGreatDoorApX1a
namespace Go.Proofs.YtcafgoomipkljaaGreatDoorAi
open Go Go.RowKit
set_option linter.unusedVariables false
set_option linter.unusedSimpArgs false
set_option maxRecDepth 100000
noncomputable def g_classify_match_is_4.f (p0_1 : List UInt8) (p0_2 : List Int) (p0_6 : Int) (p0_12 : Bool) : Option (Bool) :=
  (if p0_12 then (if (decide (p0_6 < (p0_1.length : Int))) then (if 0 ≤ p0_6 ∧ p0_6 < (p0_2.length : Int) then (if ((gt p0_2 p0_6) == 0) then (if 0 ≤ p0_6 ∧ p0_6 < (p0_1.length : Int) then Option.bind (g_classify_isDigit.f (gt p0_1 p0_6)) fun y14 => some y14 else none) else some false) else none) else some false) else some false)
set_option maxHeartbeats 4000000 in
theorem g_classify_match_is_4.ok {ip0_1 : Nat} {ap0_4 : Option Addr} {zp0_5 : Nat} {ap0_9 : Option Addr} {zp0_10 : Nat} {Bp0_12 : Seg} {p0_1 : List UInt8} {p0_2 : List Int} {p0_6 : Int} {p0_7 : List Int} {p0_12 : Bool} {F : FZ} {r : Bool} (h : g_classify_match_is_4.f p0_1 p0_2 p0_6 p0_12 = some r) (hp0_6 : Frz (elI .i64 3) F ap0_4 zp0_5 p0_2) :
    Cl EV 140 [.pointer (some ⟨ip0_1, 0, none⟩), .func (.func 62) #[] #[]] [[(ip0_1, .row [strV p0_1, .slice ap0_4 p0_2.length zp0_5, .int .i64 p0_6, .slice ap0_9 p0_7.length zp0_10, .bool p0_12] 99 0 true)], Bp0_12] F (fun v S' F' => F = F' ∧ v = .bool r ∧ S' = [[(ip0_1, .row [strV p0_1, .slice ap0_4 p0_2.length zp0_5, .int .i64 p0_6, .slice ap0_9 p0_7.length zp0_10, .bool p0_12] 99 0 true)], Bp0_12]) := by
 refine Cl.of Tryz.func140 rfl (fun _ _ => rfl) (by kernel_rfl) fun s L nx0 hS => ?_
 unfold g_classify_match_is_4.f at h
 refine WW.seq (WW.region ?_)
 refine q_seg0 tbok hS 1 [] [4] [.bool false] [] (by kernel_rfl) fun s hS => (KW.nil ?_)
 refine WW.seq (WW.regionD (i := [[], [], [], [], [], [], [], [], [], [8, 7, 6, 5], [8, 7, 6, 5], [8, 7, 6, 5], [8, 7, 6, 5], [8, 7, 6, 5], [], [], [], [], [], [], [], [20, 19, 18, 17], [20, 19, 18, 17], [20, 19, 18, 17], [20, 19, 18, 17], [], [], [], [], [], [], [30], [30], [30], [30], [34, 33, 32, 31, 30], [34, 33, 32, 31, 30], [34, 33, 32, 31, 30], [34, 33, 32, 31, 30], [30], [], [], []]) (by kernel_rfl) ?_)
 have hq := RS.start [ip0_1]
 refine K.seg tbok hS hq 3 [7] [.pointer (some ⟨ip0_1, 4, none⟩)] (by kernel_rfl) fun s rs hS hq => (K.ld hS hq rfl (wn rfl) rfl rfl rfl (hS.at (k := 0) rfl) tg4 (v := .bool p0_12) rfl 0 rfl rfl fun s rs hS hq => ?_)
 refine K.seg tbok hS hq 1 [9] [.bool p0_12] (by kernel_rfl) fun s rs hS hq => (bc h (fun hc1 h => ?_) fun hc1 h => ?_)
 replace hS := hS.kb 8 hc1 rfl
 replace hS := hS.kb 9 hc1 rfl
 refine K.seg tbok hS hq 3 [12] [.pointer (some ⟨ip0_1, 2, none⟩)] (by kernel_rfl) fun s rs hS hq => (K.ld hS hq rfl (wt hS rfl rfl rfl rfl) rfl rfl rfl (hS.at (k := 0) rfl) tg3 (v := .int .i64 p0_6) rfl 0 rfl rfl fun s rs hS hq => ?_)
 refine K.seg tbok hS hq 3 [16] [.pointer (some ⟨ip0_1, 0, none⟩)] (by kernel_rfl) fun s rs hS hq => (K.ld hS hq rfl (wt hS rfl rfl rfl rfl) rfl rfl rfl (hS.at (k := 0) rfl) tg9 (v := strV p0_1) rfl 0 rfl rfl fun s rs hS hq => ?_)
 refine K.seg tbok hS hq 4 [21] [.bool (decide (p0_6 < (p0_1.length : Int)))] (by kernel_rfl) fun s rs hS hq => (bc h (fun hc2 h => ?_) fun hc2 h => ?_)
 replace hS := hS.kb 21 hc2 rfl
 refine K.seg tbok hS hq 3 [24] [.pointer (some ⟨ip0_1, 1, none⟩)] (by kernel_rfl) fun s rs hS hq => (K.ld hS hq rfl (wt hS rfl rfl rfl rfl) rfl rfl rfl (hS.at (k := 0) rfl) tg22 (v := .slice ap0_4 p0_2.length zp0_5) rfl 0 rfl rfl fun s rs hS hq => ?_)
 refine K.seg tbok hS hq 3 [28] [.pointer (some ⟨ip0_1, 2, none⟩)] (by kernel_rfl) fun s rs hS hq => (K.ld hS hq rfl (wt hS rfl rfl rfl rfl) rfl rfl rfl (hS.at (k := 0) rfl) tg3 (v := .int .i64 p0_6) rfl 0 rfl rfl fun s rs hS hq => ?_)
 obtain ⟨hk3, h⟩ := ite_some h
 obtain ⟨i9, of10, rfl⟩ := Frz.addr hp0_6 (by omega)
 obtain ⟨_, _, _, _, c4, hF11, hR5, hN6, hN7, hT8⟩ := Frz.at hp0_6 hk3 (m := 1) rfl
 obtain rfl := hR5
 refine K.pu hS hq rfl (wt hS rfl rfl rfl rfl) rfl rfl rfl (v := .pointer (some ⟨i9, of10 + (p0_6).toNat * 1, none⟩)) (aop_ia (hS.lk rfl) (hS.lk rfl) te22 hk3) fun s rs hS hq => ?_
 replace hq := hq.more i9 rfl rfl rfl
 refine K.ld hS hq rfl (wt hS rfl rfl rfl rfl) rfl rfl rfl (hS.fat hF11) tg3 (v := .int .i64 (gt p0_2 p0_6)) hN6 1 rfl rfl fun s rs hS hq => (K.seg tbok hS hq 3 [34] [.bool ((gt p0_2 p0_6) == 0)] (by kernel_rfl) fun s rs hS hq => ?_)
 refine bc h (fun hc12 h => ?_) fun hc12 h => ?_
 replace hS := hS.kb 34 hc12 rfl
 refine K.seg tbok hS hq 4 [35, 38] [.func (.func 62) #[] #[], .pointer (some ⟨ip0_1, 0, none⟩)] (by kernel_rfl) fun s rs hS hq => (K.ld hS hq rfl (wt hS rfl rfl rfl rfl) rfl rfl rfl (hS.at (k := 0) rfl) tg9 (v := strV p0_1) rfl 0 rfl rfl fun s rs hS hq => ?_)
 refine K.seg tbok hS hq 3 [42] [.pointer (some ⟨ip0_1, 2, none⟩)] (by kernel_rfl) fun s rs hS hq => (K.ld hS hq rfl (wt hS rfl rfl rfl rfl) rfl rfl rfl (hS.at (k := 0) rfl) tg3 (v := .int .i64 p0_6) rfl 0 rfl rfl fun s rs hS hq => ?_)
 obtain ⟨hk13, h⟩ := ite_some h
 refine K.pu hS hq rfl (wt hS rfl rfl rfl rfl) rfl rfl rfl (v := vB (gt p0_1 p0_6)) (aop_idxS tu9 (hS.lk rfl) (hS.lk rfl) hk13) fun s rs hS hq => ?_
 obtain ⟨y14, hy14, h⟩ := bind_some h
 refine K.cl hS hq rfl (wt hS rfl rfl rfl rfl) (vs := [vB (gt p0_1 p0_6)]) (ws := [vB (gt p0_1 p0_6)]) rfl rfl rfl rfl rfl 0 rfl (g_classify_isDigit.ok hy14)  [0, 1] rfl rfl (aw_c rfl mm0 (aw_f rfl hF11 aw_n)) fun s rs v S' F' hp15 hF hS hq => ?_
 obtain ⟨rfl, rfl, rfl⟩ := hp15
 refine K.seg tbok hS hq 2 [4] [.bool y14] (by kernel_rfl) fun s rs hS hq => (KW.nil ?_)
 refine WW.ret ?_
 cases h
 exact fin1 hS (.inr rfl) 4 rfl rfl ⟨rfl, rfl, rfl⟩
 replace hS := hS.kb 34 hc12 rfl
 refine K.seg tbok hS hq 13 [4] [.bool false] (by kernel_rfl) fun s rs hS hq => (KW.nil ?_)
 refine WW.ret ?_
 cases h
 exact fin1 hS (.inr rfl) 4 rfl rfl ⟨rfl, rfl, rfl⟩
 replace hS := hS.kb 21 hc2 rfl
 refine K.seg tbok hS hq 26 [4] [.bool false] (by kernel_rfl) fun s rs hS hq => (KW.nil ?_)
 refine WW.ret ?_
 cases h
 exact fin1 hS (.inr rfl) 4 rfl rfl ⟨rfl, rfl, rfl⟩
 replace hS := hS.kb 8 hc1 rfl
 replace hS := hS.kb 9 hc1 rfl
 refine K.seg tbok hS hq 38 [4] [.bool false] (by kernel_rfl) fun s rs hS hq => (KW.nil ?_)
 refine WW.ret ?_
 cases h
 exact fin1 hS (.inr rfl) 4 rfl rfl ⟨rfl, rfl, rfl⟩
/-! ### (*formulary/classify.match).digits (146) -/
noncomputable def g_classify_match_digits.b0 (p0_1 : List UInt8) (p0_2 : List Int) (p0_12 : Bool) (x1 : Int) : Option ((Int) ⊕ (Int)) :=
  Option.bind (g_classify_match_is_4.f p0_1 p0_2 x1 p0_12) fun y5 => (if y5 then some (.inl (w64 (x1 + 1))) else some (.inr x1))
noncomputable def g_classify_match_digits.f (p0_1 : List UInt8) (p0_2 : List Int) (p0_6 : Int) (p0_12 : Bool) : Option (List UInt8 × Int × Bool) :=
  Option.bind (iter (g_classify_match_digits.b0 p0_1 p0_2 p0_12) p0_6) fun o2 => Option.bind (g_classify_match_must.f p0_12 (decide (o2 > p0_6))) fun y8 => (if 0 ≤ p0_6 ∧ p0_6 ≤ o2 ∧ o2 ≤ (p0_1.length : Int) then some ((mid p0_1 p0_6 o2), o2, y8) else none)
set_option maxHeartbeats 4000000 in
theorem g_classify_match_digits.ok {ip0_1 : Nat} {ap0_4 : Option Addr} {zp0_5 : Nat} {ap0_9 : Option Addr} {zp0_10 : Nat} {Bp0_12 : Seg} {p0_1 : List UInt8} {p0_2 : List Int} {p0_6 : Int} {p0_7 : List Int} {p0_12 : Bool} {F : FZ} {r : List UInt8 × Int × Bool} (h : g_classify_match_digits.f p0_1 p0_2 p0_6 p0_12 = some r) (hp0_6 : Frz (elI .i64 3) F ap0_4 zp0_5 p0_2) :
    Cl EV 146 [.pointer (some ⟨ip0_1, 0, none⟩)] [[(ip0_1, .row [strV p0_1, .slice ap0_4 p0_2.length zp0_5, .int .i64 p0_6, .slice ap0_9 p0_7.length zp0_10, .bool p0_12] 99 0 true)], Bp0_12] F (fun v S' F' => F = F' ∧ v = strV r.1 ∧ S' = [[(ip0_1, .row [strV p0_1, .slice ap0_4 p0_2.length zp0_5, .int .i64 r.2.1, .slice ap0_9 p0_7.length zp0_10, .bool r.2.2] 99 0 true)], Bp0_12]) := by
 refine Cl.of Tryz.func146 rfl (fun _ _ => rfl) (by kernel_rfl) fun s L nx0 hS => ?_
 unfold g_classify_match_digits.f at h
 refine WW.seq (WW.region ?_)
 refine q_seg0 tbok hS 1 [] [2] [strV ([])] [] (by kernel_rfl) fun s hS => (KW.nil ?_)
 refine WW.seq (WW.region ?_)
 refine q_seg0 tbok hS 5 [0] [3] [.int .i64 p0_6] [ip0_1] (by kernel_rfl) fun s hS => (KW.nil ?_)
 refine WW.seq (WW.block ?_)
 obtain ⟨o2, ho2, h⟩ := bind_some h
 refine WW.loop (LW.iter ho2 (fun (x1 : Int) s => Stt EV s [(0, .pointer (some ⟨ip0_1, 0, none⟩)), (2, strV ([])), (3, .int .i64 p0_6)] [[(ip0_1, .row [strV p0_1, .slice ap0_4 p0_2.length zp0_5, .int .i64 x1, .slice ap0_9 p0_7.length zp0_10, .bool p0_12] 99 0 true)], Bp0_12] F L F nx0) (fun (y3 : Int) e s => (e = .exit 0 ∧ Stt EV s [(0, .pointer (some ⟨ip0_1, 0, none⟩)), (2, strV ([])), (3, .int .i64 p0_6)] [[(ip0_1, .row [strV p0_1, .slice ap0_4 p0_2.length zp0_5, .int .i64 y3, .slice ap0_9 p0_7.length zp0_10, .bool p0_12] 99 0 true)], Bp0_12] F L F nx0)) (hS.subR rfl) ?_ ?_)
 clear hS
 rintro x1 s hS o2' h4
 unfold g_classify_match_digits.b0 at h4
 refine WW.seq (WW.seq ?_)
 refine WW.region ?_
 obtain ⟨y5, hy5, h4⟩ := bind_some h4
 refine q_cR (g_classify_match_is_4.ok hy5 hp0_6) tbok hS 1 9 2 rfl (by kernel_rfl) fun s hS => (KW.nil ?_)
 refine bc h4 (fun hc7 h4 => ?_) fun hc7 h4 => ?_
 refine WW.condK hS rfl hc7 (WW.skip ?_)
 refine WW.block (WW.region ?_)
 refine q_seg tbok hS 8 [0, 0] [] [] [ip0_1, ip0_1] [[(ip0_1, .row [strV p0_1, .slice ap0_4 p0_2.length zp0_5, .int .i64 (w64 (x1 + 1)), .slice ap0_9 p0_7.length zp0_10, .bool p0_12] 99 0 true)], Bp0_12] (by kernel_rfl) fun s hS => (KW.nil ?_)
 obtain rfl := Option.some.inj h4
 exact ⟨_, rfl, (hS.subR rfl)⟩
 refine WW.condF hS rfl hc7 (WW.exit ?_)
 refine thenQ_exit ?_
 obtain rfl := Option.some.inj h4
 exact ⟨_, rfl, rfl, (hS.subR rfl)⟩
 clear hS
 rintro e s ⟨rfl, hS⟩
 refine blockQ_exit (WW.seq ?_)
 refine WW.region (q_seg0 tbok hS 7 [0] [17, 23] [.pointer (some ⟨ip0_1, 0, none⟩), .bool (decide (o2 > p0_6))] [ip0_1] (by kernel_rfl) fun s hS => ?_)
 obtain ⟨y8, hy8, h⟩ := bind_some h
 refine q_cl hS (wn rfl) (vs := [.pointer (some ⟨ip0_1, 0, none⟩), .bool (decide (o2 > p0_6))]) (ws := [.pointer (some ⟨ip0_1, 0, none⟩), .bool (decide (o2 > p0_6))]) rfl rfl rfl rfl rfl 2 rfl (g_classify_match_must.ok hy8) fun s v S' F' hp9 hF hS => ?_
 obtain ⟨rfl, rfl, rfl⟩ := hp9
 refine KW.nil (WW.seq ?_)
 refine WW.regionD (i := [[], [], [], [], [3, 2, 1, 0], [4, 3, 2, 1, 0], [4, 3, 2, 1, 0], [4, 3, 2, 1, 0], [4, 3, 2, 1, 0], [], []]) (by kernel_rfl) ?_
 have hq := RS.start [ip0_1]
 refine K.seg tbok hS hq 3 [27] [.pointer (some ⟨ip0_1, 0, none⟩)] (by kernel_rfl) fun s rs hS hq => (K.ld hS hq rfl (wn rfl) rfl rfl rfl (hS.at (k := 0) rfl) tg9 (v := strV p0_1) rfl 0 rfl rfl fun s rs hS hq => ?_)
 refine K.seg tbok hS hq 4 [29, 32] [.int .i64 p0_6, .pointer (some ⟨ip0_1, 2, none⟩)] (by kernel_rfl) fun s rs hS hq => (K.ld hS hq rfl (wn rfl) rfl rfl rfl (hS.at (k := 0) rfl) tg3 (v := .int .i64 o2) rfl 0 rfl rfl fun s rs hS hq => ?_)
 obtain ⟨hk10, h⟩ := ite_some h
 refine K.pu hS hq rfl (wn rfl) rfl rfl rfl (v := strV (mid p0_1 p0_6 o2)) (aop_slS tu9 (hS.lk rfl) (i := p0_6) (j := o2) (bnd_eq hS rfl) (bnd_eq hS rfl) hk10) fun s rs hS hq => (K.seg tbok hS hq 1 [2] [strV (mid p0_1 p0_6 o2)] (by kernel_rfl) fun s rs hS hq => ?_)
 refine KW.nil (WW.ret ?_)
 cases h
 exact fin1 hS (.inr rfl) 2 rfl rfl ⟨rfl, rfl, rfl⟩
/-! ### (*formulary/classify.match).entity (110) -/
noncomputable def g_classify_match_entity.f (p0_1 : List UInt8) (p0_2 : List Int) (p0_6 : Int) (p0_12 : Bool) : Option (Int × Bool) :=
  Option.bind (g_classify_match_name.f p0_1 p0_2 p0_6 p0_12) fun y1 => Option.bind (g_classify_match_maybeParens.f p0_1 p0_2 y1.1 y1.2) fun y3 => Option.bind (g_classify_match_takes.f p0_1 p0_2 y3.1 y3.2 42) fun y5 => (if (!y5.1) then some (y5.2, y3.2) else Option.bind (g_classify_match_isParens.f p0_1 p0_2 y5.2 y3.2) fun y8 => (if y8 then Option.bind (g_classify_match_parens.f p0_1 p0_2 y5.2 y3.2) fun y11 => some (y11.1, y11.2) else Option.bind (g_classify_match_digits.f p0_1 p0_2 y5.2 y3.2) fun y13 => some (y13.2.1, y13.2.2)))
set_option maxHeartbeats 4000000 in
theorem g_classify_match_entity.ok {ip0_1 : Nat} {ap0_4 : Option Addr} {zp0_5 : Nat} {ap0_9 : Option Addr} {zp0_10 : Nat} {Bp0_12 : Seg} {p0_1 : List UInt8} {p0_2 : List Int} {p0_6 : Int} {p0_7 : List Int} {p0_12 : Bool} {F : FZ} {r : Int × Bool} (h : g_classify_match_entity.f p0_1 p0_2 p0_6 p0_12 = some r) (hp0_6 : Frz (elI .i64 3) F ap0_4 zp0_5 p0_2) :
    Cl EV 110 [.pointer (some ⟨ip0_1, 0, none⟩)] [[(ip0_1, .row [strV p0_1, .slice ap0_4 p0_2.length zp0_5, .int .i64 p0_6, .slice ap0_9 p0_7.length zp0_10, .bool p0_12] 99 0 true)], Bp0_12] F (fun v S' F' => F = F' ∧ v = .tuple #[] ∧ S' = [[(ip0_1, .row [strV p0_1, .slice ap0_4 p0_2.length zp0_5, .int .i64 r.1, .slice ap0_9 p0_7.length zp0_10, .bool r.2] 99 0 true)], Bp0_12]) := by
 refine Cl.of Tryz.func110 rfl (fun _ _ => rfl) (by kernel_rfl) fun s L nx0 hS => ?_
 unfold g_classify_match_entity.f at h
 refine WW.seq (WW.region ?_)
 obtain ⟨y1, hy1, h⟩ := bind_some h
 refine q_cR (g_classify_match_name.ok hy1 hp0_6) tbok hS 1 3 2 rfl (by kernel_rfl) fun s hS => (KW.nil ?_)
 refine WW.seq (WW.region ?_)
 obtain ⟨y3, hy3, h⟩ := bind_some h
 refine q_cR (g_classify_match_maybeParens.ok hy3 hp0_6) tbok hS 1 5 2 rfl (by kernel_rfl) fun s hS => (KW.nil ?_)
 refine WW.seq (WW.seq ?_)
 refine WW.region ?_
 obtain ⟨y5, hy5, h⟩ := bind_some h
 refine q_cR (g_classify_match_takes.ok hy5 hp0_6) tbok hS 1 7 2 rfl (by kernel_rfl) fun s hS => (q_seg0 tbok hS 1 [] [8] [.bool (!y5.1)] [] (by kernel_rfl) fun s hS => ?_)
 refine KW.nil (bc h (fun hc7 h => ?_) fun hc7 h => ?_)
 refine WW.condK hS rfl hc7 (WW.ret ?_)
 cases h
 exact fin0 hS (.inr rfl) rfl ⟨rfl, rfl, rfl⟩
 refine WW.condF hS rfl hc7 (WW.skip ?_)
 refine WW.seq (WW.region ?_)
 obtain ⟨y8, hy8, h⟩ := bind_some h
 refine q_cR (g_classify_match_isParens.ok hy8 hp0_6) tbok hS 1 10 2 rfl (by kernel_rfl) fun s hS => (KW.nil ?_)
 refine bc h (fun hc10 h => ?_) fun hc10 h => ?_
 refine WW.condK hS rfl hc10 (WW.region ?_)
 obtain ⟨y11, hy11, h⟩ := bind_some h
 refine q_cR (g_classify_match_parens.ok hy11 hp0_6) tbok hS 1 12 2 rfl (by kernel_rfl) fun s hS => (KW.nil ?_)
 cases h
 exact fin0 hS (.inl rfl) rfl ⟨rfl, rfl, rfl⟩
 refine WW.condF hS rfl hc10 (WW.region ?_)
 obtain ⟨y13, hy13, h⟩ := bind_some h
 refine q_cR (g_classify_match_digits.ok hy13 hp0_6) tbok hS 1 14 2 rfl (by kernel_rfl) fun s hS => (KW.nil ?_)
 cases h
 exact fin0 hS (.inl rfl) rfl ⟨rfl, rfl, rfl⟩
/-! ### (*formulary/classify.match).list (109) -/
noncomputable def g_classify_match_list_1.b0 (p0_1 : List UInt8) (p0_2 : List Int) (x3 : Int × Bool) : Option ((Int × Bool) ⊕ (Int × Bool)) :=
  (if x3.2 then Option.bind (g_classify_match_takes.f p0_1 p0_2 x3.1 x3.2 44) fun y8 => (if y8.1 then Option.bind (g_classify_match_entity.f p0_1 p0_2 y8.2 x3.2) fun y11 => some (.inl (y11.1, y11.2)) else some (.inr (y8.2, x3.2))) else some (.inr (x3.1, x3.2)))
noncomputable def g_classify_match_list_1.f (p0_1 : List UInt8) (p0_2 : List Int) (p0_6 : Int) (p0_12 : Bool) : Option (Int × Bool) :=
  Option.bind (g_classify_match_entity.f p0_1 p0_2 p0_6 p0_12) fun y1 => Option.bind (iter (g_classify_match_list_1.b0 p0_1 p0_2) (y1.1, y1.2)) fun o4 => some (o4.1, o4.2)
set_option maxHeartbeats 4000000 in
theorem g_classify_match_list_1.ok {ip0_1 : Nat} {ap0_4 : Option Addr} {zp0_5 : Nat} {ap0_9 : Option Addr} {zp0_10 : Nat} {Bp0_12 : Seg} {p0_1 : List UInt8} {p0_2 : List Int} {p0_6 : Int} {p0_7 : List Int} {p0_12 : Bool} {F : FZ} {r : Int × Bool} (h : g_classify_match_list_1.f p0_1 p0_2 p0_6 p0_12 = some r) (hp0_6 : Frz (elI .i64 3) F ap0_4 zp0_5 p0_2) :
    Cl EV 109 [.pointer (some ⟨ip0_1, 0, none⟩), .func (.func 110) #[.pointer (some ⟨ip0_1, 0, none⟩)] #[]] [[(ip0_1, .row [strV p0_1, .slice ap0_4 p0_2.length zp0_5, .int .i64 p0_6, .slice ap0_9 p0_7.length zp0_10, .bool p0_12] 99 0 true)], Bp0_12] F (fun v S' F' => F = F' ∧ v = .tuple #[] ∧ S' = [[(ip0_1, .row [strV p0_1, .slice ap0_4 p0_2.length zp0_5, .int .i64 r.1, .slice ap0_9 p0_7.length zp0_10, .bool r.2] 99 0 true)], Bp0_12]) := by
 refine Cl.of Tryz.func109 rfl (fun _ _ => rfl) (by kernel_rfl) fun s L nx0 hS => ?_
 unfold g_classify_match_list_1.f at h
 refine WW.seq (WW.region ?_)
 obtain ⟨y1, hy1, h⟩ := bind_some h
 refine q_cR (g_classify_match_entity.ok hy1 hp0_6) tbok hS 1 5 2 rfl (by kernel_rfl) fun s hS => (KW.nil ?_)
 refine WW.block ?_
 obtain ⟨o4, ho4, h⟩ := bind_some h
 refine WW.loop (LW.iter ho4 (fun (x3 : Int × Bool) s => Stt EV s [(0, .pointer (some ⟨ip0_1, 0, none⟩)), (1, .func (.func 110) #[.pointer (some ⟨ip0_1, 0, none⟩)] #[])] [[(ip0_1, .row [strV p0_1, .slice ap0_4 p0_2.length zp0_5, .int .i64 x3.1, .slice ap0_9 p0_7.length zp0_10, .bool x3.2] 99 0 true)], Bp0_12] F L F nx0) (fun (y5 : Int × Bool) e s => (e = .exit 0 ∧ Stt EV s [(0, .pointer (some ⟨ip0_1, 0, none⟩)), (1, .func (.func 110) #[.pointer (some ⟨ip0_1, 0, none⟩)] #[])] [[(ip0_1, .row [strV p0_1, .slice ap0_4 p0_2.length zp0_5, .int .i64 y5.1, .slice ap0_9 p0_7.length zp0_10, .bool y5.2] 99 0 true)], Bp0_12] F L F nx0)) (hS.subR rfl) ?_ ?_)
 clear hS
 rintro x3 s hS o4' h6
 unfold g_classify_match_list_1.b0 at h6
 refine WW.seq (WW.seq ?_)
 refine WW.region (q_seg0 tbok hS 5 [0] [10] [.bool x3.2] [ip0_1] (by kernel_rfl) fun s hS => ?_)
 refine bc h6 (fun hc7 h6 => ?_) fun hc7 h6 => ?_
 replace hS := hS.kb 10 hc7 rfl
 refine q_seg0 tbok hS 1 [] [11] [.pointer (some ⟨ip0_1, 0, none⟩)] [] (by kernel_rfl) fun s hS => ?_
 obtain ⟨y8, hy8, h6⟩ := bind_some h6
 refine q_cl hS (wt hS rfl rfl rfl rfl) (vs := [.pointer (some ⟨ip0_1, 0, none⟩), vB 44]) (ws := [.pointer (some ⟨ip0_1, 0, none⟩), vB 44]) rfl rfl rfl rfl rfl 2 rfl (g_classify_match_takes.ok hy8 hp0_6) fun s v S' F' hp9 hF hS => ?_
 obtain ⟨rfl, rfl, rfl⟩ := hp9
 refine q_seg0 tbok hS 1 [] [13] [.bool y8.1] [] (by kernel_rfl) fun s hS => (KW.nil ?_)
 refine bc h6 (fun hc10 h6 => ?_) fun hc10 h6 => ?_
 refine WW.condK hS rfl hc10 (WW.skip ?_)
 refine WW.block (WW.region ?_)
 obtain ⟨y11, hy11, h6⟩ := bind_some h6
 refine q_cR (g_classify_match_entity.ok hy11 hp0_6) tbok hS 1 15 2 rfl (by kernel_rfl) fun s hS => (KW.nil ?_)
 obtain rfl := Option.some.inj h6
 exact ⟨_, rfl, (hS.subR rfl)⟩
 refine WW.condF hS rfl hc10 (WW.exit ?_)
 refine thenQ_exit ?_
 obtain rfl := Option.some.inj h6
 exact ⟨_, rfl, rfl, (hS.subR rfl)⟩
 replace hS := hS.kb 10 hc7 rfl
 refine q_seg0 tbok hS 3 [] [13] [.bool false] [] (by kernel_rfl) fun s hS => (KW.nil ?_)
 refine WW.condF hS rfl rfl (WW.exit ?_)
 refine thenQ_exit ?_
 obtain rfl := Option.some.inj h6
 exact ⟨_, rfl, rfl, (hS.subR rfl)⟩
 clear hS
 rintro e s ⟨rfl, hS⟩
 refine blockQ_exit ?_
 cases h
 exact fin0 hS (.inl rfl) rfl ⟨rfl, rfl, rfl⟩
/-! ### (*formulary/classify.match).label (147) -/
noncomputable def g_classify_match_label.f (p0_1 : List UInt8) (p0_2 : List Int) (p0_6 : Int) (p0_12 : Bool) : Option (Int × Bool) :=
  Option.bind (g_classify_match_digits.f p0_1 p0_2 p0_6 p0_12) fun y1 => Option.bind ((if (decide ((y1.1.length : Int) ≤ 5)) then Option.bind (g_Trim.f y1.1 ([48])) fun y5 => some (!decide (y5 = [])) else some false)) fun z3 => Option.bind (g_classify_match_must.f y1.2.2 z3) fun y7 => some (y1.2.1, y7)
set_option maxHeartbeats 4000000 in
theorem g_classify_match_label.ok {ip0_1 : Nat} {ap0_4 : Option Addr} {zp0_5 : Nat} {ap0_9 : Option Addr} {zp0_10 : Nat} {Bp0_12 : Seg} {p0_1 : List UInt8} {p0_2 : List Int} {p0_6 : Int} {p0_7 : List Int} {p0_12 : Bool} {F : FZ} {r : Int × Bool} (h : g_classify_match_label.f p0_1 p0_2 p0_6 p0_12 = some r) (hp0_6 : Frz (elI .i64 3) F ap0_4 zp0_5 p0_2) :
    Cl EV 147 [.pointer (some ⟨ip0_1, 0, none⟩)] [[(ip0_1, .row [strV p0_1, .slice ap0_4 p0_2.length zp0_5, .int .i64 p0_6, .slice ap0_9 p0_7.length zp0_10, .bool p0_12] 99 0 true)], Bp0_12] F (fun v S' F' => F = F' ∧ v = .tuple #[] ∧ S' = [[(ip0_1, .row [strV p0_1, .slice ap0_4 p0_2.length zp0_5, .int .i64 r.1, .slice ap0_9 p0_7.length zp0_10, .bool r.2] 99 0 true)], Bp0_12]) := by
 refine Cl.of Tryz.func147 rfl (fun _ _ => rfl) (by kernel_rfl) fun s L nx0 hS => ?_
 unfold g_classify_match_label.f at h
 refine WW.seq (WW.region ?_)
 obtain ⟨y1, hy1, h⟩ := bind_some h
 refine q_cR (g_classify_match_digits.ok hy1 hp0_6) tbok hS 1 4 2 rfl (by kernel_rfl) fun s hS => (q_seg0 tbok hS 1 [] [2] [strV y1.1] [] (by kernel_rfl) fun s hS => ?_)
 refine KW.nil (WW.region ?_)
 refine q_seg0 tbok hS 5 [] [5, 9] [.pointer (some ⟨ip0_1, 0, none⟩), .bool (decide ((y1.1.length : Int) ≤ 5))] [] (by kernel_rfl) fun s hS => ?_
 obtain ⟨z3, hz3, h⟩ := bind_some h
 refine q_cut 4 (fun s => Stt EV s [(13, .bool z3), (5, .pointer (some ⟨ip0_1, 0, none⟩))] [[(ip0_1, .row [strV p0_1, .slice ap0_4 p0_2.length zp0_5, .int .i64 y1.2.1, .slice ap0_9 p0_7.length zp0_10, .bool y1.2.2] 99 0 true)], Bp0_12] F L F nx0) ?_ fun s hS => ?_
 refine bc hz3 (fun hc4 hz3 => ?_) fun hc4 hz3 => ?_
 replace hS := hS.kb 9 hc4 rfl
 refine q_seg0 tbok hS 1 [] [10] [strV y1.1] [] (by kernel_rfl) fun s hS => ?_
 obtain ⟨y5, hy5, hz3⟩ := bind_some hz3
 refine q_cl hS (wt hS rfl rfl rfl rfl) (vs := [strV y1.1, strV ([48])]) (ws := [strV y1.1, strV ([48])]) rfl rfl rfl rfl rfl 0 rfl (g_Trim.ok hy5) fun s v S' F' hp6 hF hS => ?_
 obtain ⟨rfl, rfl, rfl⟩ := hp6
 refine q_pu hS (wt hS rfl rfl rfl rfl) rfl rfl rfl (v := .bool (!decide (y5 = []))) (aop_sne (hS.lk rfl) (hS.lk rfl)) fun s hS => (q_seg0 tbok hS 1 [] [13] [.bool (!decide (y5 = []))] [] (by kernel_rfl) fun s hS => ?_)
 refine KW.nil ?_
 obtain rfl := Option.some.inj hz3
 exact hS.subR rfl
 replace hS := hS.kb 9 hc4 rfl
 refine q_seg0 tbok hS 4 [] [13] [.bool false] [] (by kernel_rfl) fun s hS => (KW.nil ?_)
 obtain rfl := Option.some.inj hz3
 exact hS.subR rfl
 obtain ⟨y7, hy7, h⟩ := bind_some h
 refine q_cR (g_classify_match_must.ok hy7) tbok hS 0 14 2 rfl (by kernel_rfl) fun s hS => (KW.nil ?_)
 cases h
 exact fin0 hS (.inl rfl) rfl ⟨rfl, rfl, rfl⟩
/-! ### (*formulary/classify.match).list (109) -/
noncomputable def g_classify_match_list_2.b0 (p0_1 : List UInt8) (p0_2 : List Int) (x3 : Int × Bool) : Option ((Int × Bool) ⊕ (Int × Bool)) :=
  (if x3.2 then Option.bind (g_classify_match_takes.f p0_1 p0_2 x3.1 x3.2 44) fun y8 => (if y8.1 then Option.bind (g_classify_match_label.f p0_1 p0_2 y8.2 x3.2) fun y11 => some (.inl (y11.1, y11.2)) else some (.inr (y8.2, x3.2))) else some (.inr (x3.1, x3.2)))
noncomputable def g_classify_match_list_2.f (p0_1 : List UInt8) (p0_2 : List Int) (p0_6 : Int) (p0_12 : Bool) : Option (Int × Bool) :=
  Option.bind (g_classify_match_label.f p0_1 p0_2 p0_6 p0_12) fun y1 => Option.bind (iter (g_classify_match_list_2.b0 p0_1 p0_2) (y1.1, y1.2)) fun o4 => some (o4.1, o4.2)
set_option maxHeartbeats 4000000 in
theorem g_classify_match_list_2.ok {ip0_1 : Nat} {ap0_4 : Option Addr} {zp0_5 : Nat} {ap0_9 : Option Addr} {zp0_10 : Nat} {Bp0_12 : Seg} {p0_1 : List UInt8} {p0_2 : List Int} {p0_6 : Int} {p0_7 : List Int} {p0_12 : Bool} {F : FZ} {r : Int × Bool} (h : g_classify_match_list_2.f p0_1 p0_2 p0_6 p0_12 = some r) (hp0_6 : Frz (elI .i64 3) F ap0_4 zp0_5 p0_2) :
    Cl EV 109 [.pointer (some ⟨ip0_1, 0, none⟩), .func (.func 147) #[.pointer (some ⟨ip0_1, 0, none⟩)] #[]] [[(ip0_1, .row [strV p0_1, .slice ap0_4 p0_2.length zp0_5, .int .i64 p0_6, .slice ap0_9 p0_7.length zp0_10, .bool p0_12] 99 0 true)], Bp0_12] F (fun v S' F' => F = F' ∧ v = .tuple #[] ∧ S' = [[(ip0_1, .row [strV p0_1, .slice ap0_4 p0_2.length zp0_5, .int .i64 r.1, .slice ap0_9 p0_7.length zp0_10, .bool r.2] 99 0 true)], Bp0_12]) := by
 refine Cl.of Tryz.func109 rfl (fun _ _ => rfl) (by kernel_rfl) fun s L nx0 hS => ?_
 unfold g_classify_match_list_2.f at h
 refine WW.seq (WW.region ?_)
 obtain ⟨y1, hy1, h⟩ := bind_some h
 refine q_cR (g_classify_match_label.ok hy1 hp0_6) tbok hS 1 5 2 rfl (by kernel_rfl) fun s hS => (KW.nil ?_)
 refine WW.block ?_
 obtain ⟨o4, ho4, h⟩ := bind_some h
 refine WW.loop (LW.iter ho4 (fun (x3 : Int × Bool) s => Stt EV s [(0, .pointer (some ⟨ip0_1, 0, none⟩)), (1, .func (.func 147) #[.pointer (some ⟨ip0_1, 0, none⟩)] #[])] [[(ip0_1, .row [strV p0_1, .slice ap0_4 p0_2.length zp0_5, .int .i64 x3.1, .slice ap0_9 p0_7.length zp0_10, .bool x3.2] 99 0 true)], Bp0_12] F L F nx0) (fun (y5 : Int × Bool) e s => (e = .exit 0 ∧ Stt EV s [(0, .pointer (some ⟨ip0_1, 0, none⟩)), (1, .func (.func 147) #[.pointer (some ⟨ip0_1, 0, none⟩)] #[])] [[(ip0_1, .row [strV p0_1, .slice ap0_4 p0_2.length zp0_5, .int .i64 y5.1, .slice ap0_9 p0_7.length zp0_10, .bool y5.2] 99 0 true)], Bp0_12] F L F nx0)) (hS.subR rfl) ?_ ?_)
 clear hS
 rintro x3 s hS o4' h6
 unfold g_classify_match_list_2.b0 at h6
 refine WW.seq (WW.seq ?_)
 refine WW.region (q_seg0 tbok hS 5 [0] [10] [.bool x3.2] [ip0_1] (by kernel_rfl) fun s hS => ?_)
 refine bc h6 (fun hc7 h6 => ?_) fun hc7 h6 => ?_
 replace hS := hS.kb 10 hc7 rfl
 refine q_seg0 tbok hS 1 [] [11] [.pointer (some ⟨ip0_1, 0, none⟩)] [] (by kernel_rfl) fun s hS => ?_
 obtain ⟨y8, hy8, h6⟩ := bind_some h6
 refine q_cl hS (wt hS rfl rfl rfl rfl) (vs := [.pointer (some ⟨ip0_1, 0, none⟩), vB 44]) (ws := [.pointer (some ⟨ip0_1, 0, none⟩), vB 44]) rfl rfl rfl rfl rfl 2 rfl (g_classify_match_takes.ok hy8 hp0_6) fun s v S' F' hp9 hF hS => ?_
 obtain ⟨rfl, rfl, rfl⟩ := hp9
 refine q_seg0 tbok hS 1 [] [13] [.bool y8.1] [] (by kernel_rfl) fun s hS => (KW.nil ?_)
 refine bc h6 (fun hc10 h6 => ?_) fun hc10 h6 => ?_
 refine WW.condK hS rfl hc10 (WW.skip ?_)
 refine WW.block (WW.region ?_)
 obtain ⟨y11, hy11, h6⟩ := bind_some h6
 refine q_cR (g_classify_match_label.ok hy11 hp0_6) tbok hS 1 15 2 rfl (by kernel_rfl) fun s hS => (KW.nil ?_)
 obtain rfl := Option.some.inj h6
 exact ⟨_, rfl, (hS.subR rfl)⟩
 refine WW.condF hS rfl hc10 (WW.exit ?_)
 refine thenQ_exit ?_
 obtain rfl := Option.some.inj h6
 exact ⟨_, rfl, rfl, (hS.subR rfl)⟩
 replace hS := hS.kb 10 hc7 rfl
 refine q_seg0 tbok hS 3 [] [13] [.bool false] [] (by kernel_rfl) fun s hS => (KW.nil ?_)
 refine WW.condF hS rfl rfl (WW.exit ?_)
 refine thenQ_exit ?_
 obtain rfl := Option.some.inj h6
 exact ⟨_, rfl, rfl, (hS.subR rfl)⟩
 clear hS
 rintro e s ⟨rfl, hS⟩
 refine blockQ_exit ?_
 cases h
 exact fin0 hS (.inl rfl) rfl ⟨rfl, rfl, rfl⟩
/-! ### (*formulary/classify.match).whole (85) -/
noncomputable def g_classify_match_whole.f (p0_1 : List UInt8) (p0_6 : Int) (p0_12 : Bool) : Option (Bool) :=
  (if p0_12 then some (p0_6 == (p0_1.length : Int)) else some false)
set_option maxHeartbeats 4000000 in
theorem g_classify_match_whole.ok {ip0_1 : Nat} {ap0_4 : Option Addr} {zp0_5 : Nat} {ap0_9 : Option Addr} {zp0_10 : Nat} {Bp0_12 : Seg} {p0_1 : List UInt8} {p0_2 : List Int} {p0_6 : Int} {p0_7 : List Int} {p0_12 : Bool} {F : FZ} {r : Bool} (h : g_classify_match_whole.f p0_1 p0_6 p0_12 = some r) :
    Cl EV 85 [.pointer (some ⟨ip0_1, 0, none⟩)] [[(ip0_1, .row [strV p0_1, .slice ap0_4 p0_2.length zp0_5, .int .i64 p0_6, .slice ap0_9 p0_7.length zp0_10, .bool p0_12] 99 0 true)], Bp0_12] F (fun v S' F' => F = F' ∧ v = .bool r ∧ S' = [[(ip0_1, .row [strV p0_1, .slice ap0_4 p0_2.length zp0_5, .int .i64 p0_6, .slice ap0_9 p0_7.length zp0_10, .bool p0_12] 99 0 true)], Bp0_12]) := by
 refine Cl.of Tryz.func85 rfl (fun _ _ => rfl) (by kernel_rfl) fun s L nx0 hS => ?_
 unfold g_classify_match_whole.f at h
 refine WW.seq (WW.region ?_)
 refine q_seg0 tbok hS 1 [] [2] [.bool false] [] (by kernel_rfl) fun s hS => (KW.nil ?_)
 refine WW.seq (WW.regionD (i := [[], [], [], [], [], [], [], [], [], [8, 7, 6, 5], [8, 7, 6, 5], [8, 7, 6, 5], [8, 7, 6, 5], [8, 7, 6, 5], [], [], []]) (by kernel_rfl) ?_)
 have hq := RS.start [ip0_1]
 refine K.seg tbok hS hq 3 [5] [.pointer (some ⟨ip0_1, 4, none⟩)] (by kernel_rfl) fun s rs hS hq => (K.ld hS hq rfl (wn rfl) rfl rfl rfl (hS.at (k := 0) rfl) tg4 (v := .bool p0_12) rfl 0 rfl rfl fun s rs hS hq => ?_)
 refine K.seg tbok hS hq 1 [7] [.bool p0_12] (by kernel_rfl) fun s rs hS hq => (bc h (fun hc1 h => ?_) fun hc1 h => ?_)
 replace hS := hS.kb 6 hc1 rfl
 replace hS := hS.kb 7 hc1 rfl
 refine K.seg tbok hS hq 3 [10] [.pointer (some ⟨ip0_1, 2, none⟩)] (by kernel_rfl) fun s rs hS hq => (K.ld hS hq rfl (wt hS rfl rfl rfl rfl) rfl rfl rfl (hS.at (k := 0) rfl) tg3 (v := .int .i64 p0_6) rfl 0 rfl rfl fun s rs hS hq => ?_)
 refine K.seg tbok hS hq 3 [14] [.pointer (some ⟨ip0_1, 0, none⟩)] (by kernel_rfl) fun s rs hS hq => (K.ld hS hq rfl (wt hS rfl rfl rfl rfl) rfl rfl rfl (hS.at (k := 0) rfl) tg9 (v := strV p0_1) rfl 0 rfl rfl fun s rs hS hq => ?_)
 refine K.seg tbok hS hq 4 [2] [.bool (p0_6 == (p0_1.length : Int))] (by kernel_rfl) fun s rs hS hq => (KW.nil ?_)
 refine WW.ret ?_
 cases h
 exact fin1 hS (.inr rfl) 2 rfl rfl ⟨rfl, rfl, rfl⟩
 replace hS := hS.kb 6 hc1 rfl
 replace hS := hS.kb 7 hc1 rfl
 refine K.seg tbok hS hq 12 [2] [.bool false] (by kernel_rfl) fun s rs hS hq => (KW.nil ?_)
 refine WW.ret ?_
 cases h
 exact fin1 hS (.inr rfl) 2 rfl rfl ⟨rfl, rfl, rfl⟩
/-! ### (*formulary/classify.match).labels (148) -/
noncomputable def g_classify_match_labels.f (p0_1 : List UInt8) (p0_2 : List Int) (p0_6 : Int) (p0_12 : Bool) : Option (Int × Bool) :=
  Option.bind (g_classify_match_parens.f p0_1 p0_2 p0_6 p0_12) fun y1 => (if (!y1.2) then some (y1.1, y1.2) else (if 0 ≤ (w64 (p0_6 + 1)) ∧ (w64 (p0_6 + 1)) ≤ (w64 (y1.1 - 1)) ∧ (w64 (y1.1 - 1)) ≤ (p0_1.length : Int) then Option.bind (g_classify_newMatch.f (mid p0_1 (w64 (p0_6 + 1)) (w64 (y1.1 - 1)))) fun y5 => Option.bind (g_classify_match_list_2.f y5.1 y5.2.1 y5.2.2.1 y5.2.2.2.2) fun y17 => Option.bind (g_classify_match_whole.f y5.1 y17.1 y17.2) fun y19 => Option.bind (g_classify_match_must.f y1.2 y19) fun y21 => some (y1.1, y21) else none))
set_option maxHeartbeats 4000000 in
theorem g_classify_match_labels.ok {ip0_1 : Nat} {ap0_4 : Option Addr} {zp0_5 : Nat} {ap0_9 : Option Addr} {zp0_10 : Nat} {Bp0_12 : Seg} {p0_1 : List UInt8} {p0_2 : List Int} {p0_6 : Int} {p0_7 : List Int} {p0_12 : Bool} {F : FZ} {r : Int × Bool} (h : g_classify_match_labels.f p0_1 p0_2 p0_6 p0_12 = some r) (hp0_6 : Frz (elI .i64 3) F ap0_4 zp0_5 p0_2) (hG : Gl F) :
    Cl EV 148 [.pointer (some ⟨ip0_1, 0, none⟩)] [[(ip0_1, .row [strV p0_1, .slice ap0_4 p0_2.length zp0_5, .int .i64 p0_6, .slice ap0_9 p0_7.length zp0_10, .bool p0_12] 99 0 true)], Bp0_12] F (fun v S' F' => FLe F F' ∧ v = .tuple #[] ∧ S' = [[(ip0_1, .row [strV p0_1, .slice ap0_4 p0_2.length zp0_5, .int .i64 r.1, .slice ap0_9 p0_7.length zp0_10, .bool r.2] 99 0 true)], Bp0_12]) := by
 refine Cl.of Tryz.func148 rfl (fun _ _ => rfl) (by kernel_rfl) fun s L nx0 hS => ?_
 unfold g_classify_match_labels.f at h
 refine WW.seq (WW.region ?_)
 refine q_seg0 tbok hS 5 [0] [2] [.int .i64 p0_6] [ip0_1] (by kernel_rfl) fun s hS => (KW.nil ?_)
 refine WW.seq (WW.region ?_)
 obtain ⟨y1, hy1, h⟩ := bind_some h
 refine q_cR (g_classify_match_parens.ok hy1 hp0_6) tbok hS 1 9 2 rfl (by kernel_rfl) fun s hS => (KW.nil ?_)
 refine WW.seq (WW.seq ?_)
 refine WW.region (q_seg0 tbok hS 5 [0] [14] [.bool (!y1.2)] [ip0_1] (by kernel_rfl) fun s hS => ?_)
 refine KW.nil (bc h (fun hc3 h => ?_) fun hc3 h => ?_)
 refine WW.condK hS rfl hc3 (WW.ret ?_)
 cases h
 exact fin0 hS (.inr rfl) rfl ⟨(FLe.refl _), rfl, rfl⟩
 refine WW.condF hS rfl hc3 (WW.skip ?_)
 refine WW.seq (WW.regionD (i := [[], [], [], [], [3, 2, 1, 0], [3, 2, 1, 0], [5, 4, 3, 2, 1, 0], [5, 4, 3, 2, 1, 0], [5, 4, 3, 2, 1, 0], [5, 4, 3, 2, 1, 0], [5, 4, 3, 2, 1, 0], [], [], []]) (by kernel_rfl) ?_)
 have hq := RS.start [ip0_1]
 refine K.seg tbok hS hq 3 [17] [.pointer (some ⟨ip0_1, 0, none⟩)] (by kernel_rfl) fun s rs hS hq => (K.ld hS hq rfl (wn rfl) rfl rfl rfl (hS.at (k := 0) rfl) tg9 (v := strV p0_1) rfl 0 rfl rfl fun s rs hS hq => ?_)
 refine K.seg tbok hS hq 5 [20, 23] [.int .i64 (w64 (p0_6 + 1)), .pointer (some ⟨ip0_1, 2, none⟩)] (by kernel_rfl) fun s rs hS hq => (K.ld hS hq rfl (wn rfl) rfl rfl rfl (hS.at (k := 0) rfl) tg3 (v := .int .i64 y1.1) rfl 0 rfl rfl fun s rs hS hq => ?_)
 refine K.seg tbok hS hq 1 [25] [.int .i64 (w64 (y1.1 - 1))] (by kernel_rfl) fun s rs hS hq => ?_
 obtain ⟨hk4, h⟩ := ite_some h
 refine K.pu hS hq rfl (wn rfl) rfl rfl rfl (v := strV (mid p0_1 (w64 (p0_6 + 1)) (w64 (y1.1 - 1)))) (aop_slS tu9 (hS.lk rfl) (i := (w64 (p0_6 + 1))) (j := (w64 (y1.1 - 1))) (bnd_eq hS rfl) (bnd_eq hS rfl) hk4) fun s rs hS hq => ?_
 obtain ⟨y5, hy5, h⟩ := bind_some h
 refine K.cl hS hq rfl (wn rfl) (vs := [strV (mid p0_1 (w64 (p0_6 + 1)) (w64 (y1.1 - 1)))]) (ws := [strV (mid p0_1 (w64 (p0_6 + 1)) (w64 (y1.1 - 1)))]) rfl rfl rfl rfl rfl 0 rfl (g_classify_newMatch.ok hy5 hG)  [0] rfl rfl (aw_c rfl mm0 aw_n) fun s rs v S' F7 hp6 hF hS hq => ?_
 obtain ⟨i8, a9, z10, a12, z13, B15, hF16, rfl, rfl, h11, h14⟩ := hp6
 refine K.seg tbok hS hq 1 [3] [.pointer (some ⟨i8, 0, none⟩)] (by kernel_rfl) fun s rs hS hq => (KW.nil ?_)
 refine WW.seq (WW.region ?_)
 refine q_seg0 tbok hS 2 [] [28, 29] [.pointer (some ⟨i8, 0, none⟩), .pointer (some ⟨i8, 0, none⟩)] [] (by kernel_rfl) fun s hS => (q_pu hS (wn rfl) rfl rfl rfl (v := .func (.func 147) #[.pointer (some ⟨i8, 0, none⟩)] #[]) (aop_mf (map_lk hS (vs := [.pointer (some ⟨i8, 0, none⟩)]) rfl) (map_lk hS (vs := []) rfl)) fun s hS => ?_)
 obtain ⟨y17, hy17, h⟩ := bind_some h
 refine q_cR (g_classify_match_list_2.ok hy17 h11) tbok hS 0 31 2 rfl (by kernel_rfl) fun s hS => (KW.nil ?_)
 refine WW.region (q_seg0 tbok hS 2 [] [32, 33] [.pointer (some ⟨ip0_1, 0, none⟩), .pointer (some ⟨i8, 0, none⟩)] [] (by kernel_rfl) fun s hS => ?_)
 obtain ⟨y19, hy19, h⟩ := bind_some h
 refine q_cl hS (wn rfl) (vs := [.pointer (some ⟨i8, 0, none⟩)]) (ws := [.pointer (some ⟨i8, 0, none⟩)]) rfl rfl rfl rfl rfl 2 rfl (g_classify_match_whole.ok hy19) fun s v S' F' hp20 hF hS => ?_
 obtain ⟨rfl, rfl, rfl⟩ := hp20
 obtain ⟨y21, hy21, h⟩ := bind_some h
 replace hS := hS.pull 3
 replace hS := hS.pull 3
 refine q_cR (g_classify_match_must.ok hy21) tbok hS 0 35 2 rfl (by kernel_rfl) fun s hS => (KW.nil ?_)
 replace hS := (hS.pull 2).drop
 replace hS := (hS.pull 2).drop
 cases h
 exact fin0 hS (.inl rfl) rfl ⟨(hF16), rfl, rfl⟩
/-! ### (*formulary/classify.match).do (149) -/
noncomputable def g_classify_match_do.f (p0_1 : List UInt8) (p0_2 : List Int) (p0_6 : Int) (p0_7 : List Int) (p0_12 : Bool) : Option (Int × List Int × Bool) :=
  Option.bind (Option.bind (g_classify_match_is_4.f p0_1 p0_2 p0_6 p0_12) fun y6 => (if y6 then Option.bind (g_classify_match_label.f p0_1 p0_2 p0_6 p0_12) fun y9 => Option.bind (g_classify_match_takes.f p0_1 p0_2 y9.1 y9.2 44) fun y11 => (if (!y11.1) then Option.bind (g_classify_match_cut.f p0_1 y11.2 p0_7 y9.2) fun y14 => some (y11.2, y14, y9.2) else some (y11.2, p0_7, y9.2)) else some (p0_6, p0_7, p0_12))) fun z1 => Option.bind (g_classify_match_name.f p0_1 p0_2 z1.1 z1.2.2) fun y20 => Option.bind (g_classify_match_sign.f p0_1 p0_2 y20.1 y20.2 61) fun y22 => Option.bind (g_classify_match_expr.f p0_1 p0_2 y22.1 y22.2) fun y24 => Option.bind (g_classify_match_sign.f p0_1 p0_2 y24.1 y24.2 44) fun y26 => Option.bind (g_classify_match_expr.f p0_1 p0_2 y26.1 y26.2) fun y28 => Option.bind (g_classify_match_takes.f p0_1 p0_2 y28.1 y28.2 44) fun y30 => (if y30.1 then Option.bind (g_classify_match_expr.f p0_1 p0_2 y30.2 y28.2) fun y33 => some (y33.1, z1.2.1, y33.2) else some (y30.2, z1.2.1, y28.2))
set_option maxHeartbeats 4000000 in
theorem g_classify_match_do.ok {ip0_1 : Nat} {ap0_4 : Option Addr} {zp0_5 : Nat} {ap0_9 : Option Addr} {zp0_10 : Nat} {Bp0_12 : Seg} {p0_1 : List UInt8} {p0_2 : List Int} {p0_6 : Int} {p0_7 : List Int} {p0_12 : Bool} {F : FZ} {r : Int × List Int × Bool} (h : g_classify_match_do.f p0_1 p0_2 p0_6 p0_7 p0_12 = some r) (hp0_6 : Frz (elI .i64 3) F ap0_4 zp0_5 p0_2) (hp0_11 : Own (elI .i64 3) F ap0_9 zp0_10 p0_7 Bp0_12) :
    Cl EV 149 [.pointer (some ⟨ip0_1, 0, none⟩)] [[(ip0_1, .row [strV p0_1, .slice ap0_4 p0_2.length zp0_5, .int .i64 p0_6, .slice ap0_9 p0_7.length zp0_10, .bool p0_12] 99 0 true)], Bp0_12] F (fun v S' F' => ∃ (ra1 : Option Addr) (rz2 : Nat) (rB4 : Seg), F = F' ∧ v = .tuple #[] ∧ S' = [[(ip0_1, .row [strV p0_1, .slice ap0_4 p0_2.length zp0_5, .int .i64 r.1, .slice ra1 r.2.1.length rz2, .bool r.2.2] 99 0 true)], rB4] ∧ Own (elI .i64 3) F' ra1 rz2 r.2.1 rB4) := by
 refine Cl.of Tryz.func149 rfl (fun _ _ => rfl) (by kernel_rfl) fun s L nx0 hS => ?_
 unfold g_classify_match_do.f at h
 obtain ⟨z1, hz1, h⟩ := bind_some h
 refine WW.seqJ (fun s => ∃ (a2 : Option Addr) (z3 : Nat) (B5 : Seg), Stt EV s [(0, .pointer (some ⟨ip0_1, 0, none⟩))] [[(ip0_1, .row [strV p0_1, .slice ap0_4 p0_2.length zp0_5, .int .i64 z1.1, .slice a2 z1.2.1.length z3, .bool z1.2.2] 99 0 true)], B5] F L F nx0 ∧ Own (elI .i64 3) F a2 z3 z1.2.1 B5) ?_ ?_
 refine WW.seq (WW.region ?_)
 obtain ⟨y6, hy6, hz1⟩ := bind_some hz1
 refine q_cR (g_classify_match_is_4.ok hy6 hp0_6) tbok hS 1 3 2 rfl (by kernel_rfl) fun s hS => (KW.nil ?_)
 refine bc hz1 (fun hc8 hz1 => ?_) fun hc8 hz1 => ?_
 refine WW.condK hS rfl hc8 (WW.seq ?_)
 refine WW.region ?_
 obtain ⟨y9, hy9, hz1⟩ := bind_some hz1
 refine q_cR (g_classify_match_label.ok hy9 hp0_6) tbok hS 1 5 2 rfl (by kernel_rfl) fun s hS => (KW.nil ?_)
 refine WW.seq (WW.region ?_)
 obtain ⟨y11, hy11, hz1⟩ := bind_some hz1
 refine q_cR (g_classify_match_takes.ok hy11 hp0_6) tbok hS 1 7 2 rfl (by kernel_rfl) fun s hS => (q_seg0 tbok hS 1 [] [8] [.bool (!y11.1)] [] (by kernel_rfl) fun s hS => ?_)
 refine KW.nil (bc hz1 (fun hc13 hz1 => ?_) fun hc13 hz1 => ?_)
 refine WW.condK hS rfl hc13 (WW.region ?_)
 obtain ⟨y14, hy14, hz1⟩ := bind_some hz1
 refine q_cK (g_classify_match_cut.ok hy14 hp0_11) tbok hS 1 10 2 rfl (by kernel_rfl) fun s v S' F' hp15 hF hS => ?_
 obtain ⟨a16, z17, B19, rfl, rfl, rfl, h18⟩ := hp15
 refine KW.nil ?_
 obtain rfl := Option.some.inj hz1
 exact ⟨_, _, _, (hS.subR rfl), h18⟩
 refine WW.condF hS rfl hc13 (WW.skip ?_)
 obtain rfl := Option.some.inj hz1
 exact ⟨_, _, _, (hS.subR rfl), hp0_11⟩
 refine WW.condF hS rfl hc8 (WW.skip ?_)
 obtain rfl := Option.some.inj hz1
 exact ⟨_, _, _, (hS.subR rfl), hp0_11⟩
 rintro s ⟨a2, z3, B5, hS, h4⟩
 refine WW.seq (WW.region ?_)
 obtain ⟨y20, hy20, h⟩ := bind_some h
 refine q_cR (g_classify_match_name.ok hy20 hp0_6) tbok hS 1 12 2 rfl (by kernel_rfl) fun s hS => (KW.nil ?_)
 refine WW.seq (WW.region ?_)
 obtain ⟨y22, hy22, h⟩ := bind_some h
 refine q_cR (g_classify_match_sign.ok hy22 hp0_6) tbok hS 1 14 2 rfl (by kernel_rfl) fun s hS => (KW.nil ?_)
 refine WW.seq (WW.region ?_)
 obtain ⟨y24, hy24, h⟩ := bind_some h
 refine q_cR (g_classify_match_expr.ok hy24 hp0_6) tbok hS 1 16 2 rfl (by kernel_rfl) fun s hS => (KW.nil ?_)
 refine WW.seq (WW.region ?_)
 obtain ⟨y26, hy26, h⟩ := bind_some h
 refine q_cR (g_classify_match_sign.ok hy26 hp0_6) tbok hS 1 18 2 rfl (by kernel_rfl) fun s hS => (KW.nil ?_)
 refine WW.seq (WW.region ?_)
 obtain ⟨y28, hy28, h⟩ := bind_some h
 refine q_cR (g_classify_match_expr.ok hy28 hp0_6) tbok hS 1 20 2 rfl (by kernel_rfl) fun s hS => (KW.nil ?_)
 refine WW.seq (WW.region ?_)
 obtain ⟨y30, hy30, h⟩ := bind_some h
 refine q_cR (g_classify_match_takes.ok hy30 hp0_6) tbok hS 1 22 2 rfl (by kernel_rfl) fun s hS => (KW.nil ?_)
 refine bc h (fun hc32 h => ?_) fun hc32 h => ?_
 refine WW.condK hS rfl hc32 (WW.region ?_)
 obtain ⟨y33, hy33, h⟩ := bind_some h
 refine q_cR (g_classify_match_expr.ok hy33 hp0_6) tbok hS 1 24 2 rfl (by kernel_rfl) fun s hS => (KW.nil ?_)
 cases h
 exact fin0 hS (.inl rfl) rfl ⟨_, _, _, rfl, rfl, rfl, h4⟩
 refine WW.condF hS rfl hc32 (WW.skip ?_)
 cases h
 exact fin0 hS (.inl rfl) rfl ⟨_, _, _, rfl, rfl, rfl, h4⟩
/-! ### (*formulary/classify.match).isMore (150) -/
noncomputable def g_classify_match_isMore.f (p0_1 : List UInt8) (p0_6 : Int) (p0_12 : Bool) : Option (Bool) :=
  (if p0_12 then some (decide (p0_6 < (p0_1.length : Int))) else some false)
set_option maxHeartbeats 4000000 in
theorem g_classify_match_isMore.ok {ip0_1 : Nat} {ap0_4 : Option Addr} {zp0_5 : Nat} {ap0_9 : Option Addr} {zp0_10 : Nat} {Bp0_12 : Seg} {p0_1 : List UInt8} {p0_2 : List Int} {p0_6 : Int} {p0_7 : List Int} {p0_12 : Bool} {F : FZ} {r : Bool} (h : g_classify_match_isMore.f p0_1 p0_6 p0_12 = some r) :
    Cl EV 150 [.pointer (some ⟨ip0_1, 0, none⟩)] [[(ip0_1, .row [strV p0_1, .slice ap0_4 p0_2.length zp0_5, .int .i64 p0_6, .slice ap0_9 p0_7.length zp0_10, .bool p0_12] 99 0 true)], Bp0_12] F (fun v S' F' => F = F' ∧ v = .bool r ∧ S' = [[(ip0_1, .row [strV p0_1, .slice ap0_4 p0_2.length zp0_5, .int .i64 p0_6, .slice ap0_9 p0_7.length zp0_10, .bool p0_12] 99 0 true)], Bp0_12]) := by
 refine Cl.of Tryz.func150 rfl (fun _ _ => rfl) (by kernel_rfl) fun s L nx0 hS => ?_
 unfold g_classify_match_isMore.f at h
 refine WW.seq (WW.region ?_)
 refine q_seg0 tbok hS 1 [] [2] [.bool false] [] (by kernel_rfl) fun s hS => (KW.nil ?_)
 refine WW.seq (WW.regionD (i := [[], [], [], [], [], [], [], [], [], [8, 7, 6, 5], [8, 7, 6, 5], [8, 7, 6, 5], [8, 7, 6, 5], [8, 7, 6, 5], [], [], []]) (by kernel_rfl) ?_)
 have hq := RS.start [ip0_1]
 refine K.seg tbok hS hq 3 [5] [.pointer (some ⟨ip0_1, 4, none⟩)] (by kernel_rfl) fun s rs hS hq => (K.ld hS hq rfl (wn rfl) rfl rfl rfl (hS.at (k := 0) rfl) tg4 (v := .bool p0_12) rfl 0 rfl rfl fun s rs hS hq => ?_)
 refine K.seg tbok hS hq 1 [7] [.bool p0_12] (by kernel_rfl) fun s rs hS hq => (bc h (fun hc1 h => ?_) fun hc1 h => ?_)
 replace hS := hS.kb 6 hc1 rfl
 replace hS := hS.kb 7 hc1 rfl
 refine K.seg tbok hS hq 3 [10] [.pointer (some ⟨ip0_1, 2, none⟩)] (by kernel_rfl) fun s rs hS hq => (K.ld hS hq rfl (wt hS rfl rfl rfl rfl) rfl rfl rfl (hS.at (k := 0) rfl) tg3 (v := .int .i64 p0_6) rfl 0 rfl rfl fun s rs hS hq => ?_)
 refine K.seg tbok hS hq 3 [14] [.pointer (some ⟨ip0_1, 0, none⟩)] (by kernel_rfl) fun s rs hS hq => (K.ld hS hq rfl (wt hS rfl rfl rfl rfl) rfl rfl rfl (hS.at (k := 0) rfl) tg9 (v := strV p0_1) rfl 0 rfl rfl fun s rs hS hq => ?_)
 refine K.seg tbok hS hq 4 [2] [.bool (decide (p0_6 < (p0_1.length : Int)))] (by kernel_rfl) fun s rs hS hq => (KW.nil ?_)
 refine WW.ret ?_
 cases h
 exact fin1 hS (.inr rfl) 2 rfl rfl ⟨rfl, rfl, rfl⟩
 replace hS := hS.kb 6 hc1 rfl
 replace hS := hS.kb 7 hc1 rfl
 refine K.seg tbok hS hq 12 [2] [.bool false] (by kernel_rfl) fun s rs hS hq => (KW.nil ?_)
 refine WW.ret ?_
 cases h
 exact fin1 hS (.inr rfl) 2 rfl rfl ⟨rfl, rfl, rfl⟩
/-! ### (*formulary/classify.match).stop (151) -/
noncomputable def g_classify_match_stop.f (p0_1 : List UInt8) (p0_2 : List Int) (p0_6 : Int) (p0_12 : Bool) : Option (Int × Bool) :=
  Option.bind (g_classify_match_isMore.f p0_1 p0_6 p0_12) fun y1 => (if (!y1) then some (p0_6, p0_12) else (if 0 ≤ p0_6 ∧ p0_6 ≤ (p0_1.length : Int) ∧ (p0_1.length : Int) ≤ (p0_1.length : Int) then Option.bind (g_source_ConstantsIn.f (mid p0_1 p0_6 (p0_1.length : Int))) fun y5 => (if 0 ≤ (0 : Int) ∧ (0 : Int) < ((mid p0_1 p0_6 (p0_1.length : Int)).length : Int) then Option.bind ((if (((gt (mid p0_1 p0_6 (p0_1.length : Int)) (0 : Int)).toNat : Int) == ((39 : UInt8).toNat : Int)) then some true else (if 0 ≤ (0 : Int) ∧ (0 : Int) < ((mid p0_1 p0_6 (p0_1.length : Int)).length : Int) then some (((gt (mid p0_1 p0_6 (p0_1.length : Int)) (0 : Int)).toNat : Int) == ((34 : UInt8).toNat : Int)) else none))) fun z14 => Option.bind ((if (z14 && ((y5.1.length : Int) == 1)) then (if 0 ≤ (0 : Int) ∧ (0 : Int) < (y5.1.length : Int) then some ((((gt y5.1 (0 : Int)).1) == 0) && (((gt y5.1 (0 : Int)).2) == ((mid p0_1 p0_6 (p0_1.length : Int)).length : Int))) else none) else some false)) fun z17 => (if z17 then some ((p0_1.length : Int), p0_12) else Option.bind (g_classify_match_digits.f p0_1 p0_2 p0_6 p0_12) fun y30 => some (y30.2.1, y30.2.2)) else none) else none))
set_option maxHeartbeats 4000000 in
theorem g_classify_match_stop.ok {ip0_1 : Nat} {ap0_4 : Option Addr} {zp0_5 : Nat} {ap0_9 : Option Addr} {zp0_10 : Nat} {Bp0_12 : Seg} {p0_1 : List UInt8} {p0_2 : List Int} {p0_6 : Int} {p0_7 : List Int} {p0_12 : Bool} {F : FZ} {r : Int × Bool} (h : g_classify_match_stop.f p0_1 p0_2 p0_6 p0_12 = some r) (hp0_6 : Frz (elI .i64 3) F ap0_4 zp0_5 p0_2) (hG : Gl F) :
    Cl EV 151 [.pointer (some ⟨ip0_1, 0, none⟩)] [[(ip0_1, .row [strV p0_1, .slice ap0_4 p0_2.length zp0_5, .int .i64 p0_6, .slice ap0_9 p0_7.length zp0_10, .bool p0_12] 99 0 true)], Bp0_12] F (fun v S' F' => FLe F F' ∧ v = .tuple #[] ∧ S' = [[(ip0_1, .row [strV p0_1, .slice ap0_4 p0_2.length zp0_5, .int .i64 r.1, .slice ap0_9 p0_7.length zp0_10, .bool r.2] 99 0 true)], Bp0_12]) := by
 refine Cl.of Tryz.func151 rfl (fun _ _ => rfl) (by kernel_rfl) fun s L nx0 hS => ?_
 unfold g_classify_match_stop.f at h
 refine WW.seq (WW.seq ?_)
 refine WW.region ?_
 obtain ⟨y1, hy1, h⟩ := bind_some h
 refine q_cR (g_classify_match_isMore.ok hy1) tbok hS 1 6 2 rfl (by kernel_rfl) fun s hS => (q_seg0 tbok hS 1 [] [7] [.bool (!y1)] [] (by kernel_rfl) fun s hS => ?_)
 refine KW.nil (bc h (fun hc3 h => ?_) fun hc3 h => ?_)
 refine WW.condK hS rfl hc3 (WW.ret ?_)
 cases h
 exact fin0 hS (.inr rfl) rfl ⟨(FLe.refl _), rfl, rfl⟩
 refine WW.condF hS rfl hc3 (WW.skip ?_)
 refine WW.seq (WW.regionD (i := [[], [], [], [], [3, 2, 1, 0], [3, 2, 1, 0], [3, 2, 1, 0], [3, 2, 1, 0], [], []]) (by kernel_rfl) ?_)
 have hq := RS.start [ip0_1]
 refine K.seg tbok hS hq 3 [10] [.pointer (some ⟨ip0_1, 0, none⟩)] (by kernel_rfl) fun s rs hS hq => (K.ld hS hq rfl (wn rfl) rfl rfl rfl (hS.at (k := 0) rfl) tg9 (v := strV p0_1) rfl 0 rfl rfl fun s rs hS hq => ?_)
 refine K.seg tbok hS hq 3 [14] [.pointer (some ⟨ip0_1, 2, none⟩)] (by kernel_rfl) fun s rs hS hq => (K.ld hS hq rfl (wn rfl) rfl rfl rfl (hS.at (k := 0) rfl) tg3 (v := .int .i64 p0_6) rfl 0 rfl rfl fun s rs hS hq => ?_)
 obtain ⟨hk4, h⟩ := ite_some h
 refine K.pu hS hq rfl (wn rfl) rfl rfl rfl (v := strV (mid p0_1 p0_6 (p0_1.length : Int))) (aop_slS tu9 (hS.lk rfl) (i := p0_6) (j := (p0_1.length : Int)) (bnd_eq hS rfl) rfl hk4) fun s rs hS hq => (K.seg tbok hS hq 1 [2] [strV (mid p0_1 p0_6 (p0_1.length : Int))] (by kernel_rfl) fun s rs hS hq => ?_)
 refine KW.nil (WW.seq ?_)
 refine WW.seq (WW.region ?_)
 obtain ⟨y5, hy5, h⟩ := bind_some h
 refine q_cK (g_source_ConstantsIn.ok hy5 hG) tbok hS 1 19 0 rfl (by kernel_rfl) fun s v S' F7 hp6 hF hS => ?_
 obtain ⟨a8, z9, B11, hF12, rfl, rfl, h10⟩ := hp6
 refine q_seg0 tbok hS 5 [] [3] [.slice a8 y5.1.length z9] [] (by kernel_rfl) fun s hS => (KW.nil ?_)
 refine WW.seq (WW.region ?_)
 refine q_seg0 tbok hS 1 [] [22] [strV (mid p0_1 p0_6 (p0_1.length : Int))] [] (by kernel_rfl) fun s hS => ?_
 obtain ⟨hk13, h⟩ := ite_some h
 refine q_pu hS (wn rfl) rfl rfl rfl (v := vB (gt (mid p0_1 p0_6 (p0_1.length : Int)) (0 : Int))) (aop_idxS tu9 (hS.lk rfl) (hS.lk rfl) hk13) fun s hS => (q_seg0 tbok hS 2 [] [25] [.bool (((gt (mid p0_1 p0_6 (p0_1.length : Int)) (0 : Int)).toNat : Int) == ((39 : UInt8).toNat : Int))] [] (by kernel_rfl) fun s hS => ?_)
 obtain ⟨z14, hz14, h⟩ := bind_some h
 refine q_cut 4 (fun s => Stt EV s [(29, .bool z14), (0, .pointer (some ⟨ip0_1, 0, none⟩)), (2, strV (mid p0_1 p0_6 (p0_1.length : Int))), (3, .slice a8 y5.1.length z9)] [B11, [(ip0_1, .row [strV p0_1, .slice ap0_4 p0_2.length zp0_5, .int .i64 p0_6, .slice ap0_9 p0_7.length zp0_10, .bool p0_12] 99 0 true)], Bp0_12] F7 L F nx0) ?_ fun s hS => ?_
 refine bc hz14 (fun hc15 hz14 => ?_) fun hc15 hz14 => ?_
 replace hS := hS.kb 25 hc15 rfl
 refine q_seg0 tbok hS 4 [] [29] [.bool true] [] (by kernel_rfl) fun s hS => (KW.nil ?_)
 obtain rfl := Option.some.inj hz14
 exact hS.subR rfl
 replace hS := hS.kb 25 hc15 rfl
 refine q_seg0 tbok hS 1 [] [26] [strV (mid p0_1 p0_6 (p0_1.length : Int))] [] (by kernel_rfl) fun s hS => ?_
 obtain ⟨hk16, hz14⟩ := ite_some hz14
 refine q_pu hS (wt hS rfl rfl rfl rfl) rfl rfl rfl (v := vB (gt (mid p0_1 p0_6 (p0_1.length : Int)) (0 : Int))) (aop_idxS tu9 (hS.lk rfl) (hS.lk rfl) hk16) fun s hS => (q_seg0 tbok hS 2 [] [29] [.bool (((gt (mid p0_1 p0_6 (p0_1.length : Int)) (0 : Int)).toNat : Int) == ((34 : UInt8).toNat : Int))] [] (by kernel_rfl) fun s hS => ?_)
 refine KW.nil ?_
 obtain rfl := Option.some.inj hz14
 exact hS.subR rfl
 refine q_seg0 tbok hS 1 [] [30] [.bool z14] [] (by kernel_rfl) fun s hS => (q_cut 4 (fun s => Stt EV s [(34, .bool (z14 && ((y5.1.length : Int) == 1))), (0, .pointer (some ⟨ip0_1, 0, none⟩)), (2, strV (mid p0_1 p0_6 (p0_1.length : Int))), (3, .slice a8 y5.1.length z9)] [B11, [(ip0_1, .row [strV p0_1, .slice ap0_4 p0_2.length zp0_5, .int .i64 p0_6, .slice ap0_9 p0_7.length zp0_10, .bool p0_12] 99 0 true)], Bp0_12] F7 L F nx0) ?_ fun s hS => ?_)
 rcases bool_cases (z14) with hcj | hcj
 replace hS := hS.know (t := 29) rfl (congrArg Value.bool hcj)
 replace hS := hS.know (t := 30) rfl (congrArg Value.bool hcj)
 refine q_seg0 tbok hS 4 [] [34] [.bool ((y5.1.length : Int) == 1)] [] (by kernel_rfl) fun s hS => (KW.nil ?_)
 exact (hS.know (t := 34) (u' := .bool (z14 && ((y5.1.length : Int) == 1))) rfl (jn_and_t hcj)).subR rfl
 replace hS := hS.know (t := 29) rfl (congrArg Value.bool hcj)
 replace hS := hS.know (t := 30) rfl (congrArg Value.bool hcj)
 refine q_seg0 tbok hS 4 [] [34] [.bool false] [] (by kernel_rfl) fun s hS => (KW.nil ?_)
 exact (hS.know (t := 34) (u' := .bool (z14 && ((y5.1.length : Int) == 1))) rfl (jn_and_f hcj)).subR rfl
 refine q_seg0 tbok hS 1 [] [35] [.bool (z14 && ((y5.1.length : Int) == 1))] [] (by kernel_rfl) fun s hS => ?_
 obtain ⟨z17, hz17, h⟩ := bind_some h
 refine q_cut 8 (fun s => Stt EV s [(43, .bool z17), (0, .pointer (some ⟨ip0_1, 0, none⟩))] [B11, [(ip0_1, .row [strV p0_1, .slice ap0_4 p0_2.length zp0_5, .int .i64 p0_6, .slice ap0_9 p0_7.length zp0_10, .bool p0_12] 99 0 true)], Bp0_12] F7 L F nx0) ?_ fun s hS => ?_
 refine bc hz17 (fun hc18 hz17 => ?_) fun hc18 hz17 => ?_
 replace hS := hS.kb 34 hc18 rfl
 replace hS := hS.kb 35 hc18 rfl
 refine q_seg0 tbok hS 1 [] [36] [.slice a8 y5.1.length z9] [] (by kernel_rfl) fun s hS => ?_
 obtain ⟨hk19, hz17⟩ := ite_some hz17
 obtain ⟨i25, cs26, ex27, rfl, rfl, rfl, hC28⟩ := Own.some_ h10 (by omega)
 obtain ⟨c20, hR21, hN23, hN22, hT24⟩ := Cells.loadF hC28 ex27 hk19 (z := 2) rfl
 obtain rfl := hR21
 refine q_pu hS (wt hS rfl rfl rfl rfl) rfl rfl rfl (v := .pointer (some ⟨i25, 0 + ((0 : Int)).toNat * 2, none⟩)) (aop_ia (hS.lk rfl) (hS.lk rfl) te46 hk19) fun s hS => (q_ldA hS (wt hS rfl rfl rfl rfl) rfl rfl rfl (hS.at (k := 0) rfl) tg50 tz50 (vs := [.int .i64 ((gt y5.1 (0 : Int)).1), .int .i64 ((gt y5.1 (0 : Int)).2)]) hT24 fun s hS => ?_)
 refine q_seg0 tbok hS 2 [] [40] [.int .i64 ((mid p0_1 p0_6 (p0_1.length : Int)).length : Int)] [] (by kernel_rfl) fun s hS => (q_pu hS (wt hS rfl rfl rfl rfl) rfl rfl rfl (v := .agg #[.int .i64 0, .int .i64 ((mid p0_1 p0_6 (p0_1.length : Int)).length : Int)]) (aop_bldA t0_50 tu50 tz3 [(0, .int .i64 0), (1, .int .i64 ((mid p0_1 p0_6 (p0_1.length : Int)).length : Int))] (parts_eq hS rfl) (cs := [.int .i64 0, .int .i64 ((mid p0_1 p0_6 (p0_1.length : Int)).length : Int)]) rfl) fun s hS => ?_)
 refine q_pu hS (wt hS rfl rfl rfl rfl) rfl rfl rfl (v := .bool ((((gt y5.1 (0 : Int)).1) == 0) && (((gt y5.1 (0 : Int)).2) == ((mid p0_1 p0_6 (p0_1.length : Int)).length : Int)))) (ta34e (hS.lk rfl) (hS.lk rfl)) fun s hS => (q_seg0 tbok hS 1 [] [43] [.bool ((((gt y5.1 (0 : Int)).1) == 0) && (((gt y5.1 (0 : Int)).2) == ((mid p0_1 p0_6 (p0_1.length : Int)).length : Int)))] [] (by kernel_rfl) fun s hS => ?_)
 refine KW.nil ?_
 obtain rfl := Option.some.inj hz17
 exact hS.subR rfl
 replace hS := hS.kb 34 hc18 rfl
 replace hS := hS.kb 35 hc18 rfl
 refine q_seg0 tbok hS 8 [] [43] [.bool false] [] (by kernel_rfl) fun s hS => (KW.nil ?_)
 obtain rfl := Option.some.inj hz17
 exact hS.subR rfl
 refine KW.nil (bc h (fun hc29 h => ?_) fun hc29 h => ?_)
 refine WW.condK hS rfl hc29 (WW.seq ?_)
 refine WW.region (q_seg tbok hS 9 [1, 1] [] [] [ip0_1, ip0_1] [B11, [(ip0_1, .row [strV p0_1, .slice ap0_4 p0_2.length zp0_5, .int .i64 (p0_1.length : Int), .slice ap0_9 p0_7.length zp0_10, .bool p0_12] 99 0 true)], Bp0_12] (by kernel_rfl) fun s hS => ?_)
 refine KW.nil (WW.ret ?_)
 replace hS := hS.drop
 cases h
 exact fin0 hS (.inr rfl) rfl ⟨(hF12), rfl, rfl⟩
 refine WW.condF hS rfl hc29 (WW.skip ?_)
 refine WW.region ?_
 obtain ⟨y30, hy30, h⟩ := bind_some h
 replace hS := hS.pull 2
 replace hS := hS.pull 2
 refine q_cR (g_classify_match_digits.ok hy30 (hp0_6.mono hF12)) tbok hS 1 53 2 rfl (by kernel_rfl) fun s hS => (KW.nil ?_)
 replace hS := (hS.pull 2).drop
 cases h
 exact fin0 hS (.inl rfl) rfl ⟨(hF12), rfl, rfl⟩
/-! ### (*formulary/classify.match).rest (170) -/
noncomputable def g_classify_match_rest.f (p0_1 : List UInt8) (p0_2 : List Int) (p0_6 : Int) (p0_12 : Bool) : Option (Int × Bool) :=
  Option.bind (g_classify_match_some.f p0_1 p0_2 p0_6 p0_12 ([61])) fun y1 => some (y1.1, y1.2)
set_option maxHeartbeats 4000000 in
theorem g_classify_match_rest.ok {ip0_1 : Nat} {ap0_4 : Option Addr} {zp0_5 : Nat} {ap0_9 : Option Addr} {zp0_10 : Nat} {Bp0_12 : Seg} {p0_1 : List UInt8} {p0_2 : List Int} {p0_6 : Int} {p0_7 : List Int} {p0_12 : Bool} {F : FZ} {r : Int × Bool} (h : g_classify_match_rest.f p0_1 p0_2 p0_6 p0_12 = some r) (hp0_6 : Frz (elI .i64 3) F ap0_4 zp0_5 p0_2) :
    Cl EV 170 [.pointer (some ⟨ip0_1, 0, none⟩)] [[(ip0_1, .row [strV p0_1, .slice ap0_4 p0_2.length zp0_5, .int .i64 p0_6, .slice ap0_9 p0_7.length zp0_10, .bool p0_12] 99 0 true)], Bp0_12] F (fun v S' F' => F = F' ∧ v = .tuple #[] ∧ S' = [[(ip0_1, .row [strV p0_1, .slice ap0_4 p0_2.length zp0_5, .int .i64 r.1, .slice ap0_9 p0_7.length zp0_10, .bool r.2] 99 0 true)], Bp0_12]) := by
 refine Cl.of Tryz.func170 rfl (fun _ _ => rfl) (by kernel_rfl) fun s L nx0 hS => ?_
 unfold g_classify_match_rest.f at h
 refine WW.region ?_
 obtain ⟨y1, hy1, h⟩ := bind_some h
 refine q_cR (g_classify_match_some.ok hy1 hp0_6) tbok hS 1 3 2 rfl (by kernel_rfl) fun s hS => (KW.nil ?_)
 cases h
 exact fin0 hS (.inl rfl) rfl ⟨rfl, rfl, rfl⟩
/-! ### (*formulary/classify.match).items (166) -/
noncomputable def g_classify_match_items.f (p0_1 : List UInt8) (p0_2 : List Int) (p0_6 : Int) (p0_12 : Bool) : Option (Int × Bool) :=
  Option.bind (g_classify_match_parens.f p0_1 p0_2 p0_6 p0_12) fun y1 => Option.bind (g_classify_match_isMore.f p0_1 y1.1 y1.2) fun y3 => (if y3 then Option.bind (g_classify_match_isSign.f p0_1 p0_2 y1.1 y1.2 44) fun y6 => Option.bind (g_classify_match_must.f y1.2 (!y6)) fun y8 => Option.bind (g_classify_match_rest.f p0_1 p0_2 y1.1 y8) fun y10 => some (y10.1, y10.2) else some (y1.1, y1.2))
set_option maxHeartbeats 4000000 in
theorem g_classify_match_items.ok {ip0_1 : Nat} {ap0_4 : Option Addr} {zp0_5 : Nat} {ap0_9 : Option Addr} {zp0_10 : Nat} {Bp0_12 : Seg} {p0_1 : List UInt8} {p0_2 : List Int} {p0_6 : Int} {p0_7 : List Int} {p0_12 : Bool} {F : FZ} {r : Int × Bool} (h : g_classify_match_items.f p0_1 p0_2 p0_6 p0_12 = some r) (hp0_6 : Frz (elI .i64 3) F ap0_4 zp0_5 p0_2) :
    Cl EV 166 [.pointer (some ⟨ip0_1, 0, none⟩)] [[(ip0_1, .row [strV p0_1, .slice ap0_4 p0_2.length zp0_5, .int .i64 p0_6, .slice ap0_9 p0_7.length zp0_10, .bool p0_12] 99 0 true)], Bp0_12] F (fun v S' F' => F = F' ∧ v = .tuple #[] ∧ S' = [[(ip0_1, .row [strV p0_1, .slice ap0_4 p0_2.length zp0_5, .int .i64 r.1, .slice ap0_9 p0_7.length zp0_10, .bool r.2] 99 0 true)], Bp0_12]) := by
 refine Cl.of Tryz.func166 rfl (fun _ _ => rfl) (by kernel_rfl) fun s L nx0 hS => ?_
 unfold g_classify_match_items.f at h
 refine WW.seq (WW.region ?_)
 obtain ⟨y1, hy1, h⟩ := bind_some h
 refine q_cR (g_classify_match_parens.ok hy1 hp0_6) tbok hS 1 3 2 rfl (by kernel_rfl) fun s hS => (KW.nil ?_)
 refine WW.seq (WW.region ?_)
 obtain ⟨y3, hy3, h⟩ := bind_some h
 refine q_cR (g_classify_match_isMore.ok hy3) tbok hS 1 5 2 rfl (by kernel_rfl) fun s hS => (KW.nil ?_)
 refine bc h (fun hc5 h => ?_) fun hc5 h => ?_
 refine WW.condK hS rfl hc5 (WW.seq ?_)
 refine WW.region (q_seg0 tbok hS 2 [] [6, 7] [.pointer (some ⟨ip0_1, 0, none⟩), .pointer (some ⟨ip0_1, 0, none⟩)] [] (by kernel_rfl) fun s hS => ?_)
 obtain ⟨y6, hy6, h⟩ := bind_some h
 refine q_cl hS (wn rfl) (vs := [.pointer (some ⟨ip0_1, 0, none⟩), vB 44]) (ws := [.pointer (some ⟨ip0_1, 0, none⟩), vB 44]) rfl rfl rfl rfl rfl 2 rfl (g_classify_match_isSign.ok hy6 hp0_6) fun s v S' F' hp7 hF hS => ?_
 obtain ⟨rfl, rfl, rfl⟩ := hp7
 obtain ⟨y8, hy8, h⟩ := bind_some h
 refine q_cR (g_classify_match_must.ok hy8) tbok hS 1 10 2 rfl (by kernel_rfl) fun s hS => (KW.nil ?_)
 refine WW.region ?_
 obtain ⟨y10, hy10, h⟩ := bind_some h
 refine q_cR (g_classify_match_rest.ok hy10 hp0_6) tbok hS 1 12 2 rfl (by kernel_rfl) fun s hS => (KW.nil ?_)
 cases h
 exact fin0 hS (.inl rfl) rfl ⟨rfl, rfl, rfl⟩
 refine WW.condF hS rfl hc5 (WW.skip ?_)
 cases h
 exact fin0 hS (.inl rfl) rfl ⟨rfl, rfl, rfl⟩
/-! ### (*formulary/classify.match).item (167) -/
noncomputable def g_classify_match_item.f (p0_1 : List UInt8) (p0_2 : List Int) (p0_6 : Int) (p0_12 : Bool) : Option (Int × Bool) :=
  Option.bind (g_classify_match_expr.f p0_1 p0_2 p0_6 p0_12) fun y1 => Option.bind (g_classify_match_takes.f p0_1 p0_2 y1.1 y1.2 44) fun y3 => (if y3.1 then Option.bind (g_classify_match_rest.f p0_1 p0_2 y3.2 y1.2) fun y6 => some (y6.1, y6.2) else some (y3.2, y1.2))
set_option maxHeartbeats 4000000 in
theorem g_classify_match_item.ok {ip0_1 : Nat} {ap0_4 : Option Addr} {zp0_5 : Nat} {ap0_9 : Option Addr} {zp0_10 : Nat} {Bp0_12 : Seg} {p0_1 : List UInt8} {p0_2 : List Int} {p0_6 : Int} {p0_7 : List Int} {p0_12 : Bool} {F : FZ} {r : Int × Bool} (h : g_classify_match_item.f p0_1 p0_2 p0_6 p0_12 = some r) (hp0_6 : Frz (elI .i64 3) F ap0_4 zp0_5 p0_2) :
    Cl EV 167 [.pointer (some ⟨ip0_1, 0, none⟩)] [[(ip0_1, .row [strV p0_1, .slice ap0_4 p0_2.length zp0_5, .int .i64 p0_6, .slice ap0_9 p0_7.length zp0_10, .bool p0_12] 99 0 true)], Bp0_12] F (fun v S' F' => F = F' ∧ v = .tuple #[] ∧ S' = [[(ip0_1, .row [strV p0_1, .slice ap0_4 p0_2.length zp0_5, .int .i64 r.1, .slice ap0_9 p0_7.length zp0_10, .bool r.2] 99 0 true)], Bp0_12]) := by
 refine Cl.of Tryz.func167 rfl (fun _ _ => rfl) (by kernel_rfl) fun s L nx0 hS => ?_
 unfold g_classify_match_item.f at h
 refine WW.seq (WW.region ?_)
 obtain ⟨y1, hy1, h⟩ := bind_some h
 refine q_cR (g_classify_match_expr.ok hy1 hp0_6) tbok hS 1 3 2 rfl (by kernel_rfl) fun s hS => (KW.nil ?_)
 refine WW.seq (WW.region ?_)
 obtain ⟨y3, hy3, h⟩ := bind_some h
 refine q_cR (g_classify_match_takes.ok hy3 hp0_6) tbok hS 1 5 2 rfl (by kernel_rfl) fun s hS => (KW.nil ?_)
 refine bc h (fun hc5 h => ?_) fun hc5 h => ?_
 refine WW.condK hS rfl hc5 (WW.region ?_)
 obtain ⟨y6, hy6, h⟩ := bind_some h
 refine q_cR (g_classify_match_rest.ok hy6 hp0_6) tbok hS 1 7 2 rfl (by kernel_rfl) fun s hS => (KW.nil ?_)
 cases h
 exact fin0 hS (.inl rfl) rfl ⟨rfl, rfl, rfl⟩
 refine WW.condF hS rfl hc5 (WW.skip ?_)
 cases h
 exact fin0 hS (.inl rfl) rfl ⟨rfl, rfl, rfl⟩
/-! ### (*formulary/classify.match).array (168) -/
noncomputable def g_classify_match_array.f (p0_1 : List UInt8) (p0_2 : List Int) (p0_6 : Int) (p0_12 : Bool) : Option (Int × Bool) :=
  Option.bind (g_classify_match_name.f p0_1 p0_2 p0_6 p0_12) fun y1 => Option.bind (g_classify_match_parens.f p0_1 p0_2 y1.1 y1.2) fun y3 => some (y3.1, y3.2)
set_option maxHeartbeats 4000000 in
theorem g_classify_match_array.ok {ip0_1 : Nat} {ap0_4 : Option Addr} {zp0_5 : Nat} {ap0_9 : Option Addr} {zp0_10 : Nat} {Bp0_12 : Seg} {p0_1 : List UInt8} {p0_2 : List Int} {p0_6 : Int} {p0_7 : List Int} {p0_12 : Bool} {F : FZ} {r : Int × Bool} (h : g_classify_match_array.f p0_1 p0_2 p0_6 p0_12 = some r) (hp0_6 : Frz (elI .i64 3) F ap0_4 zp0_5 p0_2) :
    Cl EV 168 [.pointer (some ⟨ip0_1, 0, none⟩)] [[(ip0_1, .row [strV p0_1, .slice ap0_4 p0_2.length zp0_5, .int .i64 p0_6, .slice ap0_9 p0_7.length zp0_10, .bool p0_12] 99 0 true)], Bp0_12] F (fun v S' F' => F = F' ∧ v = .tuple #[] ∧ S' = [[(ip0_1, .row [strV p0_1, .slice ap0_4 p0_2.length zp0_5, .int .i64 r.1, .slice ap0_9 p0_7.length zp0_10, .bool r.2] 99 0 true)], Bp0_12]) := by
 refine Cl.of Tryz.func168 rfl (fun _ _ => rfl) (by kernel_rfl) fun s L nx0 hS => ?_
 unfold g_classify_match_array.f at h
 refine WW.seq (WW.region ?_)
 obtain ⟨y1, hy1, h⟩ := bind_some h
 refine q_cR (g_classify_match_name.ok hy1 hp0_6) tbok hS 1 3 2 rfl (by kernel_rfl) fun s hS => (KW.nil ?_)
 refine WW.region ?_
 obtain ⟨y3, hy3, h⟩ := bind_some h
 refine q_cR (g_classify_match_parens.ok hy3 hp0_6) tbok hS 1 5 2 rfl (by kernel_rfl) fun s hS => (KW.nil ?_)
 cases h
 exact fin0 hS (.inl rfl) rfl ⟨rfl, rfl, rfl⟩
/-! ### (*formulary/classify.match).list (109) -/
noncomputable def g_classify_match_list_3.b0 (p0_1 : List UInt8) (p0_2 : List Int) (x3 : Int × Bool) : Option ((Int × Bool) ⊕ (Int × Bool)) :=
  (if x3.2 then Option.bind (g_classify_match_takes.f p0_1 p0_2 x3.1 x3.2 44) fun y8 => (if y8.1 then Option.bind (g_classify_match_array.f p0_1 p0_2 y8.2 x3.2) fun y11 => some (.inl (y11.1, y11.2)) else some (.inr (y8.2, x3.2))) else some (.inr (x3.1, x3.2)))
noncomputable def g_classify_match_list_3.f (p0_1 : List UInt8) (p0_2 : List Int) (p0_6 : Int) (p0_12 : Bool) : Option (Int × Bool) :=
  Option.bind (g_classify_match_array.f p0_1 p0_2 p0_6 p0_12) fun y1 => Option.bind (iter (g_classify_match_list_3.b0 p0_1 p0_2) (y1.1, y1.2)) fun o4 => some (o4.1, o4.2)
set_option maxHeartbeats 4000000 in
theorem g_classify_match_list_3.ok {ip0_1 : Nat} {ap0_4 : Option Addr} {zp0_5 : Nat} {ap0_9 : Option Addr} {zp0_10 : Nat} {Bp0_12 : Seg} {p0_1 : List UInt8} {p0_2 : List Int} {p0_6 : Int} {p0_7 : List Int} {p0_12 : Bool} {F : FZ} {r : Int × Bool} (h : g_classify_match_list_3.f p0_1 p0_2 p0_6 p0_12 = some r) (hp0_6 : Frz (elI .i64 3) F ap0_4 zp0_5 p0_2) :
    Cl EV 109 [.pointer (some ⟨ip0_1, 0, none⟩), .func (.func 168) #[.pointer (some ⟨ip0_1, 0, none⟩)] #[]] [[(ip0_1, .row [strV p0_1, .slice ap0_4 p0_2.length zp0_5, .int .i64 p0_6, .slice ap0_9 p0_7.length zp0_10, .bool p0_12] 99 0 true)], Bp0_12] F (fun v S' F' => F = F' ∧ v = .tuple #[] ∧ S' = [[(ip0_1, .row [strV p0_1, .slice ap0_4 p0_2.length zp0_5, .int .i64 r.1, .slice ap0_9 p0_7.length zp0_10, .bool r.2] 99 0 true)], Bp0_12]) := by
 refine Cl.of Tryz.func109 rfl (fun _ _ => rfl) (by kernel_rfl) fun s L nx0 hS => ?_
 unfold g_classify_match_list_3.f at h
 refine WW.seq (WW.region ?_)
 obtain ⟨y1, hy1, h⟩ := bind_some h
 refine q_cR (g_classify_match_array.ok hy1 hp0_6) tbok hS 1 5 2 rfl (by kernel_rfl) fun s hS => (KW.nil ?_)
 refine WW.block ?_
 obtain ⟨o4, ho4, h⟩ := bind_some h
 refine WW.loop (LW.iter ho4 (fun (x3 : Int × Bool) s => Stt EV s [(0, .pointer (some ⟨ip0_1, 0, none⟩)), (1, .func (.func 168) #[.pointer (some ⟨ip0_1, 0, none⟩)] #[])] [[(ip0_1, .row [strV p0_1, .slice ap0_4 p0_2.length zp0_5, .int .i64 x3.1, .slice ap0_9 p0_7.length zp0_10, .bool x3.2] 99 0 true)], Bp0_12] F L F nx0) (fun (y5 : Int × Bool) e s => (e = .exit 0 ∧ Stt EV s [(0, .pointer (some ⟨ip0_1, 0, none⟩)), (1, .func (.func 168) #[.pointer (some ⟨ip0_1, 0, none⟩)] #[])] [[(ip0_1, .row [strV p0_1, .slice ap0_4 p0_2.length zp0_5, .int .i64 y5.1, .slice ap0_9 p0_7.length zp0_10, .bool y5.2] 99 0 true)], Bp0_12] F L F nx0)) (hS.subR rfl) ?_ ?_)
 clear hS
 rintro x3 s hS o4' h6
 unfold g_classify_match_list_3.b0 at h6
 refine WW.seq (WW.seq ?_)
 refine WW.region (q_seg0 tbok hS 5 [0] [10] [.bool x3.2] [ip0_1] (by kernel_rfl) fun s hS => ?_)
 refine bc h6 (fun hc7 h6 => ?_) fun hc7 h6 => ?_
 replace hS := hS.kb 10 hc7 rfl
 refine q_seg0 tbok hS 1 [] [11] [.pointer (some ⟨ip0_1, 0, none⟩)] [] (by kernel_rfl) fun s hS => ?_
 obtain ⟨y8, hy8, h6⟩ := bind_some h6
 refine q_cl hS (wt hS rfl rfl rfl rfl) (vs := [.pointer (some ⟨ip0_1, 0, none⟩), vB 44]) (ws := [.pointer (some ⟨ip0_1, 0, none⟩), vB 44]) rfl rfl rfl rfl rfl 2 rfl (g_classify_match_takes.ok hy8 hp0_6) fun s v S' F' hp9 hF hS => ?_
 obtain ⟨rfl, rfl, rfl⟩ := hp9
 refine q_seg0 tbok hS 1 [] [13] [.bool y8.1] [] (by kernel_rfl) fun s hS => (KW.nil ?_)
 refine bc h6 (fun hc10 h6 => ?_) fun hc10 h6 => ?_
 refine WW.condK hS rfl hc10 (WW.skip ?_)
 refine WW.block (WW.region ?_)
 obtain ⟨y11, hy11, h6⟩ := bind_some h6
 refine q_cR (g_classify_match_array.ok hy11 hp0_6) tbok hS 1 15 2 rfl (by kernel_rfl) fun s hS => (KW.nil ?_)
 obtain rfl := Option.some.inj h6
 exact ⟨_, rfl, (hS.subR rfl)⟩
 refine WW.condF hS rfl hc10 (WW.exit ?_)
 refine thenQ_exit ?_
 obtain rfl := Option.some.inj h6
 exact ⟨_, rfl, rfl, (hS.subR rfl)⟩
 replace hS := hS.kb 10 hc7 rfl
 refine q_seg0 tbok hS 3 [] [13] [.bool false] [] (by kernel_rfl) fun s hS => (KW.nil ?_)
 refine WW.condF hS rfl rfl (WW.exit ?_)
 refine thenQ_exit ?_
 obtain rfl := Option.some.inj h6
 exact ⟨_, rfl, rfl, (hS.subR rfl)⟩
 clear hS
 rintro e s ⟨rfl, hS⟩
 refine blockQ_exit ?_
 cases h
 exact fin0 hS (.inl rfl) rfl ⟨rfl, rfl, rfl⟩
/-! ### (*formulary/classify.match).begins$1 (186) -/
noncomputable def g_classify_match_begins_1.f (p0_0 : UInt8) (p1_1 : List UInt8) : Option (Bool) :=
  Option.bind (g_classify_isLetter.f p0_0) fun y1 => Option.bind ((if y1 then some true else Option.bind (g_strings_IndexByte.f p1_1 p0_0) fun y5 => some (decide (y5 ≥ 0)))) fun z3 => some z3
set_option maxHeartbeats 4000000 in
theorem g_classify_match_begins_1.ok {ip1_1 : Nat} {p0_0 : UInt8} {p1_1 : List UInt8} {F : FZ} {r : Bool} (h : g_classify_match_begins_1.f p0_0 p1_1 = some r) :
    Cl EV 186 [vB p0_0, .pointer (some ⟨ip1_1, 0, none⟩)] [[(ip1_1, .row [strV p1_1] 9 0 true)]] F (fun v S' F' => F = F' ∧ v = .bool r ∧ S' = [[(ip1_1, .row [strV p1_1] 9 0 true)]]) := by
 refine Cl.of Tryz.func186 rfl (fun _ _ => rfl) (by kernel_rfl) fun s L nx0 hS => ?_
 unfold g_classify_match_begins_1.f at h
 refine WW.seq (WW.region ?_)
 refine q_seg0 tbok hS 1 [] [3] [.bool false] [] (by kernel_rfl) fun s hS => (KW.nil ?_)
 refine WW.seq (WW.region ?_)
 obtain ⟨y1, hy1, h⟩ := bind_some h
 refine q_cR (g_classify_isLetter.ok hy1) tbok hS 1 5 0 rfl (by kernel_rfl) fun s hS => (q_seg0 tbok hS 1 [] [6] [.bool y1] [] (by kernel_rfl) fun s hS => ?_)
 obtain ⟨z3, hz3, h⟩ := bind_some h
 refine q_cut 5 (fun s => Stt EV s [(11, .bool z3), (3, .bool false)] [[(ip1_1, .row [strV p1_1] 9 0 true)]] F L F nx0) ?_ fun s hS => ?_
 refine bc hz3 (fun hc4 hz3 => ?_) fun hc4 hz3 => ?_
 replace hS := hS.kb 5 hc4 rfl
 replace hS := hS.kb 6 hc4 rfl
 refine q_seg0 tbok hS 5 [] [11] [.bool true] [] (by kernel_rfl) fun s hS => (KW.nil ?_)
 obtain rfl := Option.some.inj hz3
 exact hS.subR rfl
 replace hS := hS.kb 5 hc4 rfl
 replace hS := hS.kb 6 hc4 rfl
 refine q_seg0 tbok hS 2 [0] [7, 8] [strV p1_1, vB p0_0] [ip1_1] (by kernel_rfl) fun s hS => ?_
 obtain ⟨y5, hy5, hz3⟩ := bind_some hz3
 refine q_cl hS (wt hS rfl rfl rfl rfl) (vs := [strV p1_1, vB p0_0]) (ws := [strV p1_1, vB p0_0]) rfl rfl rfl rfl rfl 0 rfl (g_strings_IndexByte.ok hy5) fun s v S' F' hp6 hF hS => ?_
 obtain ⟨rfl, rfl, rfl⟩ := hp6
 refine q_seg0 tbok hS 2 [] [11] [.bool (decide (y5 ≥ 0))] [] (by kernel_rfl) fun s hS => (KW.nil ?_)
 obtain rfl := Option.some.inj hz3
 exact hS.subR rfl
 refine q_seg0 tbok hS 1 [] [3] [.bool z3] [] (by kernel_rfl) fun s hS => (KW.nil ?_)
 refine WW.ret ?_
 cases h
 exact fin1 hS (.inr rfl) 3 rfl rfl ⟨rfl, rfl, rfl⟩
/-! ### (*formulary/classify.match).is (140) -/
noncomputable def g_classify_match_is_5.f (p0_1 : List UInt8) (p0_2 : List Int) (p0_6 : Int) (p0_12 : Bool) (p1_1 : List UInt8) : Option (Bool) :=
  (if p0_12 then (if (decide (p0_6 < (p0_1.length : Int))) then (if 0 ≤ p0_6 ∧ p0_6 < (p0_2.length : Int) then (if ((gt p0_2 p0_6) == 0) then (if 0 ≤ p0_6 ∧ p0_6 < (p0_1.length : Int) then Option.bind (g_classify_match_begins_1.f (gt p0_1 p0_6) p1_1) fun y14 => some y14 else none) else some false) else none) else some false) else some false)
set_option maxHeartbeats 4000000 in
theorem g_classify_match_is_5.ok {ip0_1 : Nat} {ap0_4 : Option Addr} {zp0_5 : Nat} {ap0_9 : Option Addr} {zp0_10 : Nat} {Bp0_12 : Seg} {ip1_1 : Nat} {p0_1 : List UInt8} {p0_2 : List Int} {p0_6 : Int} {p0_7 : List Int} {p0_12 : Bool} {p1_1 : List UInt8} {F : FZ} {r : Bool} (h : g_classify_match_is_5.f p0_1 p0_2 p0_6 p0_12 p1_1 = some r) (hp0_6 : Frz (elI .i64 3) F ap0_4 zp0_5 p0_2) :
    Cl EV 140 [.pointer (some ⟨ip0_1, 0, none⟩), .func (.func 186) #[] #[.pointer (some ⟨ip1_1, 0, none⟩)]] [[(ip0_1, .row [strV p0_1, .slice ap0_4 p0_2.length zp0_5, .int .i64 p0_6, .slice ap0_9 p0_7.length zp0_10, .bool p0_12] 99 0 true)], Bp0_12, [(ip1_1, .row [strV p1_1] 9 0 true)]] F (fun v S' F' => F = F' ∧ v = .bool r ∧ S' = [[(ip0_1, .row [strV p0_1, .slice ap0_4 p0_2.length zp0_5, .int .i64 p0_6, .slice ap0_9 p0_7.length zp0_10, .bool p0_12] 99 0 true)], Bp0_12, [(ip1_1, .row [strV p1_1] 9 0 true)]]) := by
 refine Cl.of Tryz.func140 rfl (fun _ _ => rfl) (by kernel_rfl) fun s L nx0 hS => ?_
 unfold g_classify_match_is_5.f at h
 refine WW.seq (WW.region ?_)
 refine q_seg0 tbok hS 1 [] [4] [.bool false] [] (by kernel_rfl) fun s hS => (KW.nil ?_)
 refine WW.seq (WW.regionD (i := [[], [], [], [], [], [], [], [], [], [8, 7, 6, 5], [8, 7, 6, 5], [8, 7, 6, 5], [8, 7, 6, 5], [8, 7, 6, 5], [], [], [], [], [], [], [], [20, 19, 18, 17], [20, 19, 18, 17], [20, 19, 18, 17], [20, 19, 18, 17], [], [], [], [], [], [], [30], [30], [30], [30], [34, 33, 32, 31, 30], [34, 33, 32, 31, 30], [34, 33, 32, 31, 30], [34, 33, 32, 31, 30], [30], [], [], []]) (by kernel_rfl) ?_)
 have hq := RS.start [ip0_1, ip1_1]
 refine K.seg tbok hS hq 3 [7] [.pointer (some ⟨ip0_1, 4, none⟩)] (by kernel_rfl) fun s rs hS hq => (K.ld hS hq rfl (wn rfl) rfl rfl rfl (hS.at (k := 0) rfl) tg4 (v := .bool p0_12) rfl 0 rfl rfl fun s rs hS hq => ?_)
 refine K.seg tbok hS hq 1 [9] [.bool p0_12] (by kernel_rfl) fun s rs hS hq => (bc h (fun hc1 h => ?_) fun hc1 h => ?_)
 replace hS := hS.kb 8 hc1 rfl
 replace hS := hS.kb 9 hc1 rfl
 refine K.seg tbok hS hq 3 [12] [.pointer (some ⟨ip0_1, 2, none⟩)] (by kernel_rfl) fun s rs hS hq => (K.ld hS hq rfl (wt hS rfl rfl rfl rfl) rfl rfl rfl (hS.at (k := 0) rfl) tg3 (v := .int .i64 p0_6) rfl 0 rfl rfl fun s rs hS hq => ?_)
 refine K.seg tbok hS hq 3 [16] [.pointer (some ⟨ip0_1, 0, none⟩)] (by kernel_rfl) fun s rs hS hq => (K.ld hS hq rfl (wt hS rfl rfl rfl rfl) rfl rfl rfl (hS.at (k := 0) rfl) tg9 (v := strV p0_1) rfl 0 rfl rfl fun s rs hS hq => ?_)
 refine K.seg tbok hS hq 4 [21] [.bool (decide (p0_6 < (p0_1.length : Int)))] (by kernel_rfl) fun s rs hS hq => (bc h (fun hc2 h => ?_) fun hc2 h => ?_)
 replace hS := hS.kb 21 hc2 rfl
 refine K.seg tbok hS hq 3 [24] [.pointer (some ⟨ip0_1, 1, none⟩)] (by kernel_rfl) fun s rs hS hq => (K.ld hS hq rfl (wt hS rfl rfl rfl rfl) rfl rfl rfl (hS.at (k := 0) rfl) tg22 (v := .slice ap0_4 p0_2.length zp0_5) rfl 0 rfl rfl fun s rs hS hq => ?_)
 refine K.seg tbok hS hq 3 [28] [.pointer (some ⟨ip0_1, 2, none⟩)] (by kernel_rfl) fun s rs hS hq => (K.ld hS hq rfl (wt hS rfl rfl rfl rfl) rfl rfl rfl (hS.at (k := 0) rfl) tg3 (v := .int .i64 p0_6) rfl 0 rfl rfl fun s rs hS hq => ?_)
 obtain ⟨hk3, h⟩ := ite_some h
 obtain ⟨i9, of10, rfl⟩ := Frz.addr hp0_6 (by omega)
 obtain ⟨_, _, _, _, c4, hF11, hR5, hN6, hN7, hT8⟩ := Frz.at hp0_6 hk3 (m := 1) rfl
 obtain rfl := hR5
 refine K.pu hS hq rfl (wt hS rfl rfl rfl rfl) rfl rfl rfl (v := .pointer (some ⟨i9, of10 + (p0_6).toNat * 1, none⟩)) (aop_ia (hS.lk rfl) (hS.lk rfl) te22 hk3) fun s rs hS hq => ?_
 replace hq := hq.more i9 rfl rfl rfl
 refine K.ld hS hq rfl (wt hS rfl rfl rfl rfl) rfl rfl rfl (hS.fat hF11) tg3 (v := .int .i64 (gt p0_2 p0_6)) hN6 2 rfl rfl fun s rs hS hq => (K.seg tbok hS hq 3 [34] [.bool ((gt p0_2 p0_6) == 0)] (by kernel_rfl) fun s rs hS hq => ?_)
 refine bc h (fun hc12 h => ?_) fun hc12 h => ?_
 replace hS := hS.kb 34 hc12 rfl
 refine K.seg tbok hS hq 4 [35, 38] [.func (.func 186) #[] #[.pointer (some ⟨ip1_1, 0, none⟩)], .pointer (some ⟨ip0_1, 0, none⟩)] (by kernel_rfl) fun s rs hS hq => (K.ld hS hq rfl (wt hS rfl rfl rfl rfl) rfl rfl rfl (hS.at (k := 0) rfl) tg9 (v := strV p0_1) rfl 0 rfl rfl fun s rs hS hq => ?_)
 refine K.seg tbok hS hq 3 [42] [.pointer (some ⟨ip0_1, 2, none⟩)] (by kernel_rfl) fun s rs hS hq => (K.ld hS hq rfl (wt hS rfl rfl rfl rfl) rfl rfl rfl (hS.at (k := 0) rfl) tg3 (v := .int .i64 p0_6) rfl 0 rfl rfl fun s rs hS hq => ?_)
 obtain ⟨hk13, h⟩ := ite_some h
 refine K.pu hS hq rfl (wt hS rfl rfl rfl rfl) rfl rfl rfl (v := vB (gt p0_1 p0_6)) (aop_idxS tu9 (hS.lk rfl) (hS.lk rfl) hk13) fun s rs hS hq => ?_
 obtain ⟨y14, hy14, h⟩ := bind_some h
 replace hS := hS.pull 2
 refine K.cl hS hq rfl (wt hS rfl rfl rfl rfl) (vs := [vB (gt p0_1 p0_6)]) (ws := [vB (gt p0_1 p0_6), .pointer (some ⟨ip1_1, 0, none⟩)]) rfl rfl rfl rfl rfl 1 rfl (g_classify_match_begins_1.ok hy14)  [0, 2] rfl rfl (aw_c rfl mm0 (aw_f rfl hF11 aw_n)) fun s rs v S' F' hp15 hF hS hq => ?_
 obtain ⟨rfl, rfl, rfl⟩ := hp15
 refine K.seg tbok hS hq 2 [4] [.bool y14] (by kernel_rfl) fun s rs hS hq => (KW.nil ?_)
 refine WW.ret ?_
 replace hS := hS.pull 2
 replace hS := hS.pull 2
 cases h
 exact fin1 hS (.inr rfl) 4 rfl rfl ⟨rfl, rfl, rfl⟩
 replace hS := hS.kb 34 hc12 rfl
 refine K.seg tbok hS hq 13 [4] [.bool false] (by kernel_rfl) fun s rs hS hq => (KW.nil ?_)
 refine WW.ret ?_
 cases h
 exact fin1 hS (.inr rfl) 4 rfl rfl ⟨rfl, rfl, rfl⟩
 replace hS := hS.kb 21 hc2 rfl
 refine K.seg tbok hS hq 26 [4] [.bool false] (by kernel_rfl) fun s rs hS hq => (KW.nil ?_)
 refine WW.ret ?_
 cases h
 exact fin1 hS (.inr rfl) 4 rfl rfl ⟨rfl, rfl, rfl⟩
 replace hS := hS.kb 8 hc1 rfl
 replace hS := hS.kb 9 hc1 rfl
 refine K.seg tbok hS hq 38 [4] [.bool false] (by kernel_rfl) fun s rs hS hq => (KW.nil ?_)
 refine WW.ret ?_
 cases h
 exact fin1 hS (.inr rfl) 4 rfl rfl ⟨rfl, rfl, rfl⟩
/-! ### (*formulary/classify.match).begins (169) -/
noncomputable def g_classify_match_begins.f (p0_1 : List UInt8) (p0_2 : List Int) (p0_6 : Int) (p0_12 : Bool) (p1_0 : List UInt8) : Option (Bool) :=
  Option.bind (g_classify_match_is_5.f p0_1 p0_2 p0_6 p0_12 p1_0) fun y2 => some y2
set_option maxHeartbeats 4000000 in
theorem g_classify_match_begins.ok {ip0_1 : Nat} {ap0_4 : Option Addr} {zp0_5 : Nat} {ap0_9 : Option Addr} {zp0_10 : Nat} {Bp0_12 : Seg} {p0_1 : List UInt8} {p0_2 : List Int} {p0_6 : Int} {p0_7 : List Int} {p0_12 : Bool} {p1_0 : List UInt8} {F : FZ} {r : Bool} (h : g_classify_match_begins.f p0_1 p0_2 p0_6 p0_12 p1_0 = some r) (hp0_6 : Frz (elI .i64 3) F ap0_4 zp0_5 p0_2) :
    Cl EV 169 [.pointer (some ⟨ip0_1, 0, none⟩), strV p1_0] [[(ip0_1, .row [strV p0_1, .slice ap0_4 p0_2.length zp0_5, .int .i64 p0_6, .slice ap0_9 p0_7.length zp0_10, .bool p0_12] 99 0 true)], Bp0_12] F (fun v S' F' => F = F' ∧ v = .bool r ∧ S' = [[(ip0_1, .row [strV p0_1, .slice ap0_4 p0_2.length zp0_5, .int .i64 p0_6, .slice ap0_9 p0_7.length zp0_10, .bool p0_12] 99 0 true)], Bp0_12]) := by
 refine Cl.of Tryz.func169 rfl (fun _ _ => rfl) (by kernel_rfl) fun s L nx0 hS => ?_
 unfold g_classify_match_begins.f at h
 refine WW.seq (WW.region ?_)
 refine q_nw hS (wn rfl) rfl rfl rfl (v := fun i => .pointer (some ⟨i, 0, none⟩)) (b := .row [strV p1_0] 9 0 true) (aop_box (hS.lk rfl) rfl [strV p1_0] rfl) fun s i1 hS => (q_seg0 tbok hS 1 [] [4] [.bool false] [] (by kernel_rfl) fun s hS => ?_)
 refine KW.nil (WW.seq ?_)
 refine WW.region (q_seg0 tbok hS 1 [] [5] [.pointer (some ⟨ip0_1, 0, none⟩)] [] (by kernel_rfl) fun s hS => ?_)
 refine q_pu hS (wn rfl) rfl rfl rfl (v := .func (.func 186) #[] #[.pointer (some ⟨i1, 0, none⟩)]) (aop_mf (map_lk hS (vs := []) rfl) (map_lk hS (vs := [.pointer (some ⟨i1, 0, none⟩)]) rfl)) fun s hS => ?_
 obtain ⟨y2, hy2, h⟩ := bind_some h
 replace hS := hS.pull 2
 replace hS := hS.pull 2
 refine q_cR (g_classify_match_is_5.ok hy2 hp0_6) tbok hS 0 7 3 rfl (by kernel_rfl) fun s hS => (q_seg0 tbok hS 1 [] [4] [.bool y2] [] (by kernel_rfl) fun s hS => ?_)
 refine KW.nil (WW.ret ?_)
 replace hS := (hS.pull 2).drop
 cases h
 exact fin1 hS (.inr rfl) 4 rfl rfl ⟨rfl, rfl, rfl⟩
/-! ### (*formulary/classify.match).list (109) -/
noncomputable def g_classify_match_list_4.b0 (p0_1 : List UInt8) (p0_2 : List Int) (x3 : Int × Bool) : Option ((Int × Bool) ⊕ (Int × Bool)) :=
  (if x3.2 then Option.bind (g_classify_match_takes.f p0_1 p0_2 x3.1 x3.2 44) fun y8 => (if y8.1 then Option.bind (g_classify_match_parens.f p0_1 p0_2 y8.2 x3.2) fun y11 => some (.inl (y11.1, y11.2)) else some (.inr (y8.2, x3.2))) else some (.inr (x3.1, x3.2)))
noncomputable def g_classify_match_list_4.f (p0_1 : List UInt8) (p0_2 : List Int) (p0_6 : Int) (p0_12 : Bool) : Option (Int × Bool) :=
  Option.bind (g_classify_match_parens.f p0_1 p0_2 p0_6 p0_12) fun y1 => Option.bind (iter (g_classify_match_list_4.b0 p0_1 p0_2) (y1.1, y1.2)) fun o4 => some (o4.1, o4.2)
set_option maxHeartbeats 4000000 in
theorem g_classify_match_list_4.ok {ip0_1 : Nat} {ap0_4 : Option Addr} {zp0_5 : Nat} {ap0_9 : Option Addr} {zp0_10 : Nat} {Bp0_12 : Seg} {p0_1 : List UInt8} {p0_2 : List Int} {p0_6 : Int} {p0_7 : List Int} {p0_12 : Bool} {F : FZ} {r : Int × Bool} (h : g_classify_match_list_4.f p0_1 p0_2 p0_6 p0_12 = some r) (hp0_6 : Frz (elI .i64 3) F ap0_4 zp0_5 p0_2) :
    Cl EV 109 [.pointer (some ⟨ip0_1, 0, none⟩), .func (.func 92) #[.pointer (some ⟨ip0_1, 0, none⟩)] #[]] [[(ip0_1, .row [strV p0_1, .slice ap0_4 p0_2.length zp0_5, .int .i64 p0_6, .slice ap0_9 p0_7.length zp0_10, .bool p0_12] 99 0 true)], Bp0_12] F (fun v S' F' => F = F' ∧ v = .tuple #[] ∧ S' = [[(ip0_1, .row [strV p0_1, .slice ap0_4 p0_2.length zp0_5, .int .i64 r.1, .slice ap0_9 p0_7.length zp0_10, .bool r.2] 99 0 true)], Bp0_12]) := by
 refine Cl.of Tryz.func109 rfl (fun _ _ => rfl) (by kernel_rfl) fun s L nx0 hS => ?_
 unfold g_classify_match_list_4.f at h
 refine WW.seq (WW.region ?_)
 obtain ⟨y1, hy1, h⟩ := bind_some h
 refine q_cR (g_classify_match_parens.ok hy1 hp0_6) tbok hS 1 5 2 rfl (by kernel_rfl) fun s hS => (KW.nil ?_)
 refine WW.block ?_
 obtain ⟨o4, ho4, h⟩ := bind_some h
 refine WW.loop (LW.iter ho4 (fun (x3 : Int × Bool) s => Stt EV s [(0, .pointer (some ⟨ip0_1, 0, none⟩)), (1, .func (.func 92) #[.pointer (some ⟨ip0_1, 0, none⟩)] #[])] [[(ip0_1, .row [strV p0_1, .slice ap0_4 p0_2.length zp0_5, .int .i64 x3.1, .slice ap0_9 p0_7.length zp0_10, .bool x3.2] 99 0 true)], Bp0_12] F L F nx0) (fun (y5 : Int × Bool) e s => (e = .exit 0 ∧ Stt EV s [(0, .pointer (some ⟨ip0_1, 0, none⟩)), (1, .func (.func 92) #[.pointer (some ⟨ip0_1, 0, none⟩)] #[])] [[(ip0_1, .row [strV p0_1, .slice ap0_4 p0_2.length zp0_5, .int .i64 y5.1, .slice ap0_9 p0_7.length zp0_10, .bool y5.2] 99 0 true)], Bp0_12] F L F nx0)) (hS.subR rfl) ?_ ?_)
 clear hS
 rintro x3 s hS o4' h6
 unfold g_classify_match_list_4.b0 at h6
 refine WW.seq (WW.seq ?_)
 refine WW.region (q_seg0 tbok hS 5 [0] [10] [.bool x3.2] [ip0_1] (by kernel_rfl) fun s hS => ?_)
 refine bc h6 (fun hc7 h6 => ?_) fun hc7 h6 => ?_
 replace hS := hS.kb 10 hc7 rfl
 refine q_seg0 tbok hS 1 [] [11] [.pointer (some ⟨ip0_1, 0, none⟩)] [] (by kernel_rfl) fun s hS => ?_
 obtain ⟨y8, hy8, h6⟩ := bind_some h6
 refine q_cl hS (wt hS rfl rfl rfl rfl) (vs := [.pointer (some ⟨ip0_1, 0, none⟩), vB 44]) (ws := [.pointer (some ⟨ip0_1, 0, none⟩), vB 44]) rfl rfl rfl rfl rfl 2 rfl (g_classify_match_takes.ok hy8 hp0_6) fun s v S' F' hp9 hF hS => ?_
 obtain ⟨rfl, rfl, rfl⟩ := hp9
 refine q_seg0 tbok hS 1 [] [13] [.bool y8.1] [] (by kernel_rfl) fun s hS => (KW.nil ?_)
 refine bc h6 (fun hc10 h6 => ?_) fun hc10 h6 => ?_
 refine WW.condK hS rfl hc10 (WW.skip ?_)
 refine WW.block (WW.region ?_)
 obtain ⟨y11, hy11, h6⟩ := bind_some h6
 refine q_cR (g_classify_match_parens.ok hy11 hp0_6) tbok hS 1 15 2 rfl (by kernel_rfl) fun s hS => (KW.nil ?_)
 obtain rfl := Option.some.inj h6
 exact ⟨_, rfl, (hS.subR rfl)⟩
 refine WW.condF hS rfl hc10 (WW.exit ?_)
 refine thenQ_exit ?_
 obtain rfl := Option.some.inj h6
 exact ⟨_, rfl, rfl, (hS.subR rfl)⟩
 replace hS := hS.kb 10 hc7 rfl
 refine q_seg0 tbok hS 3 [] [13] [.bool false] [] (by kernel_rfl) fun s hS => (KW.nil ?_)
 refine WW.condF hS rfl rfl (WW.exit ?_)
 refine thenQ_exit ?_
 obtain rfl := Option.some.inj h6
 exact ⟨_, rfl, rfl, (hS.subR rfl)⟩
 clear hS
 rintro e s ⟨rfl, hS⟩
 refine blockQ_exit ?_
 cases h
 exact fin0 hS (.inl rfl) rfl ⟨rfl, rfl, rfl⟩
/-! ### (*formulary/classify.match).data (171) -/
noncomputable def g_classify_match_data.b0 (p0_1 : List UInt8) (p0_2 : List Int) (x5 : List Int × Int) : Option ((List Int × Int) ⊕ (List Int × Int)) :=
  (if (decide (x5.2 < (p0_1.length : Int))) then Option.bind ((if 0 ≤ x5.2 ∧ x5.2 < (p0_2.length : Int) then Option.bind ((if ((gt p0_2 x5.2) == 0) then (if 0 ≤ x5.2 ∧ x5.2 < (p0_1.length : Int) then some (((gt p0_1 x5.2).toNat : Int) == ((47 : UInt8).toNat : Int)) else none) else some false)) fun z32 => (if z32 then (if x5.1.length + ([x5.2] : List Int).length < 1000000000 then some (x5.1 ++ ([x5.2] : List Int)) else none) else some x5.1) else none)) fun z18 => some (.inl (z18, (w64 (x5.2 + 1)))) else some (.inr (x5.1, x5.2)))
noncomputable def g_classify_match_data.f (p0_1 : List UInt8) (p0_2 : List Int) (p0_6 : Int) (p0_12 : Bool) : Option (Int × Bool) :=
  Option.bind (g_classify_match_begins.f p0_1 p0_2 p0_6 p0_12 ([40])) fun y1 => Option.bind (g_classify_match_must.f p0_12 y1) fun y3 => Option.bind (iter (g_classify_match_data.b0 p0_1 p0_2) (([] : List Int), p0_6)) fun o10 => (if (decide (0 < o10.1.length)) then (if (decide ((o10.1.length : Int) > 1)) then (if 0 ≤ (w64 ((o10.1.length : Int) - 1)) ∧ (w64 ((o10.1.length : Int) - 1)) < (o10.1.length : Int) then Option.bind (g_classify_match_must.f y3 ((gt o10.1 (w64 ((o10.1.length : Int) - 1))) == (w64 ((p0_1.length : Int) - 1)))) fun y58 => Option.bind (g_classify_match_rest.f p0_1 p0_2 p0_6 y58) fun y60 => some (y60.1, y60.2) else none) else Option.bind (g_classify_match_must.f y3 false) fun y62 => Option.bind (g_classify_match_rest.f p0_1 p0_2 p0_6 y62) fun y64 => some (y64.1, y64.2)) else (if (decide ((o10.1.length : Int) > 1)) then none else Option.bind (g_classify_match_must.f y3 false) fun y67 => Option.bind (g_classify_match_rest.f p0_1 p0_2 p0_6 y67) fun y69 => some (y69.1, y69.2)))
set_option maxHeartbeats 4000000 in
theorem g_classify_match_data.ok {ip0_1 : Nat} {ap0_4 : Option Addr} {zp0_5 : Nat} {ap0_9 : Option Addr} {zp0_10 : Nat} {Bp0_12 : Seg} {p0_1 : List UInt8} {p0_2 : List Int} {p0_6 : Int} {p0_7 : List Int} {p0_12 : Bool} {F : FZ} {r : Int × Bool} (h : g_classify_match_data.f p0_1 p0_2 p0_6 p0_12 = some r) (hp0_6 : Frz (elI .i64 3) F ap0_4 zp0_5 p0_2) :
    Cl EV 171 [.pointer (some ⟨ip0_1, 0, none⟩)] [[(ip0_1, .row [strV p0_1, .slice ap0_4 p0_2.length zp0_5, .int .i64 p0_6, .slice ap0_9 p0_7.length zp0_10, .bool p0_12] 99 0 true)], Bp0_12] F (fun v S' F' => F = F' ∧ v = .tuple #[] ∧ S' = [[(ip0_1, .row [strV p0_1, .slice ap0_4 p0_2.length zp0_5, .int .i64 r.1, .slice ap0_9 p0_7.length zp0_10, .bool r.2] 99 0 true)], Bp0_12]) := by
 refine Cl.of Tryz.func171 rfl (fun _ _ => rfl) (by kernel_rfl) fun s L nx0 hS => ?_
 unfold g_classify_match_data.f at h
 refine WW.seq (WW.region ?_)
 refine q_seg0 tbok hS 2 [] [4, 5] [.pointer (some ⟨ip0_1, 0, none⟩), .pointer (some ⟨ip0_1, 0, none⟩)] [] (by kernel_rfl) fun s hS => ?_
 obtain ⟨y1, hy1, h⟩ := bind_some h
 refine q_cl hS (wn rfl) (vs := [.pointer (some ⟨ip0_1, 0, none⟩), strV ([40])]) (ws := [.pointer (some ⟨ip0_1, 0, none⟩), strV ([40])]) rfl rfl rfl rfl rfl 2 rfl (g_classify_match_begins.ok hy1 hp0_6) fun s v S' F' hp2 hF hS => ?_
 obtain ⟨rfl, rfl, rfl⟩ := hp2
 obtain ⟨y3, hy3, h⟩ := bind_some h
 refine q_cR (g_classify_match_must.ok hy3) tbok hS 0 7 2 rfl (by kernel_rfl) fun s hS => (KW.nil ?_)
 refine WW.seq (WW.region ?_)
 refine q_seg0 tbok hS 1 [] [2] [.slice none 0 0] [] (by kernel_rfl) fun s hS => (KW.nil ?_)
 refine WW.seq (WW.seq ?_)
 refine WW.region (q_seg0 tbok hS 5 [0] [3] [.int .i64 p0_6] [ip0_1] (by kernel_rfl) fun s hS => ?_)
 refine KW.nil (WW.block ?_)
 replace hS := hS.gap0
 obtain ⟨o10, ho10, h⟩ := bind_some h
 refine WW.loop (LW.iter ho10 (fun (x5 : List Int × Int) s => ∃ (a6 : Option Addr) (z7 : Nat) (B9 : Seg), Stt EV s [(0, .pointer (some ⟨ip0_1, 0, none⟩)), (2, .slice a6 x5.1.length z7), (3, .int .i64 x5.2)] [B9, [(ip0_1, .row [strV p0_1, .slice ap0_4 p0_2.length zp0_5, .int .i64 p0_6, .slice ap0_9 p0_7.length zp0_10, .bool y3] 99 0 true)], Bp0_12] F L F nx0 ∧ Own (elI .i64 3) F a6 z7 x5.1 B9) (fun (y11 : List Int × Int) e s => (e = .exit 0 ∧ ∃ (a12 : Option Addr) (z13 : Nat) (B15 : Seg), Stt EV s [(0, .pointer (some ⟨ip0_1, 0, none⟩)), (2, .slice a12 y11.1.length z13), (3, .int .i64 y11.2)] [B15, [(ip0_1, .row [strV p0_1, .slice ap0_4 p0_2.length zp0_5, .int .i64 p0_6, .slice ap0_9 p0_7.length zp0_10, .bool y3] 99 0 true)], Bp0_12] F L F nx0 ∧ Own (elI .i64 3) F a12 z13 y11.1 B15)) ⟨_, _, _, (hS.subR rfl), Own.nil⟩ ?_ ?_)
 clear hS
 rintro x5 s ⟨a6, z7, B9, hS, h8⟩ o10' h16
 unfold g_classify_match_data.b0 at h16
 refine WW.seq (WW.seq ?_)
 refine WW.region (q_seg0 tbok hS 7 [1] [18] [.bool (decide (x5.2 < (p0_1.length : Int)))] [ip0_1] (by kernel_rfl) fun s hS => ?_)
 refine KW.nil (bc h16 (fun hc17 h16 => ?_) fun hc17 h16 => ?_)
 refine WW.condK hS rfl hc17 (WW.skip ?_)
 obtain ⟨z18, hz18, h16⟩ := bind_some h16
 refine WW.seqJ (fun s => ∃ (a19 : Option Addr) (z20 : Nat) (B22 : Seg), Stt EV s [(0, .pointer (some ⟨ip0_1, 0, none⟩)), (2, .slice a19 z18.length z20), (3, .int .i64 x5.2)] [B22, [(ip0_1, .row [strV p0_1, .slice ap0_4 p0_2.length zp0_5, .int .i64 p0_6, .slice ap0_9 p0_7.length zp0_10, .bool y3] 99 0 true)], Bp0_12] F L F nx0 ∧ Own (elI .i64 3) F a19 z20 z18 B22) ?_ ?_
 refine WW.block (WW.seq ?_)
 refine WW.region (q_seg0 tbok hS 5 [1] [24, 25] [.slice ap0_4 p0_2.length zp0_5, .int .i64 x5.2] [ip0_1] (by kernel_rfl) fun s hS => ?_)
 obtain ⟨hk23, hz18⟩ := ite_some hz18
 obtain ⟨i29, of30, rfl⟩ := Frz.addr hp0_6 (by omega)
 obtain ⟨_, _, _, _, c24, hF31, hR25, hN26, hN27, hT28⟩ := Frz.at hp0_6 hk23 (m := 1) rfl
 obtain rfl := hR25
 refine q_pu hS (wn rfl) rfl rfl rfl (v := .pointer (some ⟨i29, of30 + (x5.2).toNat * 1, none⟩)) (aop_ia (hS.lk rfl) (hS.lk rfl) te22 hk23) fun s hS => (q_ld hS (wn rfl) rfl rfl rfl (hS.fat hF31) tg3 (v := .int .i64 (gt p0_2 x5.2)) hN26 fun s hS => ?_)
 refine q_seg0 tbok hS 2 [] [29] [.bool ((gt p0_2 x5.2) == 0)] [] (by kernel_rfl) fun s hS => ?_
 obtain ⟨z32, hz32, hz18⟩ := bind_some hz18
 refine q_cut 8 (fun s => Stt EV s [(37, .bool z32), (0, .pointer (some ⟨ip0_1, 0, none⟩)), (2, .slice a6 x5.1.length z7), (3, .int .i64 x5.2)] [B9, [(ip0_1, .row [strV p0_1, .slice (some ⟨i29, of30, none⟩) p0_2.length zp0_5, .int .i64 p0_6, .slice ap0_9 p0_7.length zp0_10, .bool y3] 99 0 true)], Bp0_12] F L F nx0) ?_ fun s hS => ?_
 refine bc hz32 (fun hc33 hz32 => ?_) fun hc33 hz32 => ?_
 replace hS := hS.kb 29 hc33 rfl
 refine q_seg0 tbok hS 5 [1] [33, 34] [strV p0_1, .int .i64 x5.2] [ip0_1] (by kernel_rfl) fun s hS => ?_
 obtain ⟨hk34, hz32⟩ := ite_some hz32
 refine q_pu hS (wt hS rfl rfl rfl rfl) rfl rfl rfl (v := vB (gt p0_1 x5.2)) (aop_idxS tu9 (hS.lk rfl) (hS.lk rfl) hk34) fun s hS => (q_seg0 tbok hS 2 [] [37] [.bool (((gt p0_1 x5.2).toNat : Int) == ((47 : UInt8).toNat : Int))] [] (by kernel_rfl) fun s hS => ?_)
 refine KW.nil ?_
 obtain rfl := Option.some.inj hz32
 exact hS.subR rfl
 replace hS := hS.kb 29 hc33 rfl
 refine q_seg0 tbok hS 8 [] [37] [.bool false] [] (by kernel_rfl) fun s hS => (KW.nil ?_)
 obtain rfl := Option.some.inj hz32
 exact hS.subR rfl
 refine KW.nil (bc hz18 (fun hc35 hz18 => ?_) fun hc35 hz18 => ?_)
 refine WW.condK hS rfl hc35 (WW.region ?_)
 refine q_seg0 tbok hS 2 [] [38, 39] [.slice a6 x5.1.length z7, .int .i64 x5.2] [] (by kernel_rfl) fun s hS => (q_nw hS (wn rfl) rfl rfl rfl (v := fun i => .slice (some ⟨i, 0, none⟩) 1 1) (b := .row [.int .i64 x5.2] 3 1 true) (aop_bsl tu22 tz3 t0_3 rfl [(0, .int .i64 x5.2)] (parts_eq hS rfl) rfl) fun s i36 hS => ?_)
 have hC37 : Cells (elI .i64 3) F ([x5.2] : List Int) [.int .i64 x5.2] := ⟨[.int .i64 x5.2], [], rfl, rfl, rfl⟩
 obtain ⟨hk41, hz18⟩ := ite_some hz18
 refine q_app hS (wn rfl) (dd := (elI .i64 3)) (lst := x5.1) (m := ([x5.2] : List Int)) rfl rfl ta22_22 rfl rfl h8 (Nat.succ_pos _) hC37 hk41 fun s i38 cs39 hC40 hS => (q_seg0 tbok hS 1 [] [2] [.slice (some ⟨i38, 0, none⟩) (x5.1 ++ ([x5.2] : List Int)).length 1] [] (by kernel_rfl) fun s hS => ?_)
 refine KW.nil ?_
 obtain rfl := Option.some.inj hz18
 exact ⟨_, _, _, (hS.subR rfl), (Own.blk0 hC40)⟩
 refine WW.condF hS rfl hc35 (WW.skip ?_)
 obtain rfl := Option.some.inj hz18
 exact ⟨_, _, _, (hS.subR rfl), h8⟩
 rintro s ⟨a19, z20, B22, hS, h21⟩
 refine WW.region (q_seg0 tbok hS 3 [] [3] [.int .i64 (w64 (x5.2 + 1))] [] (by kernel_rfl) fun s hS => ?_)
 refine KW.nil ?_
 obtain rfl := Option.some.inj h16
 exact ⟨_, rfl, _, _, _, (hS.subR rfl), h21⟩
 refine WW.condF hS rfl hc17 (WW.exit ?_)
 refine thenQ_exit ?_
 obtain rfl := Option.some.inj h16
 exact ⟨_, rfl, rfl, _, _, _, (hS.subR rfl), h8⟩
 clear hS
 rintro e s ⟨rfl, a42, z43, B45, hS, h44⟩
 refine blockQ_exit (WW.seq ?_)
 refine bc h (fun hc46 h => ?_) fun hc46 h => ?_
 have hpos := of_decide_eq_true hc46
 obtain ⟨i47, cs48, ex49, rfl, rfl, rfl, hC50⟩ := Own.some_ h44 (by omega)
 refine WW.regionD (i := [[], [0], [0], [0], [0], [0], [5, 0], [5, 0], [5, 0], [0], [0], [10, 9, 8, 7, 6, 5, 0], [10, 9, 8, 7, 6, 5, 0], [10, 9, 8, 7, 6, 5, 0], [10, 9, 8, 7, 6, 5, 0], [10, 9, 8, 7, 6, 5, 0], [10, 9, 8, 7, 6, 5, 0], [0], [0], []]) (by kernel_rfl) ?_
 have hq := RS.start [i47, ip0_1]
 refine K.seg tbok hS hq 5 [42, 46] [.pointer (some ⟨ip0_1, 0, none⟩), .bool (decide ((o10.1.length : Int) > 1))] (by kernel_rfl) fun s rs hS hq => (bc h (fun hc51 h => ?_) fun hc51 h => ?_)
 replace hS := hS.kb 46 hc51 rfl
 refine K.seg tbok hS hq 4 [47, 50] [.slice (some ⟨i47, 0, none⟩) o10.1.length 1, .int .i64 (w64 ((o10.1.length : Int) - 1))] (by kernel_rfl) fun s rs hS hq => ?_
 obtain ⟨hk52, h⟩ := ite_some h
 obtain ⟨c53, hR54, hN56, hN55, hT57⟩ := Cells.loadF hC50 ex49 hk52 (z := 1) rfl
 obtain rfl := hR54
 refine K.pu hS hq rfl (wt hS rfl rfl rfl rfl) rfl rfl rfl (v := .pointer (some ⟨i47, 0 + ((w64 ((o10.1.length : Int) - 1))).toNat * 1, none⟩)) (aop_ia (hS.lk rfl) (hS.lk rfl) te22 hk52) fun s rs hS hq => (K.ld hS hq rfl (wt hS rfl rfl rfl rfl) rfl rfl rfl (hS.at (k := 0) rfl) tg3 (v := .int .i64 (gt o10.1 (w64 ((o10.1.length : Int) - 1)))) hN55 0 rfl rfl fun s rs hS hq => ?_)
 refine K.seg tbok hS hq 3 [55] [.pointer (some ⟨ip0_1, 0, none⟩)] (by kernel_rfl) fun s rs hS hq => (K.ld hS hq rfl (wt hS rfl rfl rfl rfl) rfl rfl rfl (hS.at (k := 1) rfl) tg9 (v := strV p0_1) rfl 1 rfl rfl fun s rs hS hq => ?_)
 refine K.seg tbok hS hq 4 [60] [.bool ((gt o10.1 (w64 ((o10.1.length : Int) - 1))) == (w64 ((p0_1.length : Int) - 1)))] (by kernel_rfl) fun s rs hS hq => ?_
 obtain ⟨y58, hy58, h⟩ := bind_some h
 replace hS := hS.pull 2
 replace hS := hS.pull 2
 refine K.cl hS hq rfl (wn rfl) (vs := [.pointer (some ⟨ip0_1, 0, none⟩), .bool ((gt o10.1 (w64 ((o10.1.length : Int) - 1))) == (w64 ((p0_1.length : Int) - 1)))]) (ws := [.pointer (some ⟨ip0_1, 0, none⟩), .bool ((gt o10.1 (w64 ((o10.1.length : Int) - 1))) == (w64 ((p0_1.length : Int) - 1)))]) rfl rfl rfl rfl rfl 2 rfl (g_classify_match_must.ok hy58)  [0] rfl rfl (aw_c rfl mm0 aw_n) fun s rs v S' F' hp59 hF hS hq => ?_
 obtain ⟨rfl, rfl, rfl⟩ := hp59
 refine KW.nil (WW.region ?_)
 obtain ⟨y60, hy60, h⟩ := bind_some h
 refine q_cR (g_classify_match_rest.ok hy60 hp0_6) tbok hS 1 63 2 rfl (by kernel_rfl) fun s hS => (KW.nil ?_)
 replace hS := (hS.pull 2).drop
 cases h
 exact fin0 hS (.inl rfl) rfl ⟨rfl, rfl, rfl⟩
 replace hS := hS.kb 46 hc51 rfl
 refine K.seg tbok hS hq 14 [60] [.bool false] (by kernel_rfl) fun s rs hS hq => ?_
 obtain ⟨y62, hy62, h⟩ := bind_some h
 replace hS := hS.pull 2
 replace hS := hS.pull 2
 refine K.cl hS hq rfl (wn rfl) (vs := [.pointer (some ⟨ip0_1, 0, none⟩), .bool false]) (ws := [.pointer (some ⟨ip0_1, 0, none⟩), .bool false]) rfl rfl rfl rfl rfl 2 rfl (g_classify_match_must.ok hy62)  [0] rfl rfl (aw_c rfl mm0 aw_n) fun s rs v S' F' hp63 hF hS hq => ?_
 obtain ⟨rfl, rfl, rfl⟩ := hp63
 refine KW.nil (WW.region ?_)
 obtain ⟨y64, hy64, h⟩ := bind_some h
 refine q_cR (g_classify_match_rest.ok hy64 hp0_6) tbok hS 1 63 2 rfl (by kernel_rfl) fun s hS => (KW.nil ?_)
 replace hS := (hS.pull 2).drop
 cases h
 exact fin0 hS (.inl rfl) rfl ⟨rfl, rfl, rfl⟩
 refine WW.regionD (i := [[], [0], [0], [0], [0], [0], [5, 0], [5, 0], [5, 0], [0], [0], [10, 9, 8, 7, 6, 5, 0], [10, 9, 8, 7, 6, 5, 0], [10, 9, 8, 7, 6, 5, 0], [10, 9, 8, 7, 6, 5, 0], [10, 9, 8, 7, 6, 5, 0], [10, 9, 8, 7, 6, 5, 0], [0], [0], []]) (by kernel_rfl) ?_
 have hq := RS.start [ip0_1]
 refine K.seg tbok hS hq 5 [42, 46] [.pointer (some ⟨ip0_1, 0, none⟩), .bool (decide ((o10.1.length : Int) > 1))] (by kernel_rfl) fun s rs hS hq => (bc h (fun hc66 h => ?_) fun hc66 h => ?_)
 replace hS := hS.kb 46 hc66 rfl
 refine K.seg tbok hS hq 4 [47, 50] [.slice a42 o10.1.length z43, .int .i64 (w64 ((o10.1.length : Int) - 1))] (by kernel_rfl) fun s rs hS hq => ?_
 exact nomatch h
 replace hS := hS.kb 46 hc66 rfl
 refine K.seg tbok hS hq 14 [60] [.bool false] (by kernel_rfl) fun s rs hS hq => ?_
 obtain ⟨y67, hy67, h⟩ := bind_some h
 replace hS := hS.pull 2
 replace hS := hS.pull 2
 refine K.cl hS hq rfl (wn rfl) (vs := [.pointer (some ⟨ip0_1, 0, none⟩), .bool false]) (ws := [.pointer (some ⟨ip0_1, 0, none⟩), .bool false]) rfl rfl rfl rfl rfl 2 rfl (g_classify_match_must.ok hy67)  [] rfl rfl aw_n fun s rs v S' F' hp68 hF hS hq => ?_
 obtain ⟨rfl, rfl, rfl⟩ := hp68
 refine KW.nil (WW.region ?_)
 obtain ⟨y69, hy69, h⟩ := bind_some h
 refine q_cR (g_classify_match_rest.ok hy69 hp0_6) tbok hS 1 63 2 rfl (by kernel_rfl) fun s hS => (KW.nil ?_)
 replace hS := (hS.pull 2).drop
 cases h
 exact fin0 hS (.inl rfl) rfl ⟨rfl, rfl, rfl⟩
/-! ### (*formulary/classify.match).letters (172) -/
noncomputable def g_classify_match_letters.f (p0_1 : List UInt8) (p0_2 : List Int) (p0_6 : Int) (p0_7 : List Int) (p0_12 : Bool) : Option (Int × List Int × Bool) :=
  Option.bind (g_classify_match_oneType.f p0_1 p0_2 p0_6 p0_7 p0_12) fun y1 => Option.bind (g_classify_match_must.f y1.2.2.2 y1.1) fun y9 => Option.bind (g_classify_match_parens.f p0_1 p0_2 y1.2.1 y9) fun y11 => some (y11.1, y1.2.2.1, y11.2)
set_option maxHeartbeats 4000000 in
theorem g_classify_match_letters.ok {ip0_1 : Nat} {ap0_4 : Option Addr} {zp0_5 : Nat} {ap0_9 : Option Addr} {zp0_10 : Nat} {Bp0_12 : Seg} {p0_1 : List UInt8} {p0_2 : List Int} {p0_6 : Int} {p0_7 : List Int} {p0_12 : Bool} {F : FZ} {r : Int × List Int × Bool} (h : g_classify_match_letters.f p0_1 p0_2 p0_6 p0_7 p0_12 = some r) (hp0_6 : Frz (elI .i64 3) F ap0_4 zp0_5 p0_2) (hp0_11 : Own (elI .i64 3) F ap0_9 zp0_10 p0_7 Bp0_12) :
    Cl EV 172 [.pointer (some ⟨ip0_1, 0, none⟩)] [[(ip0_1, .row [strV p0_1, .slice ap0_4 p0_2.length zp0_5, .int .i64 p0_6, .slice ap0_9 p0_7.length zp0_10, .bool p0_12] 99 0 true)], Bp0_12] F (fun v S' F' => ∃ (ra1 : Option Addr) (rz2 : Nat) (rB4 : Seg), FLe F F' ∧ v = .tuple #[] ∧ S' = [[(ip0_1, .row [strV p0_1, .slice ap0_4 p0_2.length zp0_5, .int .i64 r.1, .slice ra1 r.2.1.length rz2, .bool r.2.2] 99 0 true)], rB4] ∧ Own (elI .i64 3) F' ra1 rz2 r.2.1 rB4) := by
 refine Cl.of Tryz.func172 rfl (fun _ _ => rfl) (by kernel_rfl) fun s L nx0 hS => ?_
 unfold g_classify_match_letters.f at h
 refine WW.seq (WW.region ?_)
 refine q_seg0 tbok hS 2 [] [2, 3] [.pointer (some ⟨ip0_1, 0, none⟩), .pointer (some ⟨ip0_1, 0, none⟩)] [] (by kernel_rfl) fun s hS => ?_
 obtain ⟨y1, hy1, h⟩ := bind_some h
 refine q_cl hS (wn rfl) (vs := [.pointer (some ⟨ip0_1, 0, none⟩)]) (ws := [.pointer (some ⟨ip0_1, 0, none⟩)]) rfl rfl rfl rfl rfl 2 rfl (g_classify_match_oneType.ok hy1 hp0_6 hp0_11) fun s v S' F3 hp2 hF hS => ?_
 obtain ⟨a4, z5, B7, hF8, rfl, rfl, h6⟩ := hp2
 obtain ⟨y9, hy9, h⟩ := bind_some h
 refine q_cR (g_classify_match_must.ok hy9) tbok hS 0 5 2 rfl (by kernel_rfl) fun s hS => (KW.nil ?_)
 refine WW.region ?_
 obtain ⟨y11, hy11, h⟩ := bind_some h
 refine q_cR (g_classify_match_parens.ok hy11 (hp0_6.mono hF8)) tbok hS 1 7 2 rfl (by kernel_rfl) fun s hS => (KW.nil ?_)
 cases h
 exact fin0 hS (.inl rfl) rfl ⟨_, _, _, (hF8), rfl, rfl, h6⟩
/-! ### (*formulary/classify.match).list (109) -/
noncomputable def g_classify_match_list_5.b0 (p0_1 : List UInt8) (p0_2 : List Int) (x9 : Int × List Int × Bool) : Option ((Int × List Int × Bool) ⊕ (Int × List Int × Bool)) :=
  (if x9.2.2 then Option.bind (g_classify_match_takes.f p0_1 p0_2 x9.1 x9.2.2 44) fun y26 => (if y26.1 then Option.bind (g_classify_match_letters.f p0_1 p0_2 y26.2 x9.2.1 x9.2.2) fun y29 => some (.inl (y29.1, y29.2.1, y29.2.2)) else some (.inr (y26.2, x9.2.1, x9.2.2))) else some (.inr (x9.1, x9.2.1, x9.2.2)))
noncomputable def g_classify_match_list_5.f (p0_1 : List UInt8) (p0_2 : List Int) (p0_6 : Int) (p0_7 : List Int) (p0_12 : Bool) : Option (Int × List Int × Bool) :=
  Option.bind (g_classify_match_letters.f p0_1 p0_2 p0_6 p0_7 p0_12) fun y1 => Option.bind (iter (g_classify_match_list_5.b0 p0_1 p0_2) (y1.1, y1.2.1, y1.2.2)) fun o16 => some (o16.1, o16.2.1, o16.2.2)
set_option maxHeartbeats 4000000 in
theorem g_classify_match_list_5.ok {ip0_1 : Nat} {ap0_4 : Option Addr} {zp0_5 : Nat} {ap0_9 : Option Addr} {zp0_10 : Nat} {Bp0_12 : Seg} {p0_1 : List UInt8} {p0_2 : List Int} {p0_6 : Int} {p0_7 : List Int} {p0_12 : Bool} {F : FZ} {r : Int × List Int × Bool} (h : g_classify_match_list_5.f p0_1 p0_2 p0_6 p0_7 p0_12 = some r) (hp0_6 : Frz (elI .i64 3) F ap0_4 zp0_5 p0_2) (hp0_11 : Own (elI .i64 3) F ap0_9 zp0_10 p0_7 Bp0_12) :
    Cl EV 109 [.pointer (some ⟨ip0_1, 0, none⟩), .func (.func 172) #[.pointer (some ⟨ip0_1, 0, none⟩)] #[]] [[(ip0_1, .row [strV p0_1, .slice ap0_4 p0_2.length zp0_5, .int .i64 p0_6, .slice ap0_9 p0_7.length zp0_10, .bool p0_12] 99 0 true)], Bp0_12] F (fun v S' F' => ∃ (ra1 : Option Addr) (rz2 : Nat) (rB4 : Seg), FLe F F' ∧ v = .tuple #[] ∧ S' = [[(ip0_1, .row [strV p0_1, .slice ap0_4 p0_2.length zp0_5, .int .i64 r.1, .slice ra1 r.2.1.length rz2, .bool r.2.2] 99 0 true)], rB4] ∧ Own (elI .i64 3) F' ra1 rz2 r.2.1 rB4) := by
 refine Cl.of Tryz.func109 rfl (fun _ _ => rfl) (by kernel_rfl) fun s L nx0 hS => ?_
 unfold g_classify_match_list_5.f at h
 refine WW.seq (WW.region ?_)
 obtain ⟨y1, hy1, h⟩ := bind_some h
 refine q_cK (g_classify_match_letters.ok hy1 hp0_6 hp0_11) tbok hS 1 5 2 rfl (by kernel_rfl) fun s v S' F3 hp2 hF hS => ?_
 obtain ⟨a4, z5, B7, hF8, rfl, rfl, h6⟩ := hp2
 refine KW.nil (WW.block ?_)
 obtain ⟨o16, ho16, h⟩ := bind_some h
 refine WW.loop (LW.iter ho16 (fun (x9 : Int × List Int × Bool) s => ∃ (a12 : Option Addr) (z13 : Nat) (B15 : Seg) (F10 : FZ), Stt EV s [(0, .pointer (some ⟨ip0_1, 0, none⟩)), (1, .func (.func 172) #[.pointer (some ⟨ip0_1, 0, none⟩)] #[])] [[(ip0_1, .row [strV p0_1, .slice ap0_4 p0_2.length zp0_5, .int .i64 x9.1, .slice a12 x9.2.1.length z13, .bool x9.2.2] 99 0 true)], B15] F10 L F nx0 ∧ Own (elI .i64 3) F10 a12 z13 x9.2.1 B15 ∧ FLe F3 F10) (fun (y17 : Int × List Int × Bool) e s => (e = .exit 0 ∧ ∃ (a20 : Option Addr) (z21 : Nat) (B23 : Seg) (F18 : FZ), Stt EV s [(0, .pointer (some ⟨ip0_1, 0, none⟩)), (1, .func (.func 172) #[.pointer (some ⟨ip0_1, 0, none⟩)] #[])] [[(ip0_1, .row [strV p0_1, .slice ap0_4 p0_2.length zp0_5, .int .i64 y17.1, .slice a20 y17.2.1.length z21, .bool y17.2.2] 99 0 true)], B23] F18 L F nx0 ∧ Own (elI .i64 3) F18 a20 z21 y17.2.1 B23 ∧ FLe F3 F18)) ⟨_, _, _, _, (hS.subR rfl), h6, (FLe.refl _)⟩ ?_ ?_)
 clear hS
 rintro x9 s ⟨a12, z13, B15, F10, hS, h14, hF11⟩ o16' h24
 unfold g_classify_match_list_5.b0 at h24
 refine WW.seq (WW.seq ?_)
 refine WW.region (q_seg0 tbok hS 5 [0] [10] [.bool x9.2.2] [ip0_1] (by kernel_rfl) fun s hS => ?_)
 refine bc h24 (fun hc25 h24 => ?_) fun hc25 h24 => ?_
 replace hS := hS.kb 10 hc25 rfl
 refine q_seg0 tbok hS 1 [] [11] [.pointer (some ⟨ip0_1, 0, none⟩)] [] (by kernel_rfl) fun s hS => ?_
 obtain ⟨y26, hy26, h24⟩ := bind_some h24
 refine q_cl hS (wt hS rfl rfl rfl rfl) (vs := [.pointer (some ⟨ip0_1, 0, none⟩), vB 44]) (ws := [.pointer (some ⟨ip0_1, 0, none⟩), vB 44]) rfl rfl rfl rfl rfl 2 rfl (g_classify_match_takes.ok hy26 (hp0_6.mono (FLe.trans hF8 hF11))) fun s v S' F' hp27 hF hS => ?_
 obtain ⟨rfl, rfl, rfl⟩ := hp27
 refine q_seg0 tbok hS 1 [] [13] [.bool y26.1] [] (by kernel_rfl) fun s hS => (KW.nil ?_)
 refine bc h24 (fun hc28 h24 => ?_) fun hc28 h24 => ?_
 refine WW.condK hS rfl hc28 (WW.skip ?_)
 refine WW.block (WW.region ?_)
 obtain ⟨y29, hy29, h24⟩ := bind_some h24
 refine q_cK (g_classify_match_letters.ok hy29 (hp0_6.mono (FLe.trans hF8 hF11)) h14) tbok hS 1 15 2 rfl (by kernel_rfl) fun s v S' F31 hp30 hF hS => ?_
 obtain ⟨a32, z33, B35, hF36, rfl, rfl, h34⟩ := hp30
 refine KW.nil ?_
 obtain rfl := Option.some.inj h24
 exact ⟨_, rfl, _, _, _, _, (hS.subR rfl), h34, (FLe.trans hF11 hF36)⟩
 refine WW.condF hS rfl hc28 (WW.exit ?_)
 refine thenQ_exit ?_
 obtain rfl := Option.some.inj h24
 exact ⟨_, rfl, rfl, _, _, _, _, (hS.subR rfl), h14, hF11⟩
 replace hS := hS.kb 10 hc25 rfl
 refine q_seg0 tbok hS 3 [] [13] [.bool false] [] (by kernel_rfl) fun s hS => (KW.nil ?_)
 refine WW.condF hS rfl rfl (WW.exit ?_)
 refine thenQ_exit ?_
 obtain rfl := Option.some.inj h24
 exact ⟨_, rfl, rfl, _, _, _, _, (hS.subR rfl), h14, hF11⟩
 clear hS
 rintro e s ⟨rfl, a39, z40, B42, F37, hS, h41, hF38⟩
 refine blockQ_exit ?_
 cases h
 exact fin0 hS (.inl rfl) rfl ⟨_, _, _, ((FLe.trans hF8 hF38)), rfl, rfl, h41⟩
/-! ### (*formulary/classify.match).list (109) -/
noncomputable def g_classify_match_list_6.b0 (p0_1 : List UInt8) (p0_2 : List Int) (x3 : Int × Bool) : Option ((Int × Bool) ⊕ (Int × Bool)) :=
  (if x3.2 then Option.bind (g_classify_match_takes.f p0_1 p0_2 x3.1 x3.2 44) fun y8 => (if y8.1 then Option.bind (g_classify_match_name.f p0_1 p0_2 y8.2 x3.2) fun y11 => some (.inl (y11.1, y11.2)) else some (.inr (y8.2, x3.2))) else some (.inr (x3.1, x3.2)))
noncomputable def g_classify_match_list_6.f (p0_1 : List UInt8) (p0_2 : List Int) (p0_6 : Int) (p0_12 : Bool) : Option (Int × Bool) :=
  Option.bind (g_classify_match_name.f p0_1 p0_2 p0_6 p0_12) fun y1 => Option.bind (iter (g_classify_match_list_6.b0 p0_1 p0_2) (y1.1, y1.2)) fun o4 => some (o4.1, o4.2)
set_option maxHeartbeats 4000000 in
theorem g_classify_match_list_6.ok {ip0_1 : Nat} {ap0_4 : Option Addr} {zp0_5 : Nat} {ap0_9 : Option Addr} {zp0_10 : Nat} {Bp0_12 : Seg} {p0_1 : List UInt8} {p0_2 : List Int} {p0_6 : Int} {p0_7 : List Int} {p0_12 : Bool} {F : FZ} {r : Int × Bool} (h : g_classify_match_list_6.f p0_1 p0_2 p0_6 p0_12 = some r) (hp0_6 : Frz (elI .i64 3) F ap0_4 zp0_5 p0_2) :
    Cl EV 109 [.pointer (some ⟨ip0_1, 0, none⟩), .func (.func 104) #[.pointer (some ⟨ip0_1, 0, none⟩)] #[]] [[(ip0_1, .row [strV p0_1, .slice ap0_4 p0_2.length zp0_5, .int .i64 p0_6, .slice ap0_9 p0_7.length zp0_10, .bool p0_12] 99 0 true)], Bp0_12] F (fun v S' F' => F = F' ∧ v = .tuple #[] ∧ S' = [[(ip0_1, .row [strV p0_1, .slice ap0_4 p0_2.length zp0_5, .int .i64 r.1, .slice ap0_9 p0_7.length zp0_10, .bool r.2] 99 0 true)], Bp0_12]) := by
 refine Cl.of Tryz.func109 rfl (fun _ _ => rfl) (by kernel_rfl) fun s L nx0 hS => ?_
 unfold g_classify_match_list_6.f at h
 refine WW.seq (WW.region ?_)
 obtain ⟨y1, hy1, h⟩ := bind_some h
 refine q_cR (g_classify_match_name.ok hy1 hp0_6) tbok hS 1 5 2 rfl (by kernel_rfl) fun s hS => (KW.nil ?_)
 refine WW.block ?_
 obtain ⟨o4, ho4, h⟩ := bind_some h
 refine WW.loop (LW.iter ho4 (fun (x3 : Int × Bool) s => Stt EV s [(0, .pointer (some ⟨ip0_1, 0, none⟩)), (1, .func (.func 104) #[.pointer (some ⟨ip0_1, 0, none⟩)] #[])] [[(ip0_1, .row [strV p0_1, .slice ap0_4 p0_2.length zp0_5, .int .i64 x3.1, .slice ap0_9 p0_7.length zp0_10, .bool x3.2] 99 0 true)], Bp0_12] F L F nx0) (fun (y5 : Int × Bool) e s => (e = .exit 0 ∧ Stt EV s [(0, .pointer (some ⟨ip0_1, 0, none⟩)), (1, .func (.func 104) #[.pointer (some ⟨ip0_1, 0, none⟩)] #[])] [[(ip0_1, .row [strV p0_1, .slice ap0_4 p0_2.length zp0_5, .int .i64 y5.1, .slice ap0_9 p0_7.length zp0_10, .bool y5.2] 99 0 true)], Bp0_12] F L F nx0)) (hS.subR rfl) ?_ ?_)
 clear hS
 rintro x3 s hS o4' h6
 unfold g_classify_match_list_6.b0 at h6
 refine WW.seq (WW.seq ?_)
 refine WW.region (q_seg0 tbok hS 5 [0] [10] [.bool x3.2] [ip0_1] (by kernel_rfl) fun s hS => ?_)
 refine bc h6 (fun hc7 h6 => ?_) fun hc7 h6 => ?_
 replace hS := hS.kb 10 hc7 rfl
 refine q_seg0 tbok hS 1 [] [11] [.pointer (some ⟨ip0_1, 0, none⟩)] [] (by kernel_rfl) fun s hS => ?_
 obtain ⟨y8, hy8, h6⟩ := bind_some h6
 refine q_cl hS (wt hS rfl rfl rfl rfl) (vs := [.pointer (some ⟨ip0_1, 0, none⟩), vB 44]) (ws := [.pointer (some ⟨ip0_1, 0, none⟩), vB 44]) rfl rfl rfl rfl rfl 2 rfl (g_classify_match_takes.ok hy8 hp0_6) fun s v S' F' hp9 hF hS => ?_
 obtain ⟨rfl, rfl, rfl⟩ := hp9
 refine q_seg0 tbok hS 1 [] [13] [.bool y8.1] [] (by kernel_rfl) fun s hS => (KW.nil ?_)
 refine bc h6 (fun hc10 h6 => ?_) fun hc10 h6 => ?_
 refine WW.condK hS rfl hc10 (WW.skip ?_)
 refine WW.block (WW.region ?_)
 obtain ⟨y11, hy11, h6⟩ := bind_some h6
 refine q_cR (g_classify_match_name.ok hy11 hp0_6) tbok hS 1 15 2 rfl (by kernel_rfl) fun s hS => (KW.nil ?_)
 obtain rfl := Option.some.inj h6
 exact ⟨_, rfl, (hS.subR rfl)⟩
 refine WW.condF hS rfl hc10 (WW.exit ?_)
 refine thenQ_exit ?_
 obtain rfl := Option.some.inj h6
 exact ⟨_, rfl, rfl, (hS.subR rfl)⟩
 replace hS := hS.kb 10 hc7 rfl
 refine q_seg0 tbok hS 3 [] [13] [.bool false] [] (by kernel_rfl) fun s hS => (KW.nil ?_)
 refine WW.condF hS rfl rfl (WW.exit ?_)
 refine thenQ_exit ?_
 obtain rfl := Option.some.inj h6
 exact ⟨_, rfl, rfl, (hS.subR rfl)⟩
 clear hS
 rintro e s ⟨rfl, hS⟩
 refine blockQ_exit ?_
 cases h
 exact fin0 hS (.inl rfl) rfl ⟨rfl, rfl, rfl⟩
/-! ### (*formulary/classify.match).block (173) -/
noncomputable def g_classify_match_block.f (p0_1 : List UInt8) (p0_2 : List Int) (p0_6 : Int) (p0_12 : Bool) : Option (Int × Bool) :=
  Option.bind (g_classify_match_takes.f p0_1 p0_2 p0_6 p0_12 47) fun y1 => (if y1.1 then Option.bind (g_classify_match_name.f p0_1 p0_2 y1.2 p0_12) fun y4 => Option.bind (g_classify_match_sign.f p0_1 p0_2 y4.1 y4.2 47) fun y6 => some (y6.1, y6.2) else Option.bind (g_classify_match_name.f p0_1 p0_2 y1.2 p0_12) fun y8 => some (y8.1, y8.2))
set_option maxHeartbeats 4000000 in
theorem g_classify_match_block.ok {ip0_1 : Nat} {ap0_4 : Option Addr} {zp0_5 : Nat} {ap0_9 : Option Addr} {zp0_10 : Nat} {Bp0_12 : Seg} {p0_1 : List UInt8} {p0_2 : List Int} {p0_6 : Int} {p0_7 : List Int} {p0_12 : Bool} {F : FZ} {r : Int × Bool} (h : g_classify_match_block.f p0_1 p0_2 p0_6 p0_12 = some r) (hp0_6 : Frz (elI .i64 3) F ap0_4 zp0_5 p0_2) :
    Cl EV 173 [.pointer (some ⟨ip0_1, 0, none⟩)] [[(ip0_1, .row [strV p0_1, .slice ap0_4 p0_2.length zp0_5, .int .i64 p0_6, .slice ap0_9 p0_7.length zp0_10, .bool p0_12] 99 0 true)], Bp0_12] F (fun v S' F' => F = F' ∧ v = .tuple #[] ∧ S' = [[(ip0_1, .row [strV p0_1, .slice ap0_4 p0_2.length zp0_5, .int .i64 r.1, .slice ap0_9 p0_7.length zp0_10, .bool r.2] 99 0 true)], Bp0_12]) := by
 refine Cl.of Tryz.func173 rfl (fun _ _ => rfl) (by kernel_rfl) fun s L nx0 hS => ?_
 unfold g_classify_match_block.f at h
 refine WW.seq (WW.seq ?_)
 refine WW.region ?_
 obtain ⟨y1, hy1, h⟩ := bind_some h
 refine q_cR (g_classify_match_takes.ok hy1 hp0_6) tbok hS 1 3 2 rfl (by kernel_rfl) fun s hS => (KW.nil ?_)
 refine bc h (fun hc3 h => ?_) fun hc3 h => ?_
 refine WW.condK hS rfl hc3 (WW.seq ?_)
 refine WW.region ?_
 obtain ⟨y4, hy4, h⟩ := bind_some h
 refine q_cR (g_classify_match_name.ok hy4 hp0_6) tbok hS 1 5 2 rfl (by kernel_rfl) fun s hS => (KW.nil ?_)
 refine WW.seq (WW.region ?_)
 obtain ⟨y6, hy6, h⟩ := bind_some h
 refine q_cR (g_classify_match_sign.ok hy6 hp0_6) tbok hS 1 7 2 rfl (by kernel_rfl) fun s hS => (KW.nil ?_)
 refine WW.ret ?_
 cases h
 exact fin0 hS (.inr rfl) rfl ⟨rfl, rfl, rfl⟩
 refine WW.condF hS rfl hc3 (WW.skip ?_)
 refine WW.region ?_
 obtain ⟨y8, hy8, h⟩ := bind_some h
 refine q_cR (g_classify_match_name.ok hy8 hp0_6) tbok hS 1 9 2 rfl (by kernel_rfl) fun s hS => (KW.nil ?_)
 cases h
 exact fin0 hS (.inl rfl) rfl ⟨rfl, rfl, rfl⟩
/-! ### (*formulary/classify.match).list (109) -/
noncomputable def g_classify_match_list_7.b0 (p0_1 : List UInt8) (p0_2 : List Int) (x3 : Int × Bool) : Option ((Int × Bool) ⊕ (Int × Bool)) :=
  (if x3.2 then Option.bind (g_classify_match_takes.f p0_1 p0_2 x3.1 x3.2 44) fun y8 => (if y8.1 then Option.bind (g_classify_match_block.f p0_1 p0_2 y8.2 x3.2) fun y11 => some (.inl (y11.1, y11.2)) else some (.inr (y8.2, x3.2))) else some (.inr (x3.1, x3.2)))
noncomputable def g_classify_match_list_7.f (p0_1 : List UInt8) (p0_2 : List Int) (p0_6 : Int) (p0_12 : Bool) : Option (Int × Bool) :=
  Option.bind (g_classify_match_block.f p0_1 p0_2 p0_6 p0_12) fun y1 => Option.bind (iter (g_classify_match_list_7.b0 p0_1 p0_2) (y1.1, y1.2)) fun o4 => some (o4.1, o4.2)
set_option maxHeartbeats 4000000 in
theorem g_classify_match_list_7.ok {ip0_1 : Nat} {ap0_4 : Option Addr} {zp0_5 : Nat} {ap0_9 : Option Addr} {zp0_10 : Nat} {Bp0_12 : Seg} {p0_1 : List UInt8} {p0_2 : List Int} {p0_6 : Int} {p0_7 : List Int} {p0_12 : Bool} {F : FZ} {r : Int × Bool} (h : g_classify_match_list_7.f p0_1 p0_2 p0_6 p0_12 = some r) (hp0_6 : Frz (elI .i64 3) F ap0_4 zp0_5 p0_2) :
    Cl EV 109 [.pointer (some ⟨ip0_1, 0, none⟩), .func (.func 173) #[.pointer (some ⟨ip0_1, 0, none⟩)] #[]] [[(ip0_1, .row [strV p0_1, .slice ap0_4 p0_2.length zp0_5, .int .i64 p0_6, .slice ap0_9 p0_7.length zp0_10, .bool p0_12] 99 0 true)], Bp0_12] F (fun v S' F' => F = F' ∧ v = .tuple #[] ∧ S' = [[(ip0_1, .row [strV p0_1, .slice ap0_4 p0_2.length zp0_5, .int .i64 r.1, .slice ap0_9 p0_7.length zp0_10, .bool r.2] 99 0 true)], Bp0_12]) := by
 refine Cl.of Tryz.func109 rfl (fun _ _ => rfl) (by kernel_rfl) fun s L nx0 hS => ?_
 unfold g_classify_match_list_7.f at h
 refine WW.seq (WW.region ?_)
 obtain ⟨y1, hy1, h⟩ := bind_some h
 refine q_cR (g_classify_match_block.ok hy1 hp0_6) tbok hS 1 5 2 rfl (by kernel_rfl) fun s hS => (KW.nil ?_)
 refine WW.block ?_
 obtain ⟨o4, ho4, h⟩ := bind_some h
 refine WW.loop (LW.iter ho4 (fun (x3 : Int × Bool) s => Stt EV s [(0, .pointer (some ⟨ip0_1, 0, none⟩)), (1, .func (.func 173) #[.pointer (some ⟨ip0_1, 0, none⟩)] #[])] [[(ip0_1, .row [strV p0_1, .slice ap0_4 p0_2.length zp0_5, .int .i64 x3.1, .slice ap0_9 p0_7.length zp0_10, .bool x3.2] 99 0 true)], Bp0_12] F L F nx0) (fun (y5 : Int × Bool) e s => (e = .exit 0 ∧ Stt EV s [(0, .pointer (some ⟨ip0_1, 0, none⟩)), (1, .func (.func 173) #[.pointer (some ⟨ip0_1, 0, none⟩)] #[])] [[(ip0_1, .row [strV p0_1, .slice ap0_4 p0_2.length zp0_5, .int .i64 y5.1, .slice ap0_9 p0_7.length zp0_10, .bool y5.2] 99 0 true)], Bp0_12] F L F nx0)) (hS.subR rfl) ?_ ?_)
 clear hS
 rintro x3 s hS o4' h6
 unfold g_classify_match_list_7.b0 at h6
 refine WW.seq (WW.seq ?_)
 refine WW.region (q_seg0 tbok hS 5 [0] [10] [.bool x3.2] [ip0_1] (by kernel_rfl) fun s hS => ?_)
 refine bc h6 (fun hc7 h6 => ?_) fun hc7 h6 => ?_
 replace hS := hS.kb 10 hc7 rfl
 refine q_seg0 tbok hS 1 [] [11] [.pointer (some ⟨ip0_1, 0, none⟩)] [] (by kernel_rfl) fun s hS => ?_
 obtain ⟨y8, hy8, h6⟩ := bind_some h6
 refine q_cl hS (wt hS rfl rfl rfl rfl) (vs := [.pointer (some ⟨ip0_1, 0, none⟩), vB 44]) (ws := [.pointer (some ⟨ip0_1, 0, none⟩), vB 44]) rfl rfl rfl rfl rfl 2 rfl (g_classify_match_takes.ok hy8 hp0_6) fun s v S' F' hp9 hF hS => ?_
 obtain ⟨rfl, rfl, rfl⟩ := hp9
 refine q_seg0 tbok hS 1 [] [13] [.bool y8.1] [] (by kernel_rfl) fun s hS => (KW.nil ?_)
 refine bc h6 (fun hc10 h6 => ?_) fun hc10 h6 => ?_
 refine WW.condK hS rfl hc10 (WW.skip ?_)
 refine WW.block (WW.region ?_)
 obtain ⟨y11, hy11, h6⟩ := bind_some h6
 refine q_cR (g_classify_match_block.ok hy11 hp0_6) tbok hS 1 15 2 rfl (by kernel_rfl) fun s hS => (KW.nil ?_)
 obtain rfl := Option.some.inj h6
 exact ⟨_, rfl, (hS.subR rfl)⟩
 refine WW.condF hS rfl hc10 (WW.exit ?_)
 refine thenQ_exit ?_
 obtain rfl := Option.some.inj h6
 exact ⟨_, rfl, rfl, (hS.subR rfl)⟩
 replace hS := hS.kb 10 hc7 rfl
 refine q_seg0 tbok hS 3 [] [13] [.bool false] [] (by kernel_rfl) fun s hS => (KW.nil ?_)
 refine WW.condF hS rfl rfl (WW.exit ?_)
 refine thenQ_exit ?_
 obtain rfl := Option.some.inj h6
 exact ⟨_, rfl, rfl, (hS.subR rfl)⟩
 clear hS
 rintro e s ⟨rfl, hS⟩
 refine blockQ_exit ?_
 cases h
 exact fin0 hS (.inl rfl) rfl ⟨rfl, rfl, rfl⟩
/-! ### (*formulary/classify.match).other (152) -/
noncomputable def g_classify_match_other.f (p0_1 : List UInt8) (p0_2 : List Int) (p0_6 : Int) (p0_7 : List Int) (p0_12 : Bool) (p1_0 : Int) : Option (Int × List Int × Bool) :=
  (if (p1_0 == 18) then Option.bind (g_classify_match_isParens.f p0_1 p0_2 p0_6 p0_12) fun y2 => (if y2 then Option.bind (g_classify_match_items.f p0_1 p0_2 p0_6 p0_12) fun y5 => some (y5.1, p0_7, y5.2) else Option.bind (g_classify_match_item.f p0_1 p0_2 p0_6 p0_12) fun y7 => some (y7.1, p0_7, y7.2)) else (if (p1_0 == 19) then Option.bind (g_classify_match_items.f p0_1 p0_2 p0_6 p0_12) fun y10 => some (y10.1, p0_7, y10.2) else (if (p1_0 == 20) then Option.bind (g_classify_match_item.f p0_1 p0_2 p0_6 p0_12) fun y13 => some (y13.1, p0_7, y13.2) else Option.bind ((if (p1_0 == 21) then some true else (if (p1_0 == 22) then some true else (if (p1_0 == 23) then some true else (if (p1_0 == 27) then some true else some (p1_0 == 32)))))) fun z15 => (if z15 then Option.bind (g_classify_match_parens.f p0_1 p0_2 p0_6 p0_12) fun y21 => some (y21.1, p0_7, y21.2) else Option.bind ((if (p1_0 == 24) then some true else (if (p1_0 == 25) then some true else some (p1_0 == 26)))) fun z23 => (if z23 then Option.bind (g_classify_match_expr.f p0_1 p0_2 p0_6 p0_12) fun y27 => some (y27.1, p0_7, y27.2) else (if (p1_0 == 29) then Option.bind (g_classify_match_list_3.f p0_1 p0_2 p0_6 p0_12) fun y30 => some (y30.1, p0_7, y30.2) else (if (p1_0 == 30) then Option.bind (g_classify_match_begins.f p0_1 p0_2 p0_6 p0_12 ([47])) fun y33 => Option.bind (g_classify_match_must.f p0_12 y33) fun y35 => Option.bind (g_classify_match_rest.f p0_1 p0_2 p0_6 y35) fun y37 => some (y37.1, p0_7, y37.2) else (if (p1_0 == 31) then Option.bind (g_classify_match_list_4.f p0_1 p0_2 p0_6 p0_12) fun y40 => some (y40.1, p0_7, y40.2) else (if (p1_0 == 33) then Option.bind (g_classify_match_data.f p0_1 p0_2 p0_6 p0_12) fun y43 => some (y43.1, p0_7, y43.2) else (if (p1_0 == 34) then Option.bind (g_classify_match_hasWord.f p0_1 p0_2 p0_6 p0_12 ([78, 79, 78, 69])) fun y46 => (if y46 then (if ((w64 (p0_6 + 4)) == (p0_1.length : Int)) then Option.bind (g_classify_match_word.f p0_1 p0_2 p0_6 p0_7 p0_12 ([78, 79, 78, 69])) fun y50 => some (y50.1, y50.2.1, y50.2.2) else Option.bind (g_classify_match_list_5.f p0_1 p0_2 p0_6 p0_7 p0_12) fun y56 => some (y56.1, y56.2.1, y56.2.2)) else Option.bind (g_classify_match_list_5.f p0_1 p0_2 p0_6 p0_7 p0_12) fun y64 => some (y64.1, y64.2.1, y64.2.2)) else Option.bind ((if (p1_0 == 35) then some true else some (p1_0 == 36))) fun z72 => (if z72 then Option.bind (g_classify_match_list_6.f p0_1 p0_2 p0_6 p0_12) fun y75 => some (y75.1, p0_7, y75.2) else (if (p1_0 == 37) then Option.bind (g_classify_match_isMore.f p0_1 p0_6 p0_12) fun y78 => (if y78 then Option.bind (g_classify_match_list_7.f p0_1 p0_2 p0_6 p0_12) fun y81 => some (y81.1, p0_7, y81.2) else some (p0_6, p0_7, p0_12)) else (if (p1_0 == 38) then Option.bind (g_classify_match_name.f p0_1 p0_2 p0_6 p0_12) fun y84 => some (y84.1, p0_7, y84.2) else (if (p1_0 == 42) then Option.bind (g_classify_match_isMore.f p0_1 p0_6 p0_12) fun y87 => (if y87 then Option.bind (g_classify_match_name.f p0_1 p0_2 p0_6 p0_12) fun y90 => some (y90.1, p0_7, y90.2) else some (p0_6, p0_7, p0_12)) else some (p0_6, p0_7, p0_12)))))))))))))))
set_option maxHeartbeats 4000000 in
theorem g_classify_match_other.ok {ip0_1 : Nat} {ap0_4 : Option Addr} {zp0_5 : Nat} {ap0_9 : Option Addr} {zp0_10 : Nat} {Bp0_12 : Seg} {p0_1 : List UInt8} {p0_2 : List Int} {p0_6 : Int} {p0_7 : List Int} {p0_12 : Bool} {p1_0 : Int} {F : FZ} {r : Int × List Int × Bool} (h : g_classify_match_other.f p0_1 p0_2 p0_6 p0_7 p0_12 p1_0 = some r) (hp0_6 : Frz (elI .i64 3) F ap0_4 zp0_5 p0_2) (hp0_11 : Own (elI .i64 3) F ap0_9 zp0_10 p0_7 Bp0_12) :
    Cl EV 152 [.pointer (some ⟨ip0_1, 0, none⟩), .int .i64 p1_0] [[(ip0_1, .row [strV p0_1, .slice ap0_4 p0_2.length zp0_5, .int .i64 p0_6, .slice ap0_9 p0_7.length zp0_10, .bool p0_12] 99 0 true)], Bp0_12] F (fun v S' F' => ∃ (ra1 : Option Addr) (rz2 : Nat) (rB4 : Seg), FLe F F' ∧ v = .tuple #[] ∧ S' = [[(ip0_1, .row [strV p0_1, .slice ap0_4 p0_2.length zp0_5, .int .i64 r.1, .slice ra1 r.2.1.length rz2, .bool r.2.2] 99 0 true)], rB4] ∧ Own (elI .i64 3) F' ra1 rz2 r.2.1 rB4) := by
 refine Cl.of Tryz.func152 rfl (fun _ _ => rfl) (by kernel_rfl) fun s L nx0 hS => ?_
 unfold g_classify_match_other.f at h
 refine WW.seq (WW.region ?_)
 refine q_seg0 tbok hS 1 [] [4] [.int .i64 p1_0] [] (by kernel_rfl) fun s hS => (KW.nil ?_)
 refine WW.block (WW.seq ?_)
 refine WW.region (q_seg0 tbok hS 2 [] [5] [.bool (p1_0 == 18)] [] (by kernel_rfl) fun s hS => ?_)
 refine KW.nil (bc h (fun hc1 h => ?_) fun hc1 h => ?_)
 refine WW.condK hS rfl hc1 (WW.seq ?_)
 refine WW.region ?_
 obtain ⟨y2, hy2, h⟩ := bind_some h
 refine q_cR (g_classify_match_isParens.ok hy2 hp0_6) tbok hS 1 8 2 rfl (by kernel_rfl) fun s hS => (KW.nil ?_)
 refine bc h (fun hc4 h => ?_) fun hc4 h => ?_
 refine WW.condK hS rfl hc4 (WW.region ?_)
 obtain ⟨y5, hy5, h⟩ := bind_some h
 refine q_cR (g_classify_match_items.ok hy5 hp0_6) tbok hS 1 10 2 rfl (by kernel_rfl) fun s hS => (KW.nil ?_)
 cases h
 exact fin0 hS (.inl rfl) rfl ⟨_, _, _, (FLe.refl _), rfl, rfl, hp0_11⟩
 refine WW.condF hS rfl hc4 (WW.region ?_)
 obtain ⟨y7, hy7, h⟩ := bind_some h
 refine q_cR (g_classify_match_item.ok hy7 hp0_6) tbok hS 1 12 2 rfl (by kernel_rfl) fun s hS => (KW.nil ?_)
 cases h
 exact fin0 hS (.inl rfl) rfl ⟨_, _, _, (FLe.refl _), rfl, rfl, hp0_11⟩
 refine WW.condF hS rfl hc1 (WW.seq ?_)
 refine WW.region (q_seg0 tbok hS 2 [] [13] [.bool (p1_0 == 19)] [] (by kernel_rfl) fun s hS => ?_)
 refine KW.nil (bc h (fun hc9 h => ?_) fun hc9 h => ?_)
 refine WW.condK hS rfl hc9 (WW.region ?_)
 obtain ⟨y10, hy10, h⟩ := bind_some h
 refine q_cR (g_classify_match_items.ok hy10 hp0_6) tbok hS 1 16 2 rfl (by kernel_rfl) fun s hS => (KW.nil ?_)
 cases h
 exact fin0 hS (.inl rfl) rfl ⟨_, _, _, (FLe.refl _), rfl, rfl, hp0_11⟩
 refine WW.condF hS rfl hc9 (WW.seq ?_)
 refine WW.region (q_seg0 tbok hS 2 [] [17] [.bool (p1_0 == 20)] [] (by kernel_rfl) fun s hS => ?_)
 refine KW.nil (bc h (fun hc12 h => ?_) fun hc12 h => ?_)
 refine WW.condK hS rfl hc12 (WW.region ?_)
 obtain ⟨y13, hy13, h⟩ := bind_some h
 refine q_cR (g_classify_match_item.ok hy13 hp0_6) tbok hS 1 20 2 rfl (by kernel_rfl) fun s hS => (KW.nil ?_)
 cases h
 exact fin0 hS (.inl rfl) rfl ⟨_, _, _, (FLe.refl _), rfl, rfl, hp0_11⟩
 refine WW.condF hS rfl hc12 ?_
 obtain ⟨z15, hz15, h⟩ := bind_some h
 refine WW.seqJ (fun s => Stt EV s [(0, .pointer (some ⟨ip0_1, 0, none⟩)), (4, .int .i64 p1_0), (21, .bool z15)] [[(ip0_1, .row [strV p0_1, .slice ap0_4 p0_2.length zp0_5, .int .i64 p0_6, .slice ap0_9 p0_7.length zp0_10, .bool p0_12] 99 0 true)], Bp0_12] F L F nx0) ?_ ?_
 refine WW.seq (WW.region ?_)
 refine q_seg0 tbok hS 2 [] [21] [.bool (p1_0 == 21)] [] (by kernel_rfl) fun s hS => (KW.nil ?_)
 refine bc hz15 (fun hc16 hz15 => ?_) fun hc16 hz15 => ?_
 replace hS := hS.kb 21 hc16 rfl
 refine WW.condK hS rfl rfl (WW.skip ?_)
 obtain rfl := Option.some.inj hz15
 exact (hS.subR rfl)
 replace hS := hS.kb 21 hc16 rfl
 refine WW.condF hS rfl rfl (WW.seq ?_)
 refine WW.region (q_seg0 tbok hS 2 [] [21] [.bool (p1_0 == 22)] [] (by kernel_rfl) fun s hS => ?_)
 refine KW.nil (bc hz15 (fun hc17 hz15 => ?_) fun hc17 hz15 => ?_)
 replace hS := hS.kb 21 hc17 rfl
 refine WW.condK hS rfl rfl (WW.skip ?_)
 obtain rfl := Option.some.inj hz15
 exact (hS.subR rfl)
 replace hS := hS.kb 21 hc17 rfl
 refine WW.condF hS rfl rfl (WW.seq ?_)
 refine WW.region (q_seg0 tbok hS 2 [] [21] [.bool (p1_0 == 23)] [] (by kernel_rfl) fun s hS => ?_)
 refine KW.nil (bc hz15 (fun hc18 hz15 => ?_) fun hc18 hz15 => ?_)
 replace hS := hS.kb 21 hc18 rfl
 refine WW.condK hS rfl rfl (WW.skip ?_)
 obtain rfl := Option.some.inj hz15
 exact (hS.subR rfl)
 replace hS := hS.kb 21 hc18 rfl
 refine WW.condF hS rfl rfl (WW.seq ?_)
 refine WW.region (q_seg0 tbok hS 2 [] [21] [.bool (p1_0 == 27)] [] (by kernel_rfl) fun s hS => ?_)
 refine KW.nil (bc hz15 (fun hc19 hz15 => ?_) fun hc19 hz15 => ?_)
 replace hS := hS.kb 21 hc19 rfl
 refine WW.condK hS rfl rfl (WW.skip ?_)
 obtain rfl := Option.some.inj hz15
 exact (hS.subR rfl)
 replace hS := hS.kb 21 hc19 rfl
 refine WW.condF hS rfl rfl (WW.region ?_)
 refine q_seg0 tbok hS 2 [] [21] [.bool (p1_0 == 32)] [] (by kernel_rfl) fun s hS => (KW.nil ?_)
 obtain rfl := Option.some.inj hz15
 exact (hS.subR rfl)
 rintro s hS
 refine bc h (fun hc20 h => ?_) fun hc20 h => ?_
 refine WW.condK hS rfl hc20 (WW.region ?_)
 obtain ⟨y21, hy21, h⟩ := bind_some h
 refine q_cR (g_classify_match_parens.ok hy21 hp0_6) tbok hS 1 28 2 rfl (by kernel_rfl) fun s hS => (KW.nil ?_)
 cases h
 exact fin0 hS (.inl rfl) rfl ⟨_, _, _, (FLe.refl _), rfl, rfl, hp0_11⟩
 refine WW.condF hS rfl hc20 ?_
 obtain ⟨z23, hz23, h⟩ := bind_some h
 refine WW.seqJ (fun s => Stt EV s [(0, .pointer (some ⟨ip0_1, 0, none⟩)), (4, .int .i64 p1_0), (29, .bool z23)] [[(ip0_1, .row [strV p0_1, .slice ap0_4 p0_2.length zp0_5, .int .i64 p0_6, .slice ap0_9 p0_7.length zp0_10, .bool p0_12] 99 0 true)], Bp0_12] F L F nx0) ?_ ?_
 refine WW.seq (WW.region ?_)
 refine q_seg0 tbok hS 2 [] [29] [.bool (p1_0 == 24)] [] (by kernel_rfl) fun s hS => (KW.nil ?_)
 refine bc hz23 (fun hc24 hz23 => ?_) fun hc24 hz23 => ?_
 replace hS := hS.kb 29 hc24 rfl
 refine WW.condK hS rfl rfl (WW.skip ?_)
 obtain rfl := Option.some.inj hz23
 exact (hS.subR rfl)
 replace hS := hS.kb 29 hc24 rfl
 refine WW.condF hS rfl rfl (WW.seq ?_)
 refine WW.region (q_seg0 tbok hS 2 [] [29] [.bool (p1_0 == 25)] [] (by kernel_rfl) fun s hS => ?_)
 refine KW.nil (bc hz23 (fun hc25 hz23 => ?_) fun hc25 hz23 => ?_)
 replace hS := hS.kb 29 hc25 rfl
 refine WW.condK hS rfl rfl (WW.skip ?_)
 obtain rfl := Option.some.inj hz23
 exact (hS.subR rfl)
 replace hS := hS.kb 29 hc25 rfl
 refine WW.condF hS rfl rfl (WW.region ?_)
 refine q_seg0 tbok hS 2 [] [29] [.bool (p1_0 == 26)] [] (by kernel_rfl) fun s hS => (KW.nil ?_)
 obtain rfl := Option.some.inj hz23
 exact (hS.subR rfl)
 rintro s hS
 refine bc h (fun hc26 h => ?_) fun hc26 h => ?_
 refine WW.condK hS rfl hc26 (WW.region ?_)
 obtain ⟨y27, hy27, h⟩ := bind_some h
 refine q_cR (g_classify_match_expr.ok hy27 hp0_6) tbok hS 1 34 2 rfl (by kernel_rfl) fun s hS => (KW.nil ?_)
 cases h
 exact fin0 hS (.inl rfl) rfl ⟨_, _, _, (FLe.refl _), rfl, rfl, hp0_11⟩
 refine WW.condF hS rfl hc26 (WW.seq ?_)
 refine WW.region (q_seg0 tbok hS 2 [] [35] [.bool (p1_0 == 29)] [] (by kernel_rfl) fun s hS => ?_)
 refine KW.nil (bc h (fun hc29 h => ?_) fun hc29 h => ?_)
 refine WW.condK hS rfl hc29 (WW.region ?_)
 refine q_seg0 tbok hS 2 [] [37, 38] [.pointer (some ⟨ip0_1, 0, none⟩), .pointer (some ⟨ip0_1, 0, none⟩)] [] (by kernel_rfl) fun s hS => (q_pu hS (wn rfl) rfl rfl rfl (v := .func (.func 168) #[.pointer (some ⟨ip0_1, 0, none⟩)] #[]) (aop_mf (map_lk hS (vs := [.pointer (some ⟨ip0_1, 0, none⟩)]) rfl) (map_lk hS (vs := []) rfl)) fun s hS => ?_)
 obtain ⟨y30, hy30, h⟩ := bind_some h
 refine q_cR (g_classify_match_list_3.ok hy30 hp0_6) tbok hS 0 40 2 rfl (by kernel_rfl) fun s hS => (KW.nil ?_)
 cases h
 exact fin0 hS (.inl rfl) rfl ⟨_, _, _, (FLe.refl _), rfl, rfl, hp0_11⟩
 refine WW.condF hS rfl hc29 (WW.seq ?_)
 refine WW.region (q_seg0 tbok hS 2 [] [41] [.bool (p1_0 == 30)] [] (by kernel_rfl) fun s hS => ?_)
 refine KW.nil (bc h (fun hc32 h => ?_) fun hc32 h => ?_)
 refine WW.condK hS rfl hc32 (WW.seq ?_)
 refine WW.region (q_seg0 tbok hS 2 [] [43, 44] [.pointer (some ⟨ip0_1, 0, none⟩), .pointer (some ⟨ip0_1, 0, none⟩)] [] (by kernel_rfl) fun s hS => ?_)
 obtain ⟨y33, hy33, h⟩ := bind_some h
 refine q_cl hS (wn rfl) (vs := [.pointer (some ⟨ip0_1, 0, none⟩), strV ([47])]) (ws := [.pointer (some ⟨ip0_1, 0, none⟩), strV ([47])]) rfl rfl rfl rfl rfl 2 rfl (g_classify_match_begins.ok hy33 hp0_6) fun s v S' F' hp34 hF hS => ?_
 obtain ⟨rfl, rfl, rfl⟩ := hp34
 obtain ⟨y35, hy35, h⟩ := bind_some h
 refine q_cR (g_classify_match_must.ok hy35) tbok hS 0 46 2 rfl (by kernel_rfl) fun s hS => (KW.nil ?_)
 refine WW.region ?_
 obtain ⟨y37, hy37, h⟩ := bind_some h
 refine q_cR (g_classify_match_rest.ok hy37 hp0_6) tbok hS 1 48 2 rfl (by kernel_rfl) fun s hS => (KW.nil ?_)
 cases h
 exact fin0 hS (.inl rfl) rfl ⟨_, _, _, (FLe.refl _), rfl, rfl, hp0_11⟩
 refine WW.condF hS rfl hc32 (WW.seq ?_)
 refine WW.region (q_seg0 tbok hS 2 [] [49] [.bool (p1_0 == 31)] [] (by kernel_rfl) fun s hS => ?_)
 refine KW.nil (bc h (fun hc39 h => ?_) fun hc39 h => ?_)
 refine WW.condK hS rfl hc39 (WW.region ?_)
 refine q_seg0 tbok hS 2 [] [51, 52] [.pointer (some ⟨ip0_1, 0, none⟩), .pointer (some ⟨ip0_1, 0, none⟩)] [] (by kernel_rfl) fun s hS => (q_pu hS (wn rfl) rfl rfl rfl (v := .func (.func 92) #[.pointer (some ⟨ip0_1, 0, none⟩)] #[]) (aop_mf (map_lk hS (vs := [.pointer (some ⟨ip0_1, 0, none⟩)]) rfl) (map_lk hS (vs := []) rfl)) fun s hS => ?_)
 obtain ⟨y40, hy40, h⟩ := bind_some h
 refine q_cR (g_classify_match_list_4.ok hy40 hp0_6) tbok hS 0 54 2 rfl (by kernel_rfl) fun s hS => (KW.nil ?_)
 cases h
 exact fin0 hS (.inl rfl) rfl ⟨_, _, _, (FLe.refl _), rfl, rfl, hp0_11⟩
 refine WW.condF hS rfl hc39 (WW.seq ?_)
 refine WW.region (q_seg0 tbok hS 2 [] [55] [.bool (p1_0 == 33)] [] (by kernel_rfl) fun s hS => ?_)
 refine KW.nil (bc h (fun hc42 h => ?_) fun hc42 h => ?_)
 refine WW.condK hS rfl hc42 (WW.region ?_)
 obtain ⟨y43, hy43, h⟩ := bind_some h
 refine q_cR (g_classify_match_data.ok hy43 hp0_6) tbok hS 1 58 2 rfl (by kernel_rfl) fun s hS => (KW.nil ?_)
 cases h
 exact fin0 hS (.inl rfl) rfl ⟨_, _, _, (FLe.refl _), rfl, rfl, hp0_11⟩
 refine WW.condF hS rfl hc42 (WW.seq ?_)
 refine WW.region (q_seg0 tbok hS 2 [] [59] [.bool (p1_0 == 34)] [] (by kernel_rfl) fun s hS => ?_)
 refine KW.nil (bc h (fun hc45 h => ?_) fun hc45 h => ?_)
 refine WW.condK hS rfl hc45 (WW.seq ?_)
 refine WW.seq (WW.regionD (i := [[], [], [], [], [], [], [], [], [7, 6, 5, 4, 3], [7, 6, 5, 4, 3], [7, 6, 5, 4, 3], [7, 6, 5, 4, 3], [7, 6, 5, 4, 3], [], []]) (by kernel_rfl) ?_)
 have hq := RS.start [ip0_1]
 refine K.seg tbok hS hq 1 [61] [.pointer (some ⟨ip0_1, 0, none⟩)] (by kernel_rfl) fun s rs hS hq => ?_
 obtain ⟨y46, hy46, h⟩ := bind_some h
 refine K.cl hS hq rfl (wn rfl) (vs := [.pointer (some ⟨ip0_1, 0, none⟩), strV ([78, 79, 78, 69])]) (ws := [.pointer (some ⟨ip0_1, 0, none⟩), strV ([78, 79, 78, 69])]) rfl rfl rfl rfl rfl 2 rfl (g_classify_match_hasWord.ok hy46 hp0_6)  [] rfl rfl aw_n fun s rs v S' F' hp47 hF hS hq => ?_
 obtain ⟨rfl, rfl, rfl⟩ := hp47
 refine K.seg tbok hS hq 1 [63] [.bool y46] (by kernel_rfl) fun s rs hS hq => (bc h (fun hc48 h => ?_) fun hc48 h => ?_)
 replace hS := hS.kb 62 hc48 rfl
 replace hS := hS.kb 63 hc48 rfl
 refine K.seg tbok hS hq 3 [66] [.pointer (some ⟨ip0_1, 2, none⟩)] (by kernel_rfl) fun s rs hS hq => (K.ld hS hq rfl (wt hS rfl rfl rfl rfl) rfl rfl rfl (hS.at (k := 0) rfl) tg3 (v := .int .i64 p0_6) rfl 0 rfl rfl fun s rs hS hq => ?_)
 refine K.seg tbok hS hq 4 [68, 71] [.int .i64 (w64 (p0_6 + 4)), .pointer (some ⟨ip0_1, 0, none⟩)] (by kernel_rfl) fun s rs hS hq => (K.ld hS hq rfl (wt hS rfl rfl rfl rfl) rfl rfl rfl (hS.at (k := 0) rfl) tg9 (v := strV p0_1) rfl 0 rfl rfl fun s rs hS hq => ?_)
 refine K.seg tbok hS hq 3 [75] [.bool ((w64 (p0_6 + 4)) == (p0_1.length : Int))] (by kernel_rfl) fun s rs hS hq => (KW.nil ?_)
 refine bc h (fun hc49 h => ?_) fun hc49 h => ?_
 refine WW.condK hS rfl hc49 (WW.seq ?_)
 refine WW.region ?_
 obtain ⟨y50, hy50, h⟩ := bind_some h
 refine q_cK (g_classify_match_word.ok hy50 hp0_6 hp0_11) tbok hS 1 77 2 rfl (by kernel_rfl) fun s v S' F' hp51 hF hS => ?_
 obtain ⟨a52, z53, B55, rfl, rfl, rfl, h54⟩ := hp51
 refine KW.nil (WW.ret ?_)
 cases h
 exact fin0 hS (.inr rfl) rfl ⟨_, _, _, (FLe.refl _), rfl, rfl, h54⟩
 refine WW.condF hS rfl hc49 (WW.skip ?_)
 refine WW.region (q_seg0 tbok hS 2 [] [78, 79] [.pointer (some ⟨ip0_1, 0, none⟩), .pointer (some ⟨ip0_1, 0, none⟩)] [] (by kernel_rfl) fun s hS => ?_)
 refine q_pu hS (wn rfl) rfl rfl rfl (v := .func (.func 172) #[.pointer (some ⟨ip0_1, 0, none⟩)] #[]) (aop_mf (map_lk hS (vs := [.pointer (some ⟨ip0_1, 0, none⟩)]) rfl) (map_lk hS (vs := []) rfl)) fun s hS => ?_
 obtain ⟨y56, hy56, h⟩ := bind_some h
 refine q_cK (g_classify_match_list_5.ok hy56 hp0_6 hp0_11) tbok hS 0 81 2 rfl (by kernel_rfl) fun s v S' F58 hp57 hF hS => ?_
 obtain ⟨a59, z60, B62, hF63, rfl, rfl, h61⟩ := hp57
 refine KW.nil ?_
 cases h
 exact fin0 hS (.inl rfl) rfl ⟨_, _, _, (hF63), rfl, rfl, h61⟩
 replace hS := hS.kb 62 hc48 rfl
 replace hS := hS.kb 63 hc48 rfl
 refine K.seg tbok hS hq 12 [75] [.bool false] (by kernel_rfl) fun s rs hS hq => (KW.nil ?_)
 refine WW.condF hS rfl rfl (WW.skip ?_)
 refine WW.region (q_seg0 tbok hS 2 [] [78, 79] [.pointer (some ⟨ip0_1, 0, none⟩), .pointer (some ⟨ip0_1, 0, none⟩)] [] (by kernel_rfl) fun s hS => ?_)
 refine q_pu hS (wn rfl) rfl rfl rfl (v := .func (.func 172) #[.pointer (some ⟨ip0_1, 0, none⟩)] #[]) (aop_mf (map_lk hS (vs := [.pointer (some ⟨ip0_1, 0, none⟩)]) rfl) (map_lk hS (vs := []) rfl)) fun s hS => ?_
 obtain ⟨y64, hy64, h⟩ := bind_some h
 refine q_cK (g_classify_match_list_5.ok hy64 hp0_6 hp0_11) tbok hS 0 81 2 rfl (by kernel_rfl) fun s v S' F66 hp65 hF hS => ?_
 obtain ⟨a67, z68, B70, hF71, rfl, rfl, h69⟩ := hp65
 refine KW.nil ?_
 cases h
 exact fin0 hS (.inl rfl) rfl ⟨_, _, _, (hF71), rfl, rfl, h69⟩
 refine WW.condF hS rfl hc45 ?_
 obtain ⟨z72, hz72, h⟩ := bind_some h
 refine WW.seqJ (fun s => Stt EV s [(0, .pointer (some ⟨ip0_1, 0, none⟩)), (4, .int .i64 p1_0), (82, .bool z72)] [[(ip0_1, .row [strV p0_1, .slice ap0_4 p0_2.length zp0_5, .int .i64 p0_6, .slice ap0_9 p0_7.length zp0_10, .bool p0_12] 99 0 true)], Bp0_12] F L F nx0) ?_ ?_
 refine WW.seq (WW.region ?_)
 refine q_seg0 tbok hS 2 [] [82] [.bool (p1_0 == 35)] [] (by kernel_rfl) fun s hS => (KW.nil ?_)
 refine bc hz72 (fun hc73 hz72 => ?_) fun hc73 hz72 => ?_
 replace hS := hS.kb 82 hc73 rfl
 refine WW.condK hS rfl rfl (WW.skip ?_)
 obtain rfl := Option.some.inj hz72
 exact (hS.subR rfl)
 replace hS := hS.kb 82 hc73 rfl
 refine WW.condF hS rfl rfl (WW.region ?_)
 refine q_seg0 tbok hS 2 [] [82] [.bool (p1_0 == 36)] [] (by kernel_rfl) fun s hS => (KW.nil ?_)
 obtain rfl := Option.some.inj hz72
 exact (hS.subR rfl)
 rintro s hS
 refine bc h (fun hc74 h => ?_) fun hc74 h => ?_
 refine WW.condK hS rfl hc74 (WW.region ?_)
 refine q_seg0 tbok hS 2 [] [85, 86] [.pointer (some ⟨ip0_1, 0, none⟩), .pointer (some ⟨ip0_1, 0, none⟩)] [] (by kernel_rfl) fun s hS => (q_pu hS (wn rfl) rfl rfl rfl (v := .func (.func 104) #[.pointer (some ⟨ip0_1, 0, none⟩)] #[]) (aop_mf (map_lk hS (vs := [.pointer (some ⟨ip0_1, 0, none⟩)]) rfl) (map_lk hS (vs := []) rfl)) fun s hS => ?_)
 obtain ⟨y75, hy75, h⟩ := bind_some h
 refine q_cR (g_classify_match_list_6.ok hy75 hp0_6) tbok hS 0 88 2 rfl (by kernel_rfl) fun s hS => (KW.nil ?_)
 cases h
 exact fin0 hS (.inl rfl) rfl ⟨_, _, _, (FLe.refl _), rfl, rfl, hp0_11⟩
 refine WW.condF hS rfl hc74 (WW.seq ?_)
 refine WW.region (q_seg0 tbok hS 2 [] [89] [.bool (p1_0 == 37)] [] (by kernel_rfl) fun s hS => ?_)
 refine KW.nil (bc h (fun hc77 h => ?_) fun hc77 h => ?_)
 refine WW.condK hS rfl hc77 (WW.seq ?_)
 refine WW.region ?_
 obtain ⟨y78, hy78, h⟩ := bind_some h
 refine q_cR (g_classify_match_isMore.ok hy78) tbok hS 1 92 2 rfl (by kernel_rfl) fun s hS => (KW.nil ?_)
 refine bc h (fun hc80 h => ?_) fun hc80 h => ?_
 refine WW.condK hS rfl hc80 (WW.region ?_)
 refine q_seg0 tbok hS 2 [] [93, 94] [.pointer (some ⟨ip0_1, 0, none⟩), .pointer (some ⟨ip0_1, 0, none⟩)] [] (by kernel_rfl) fun s hS => (q_pu hS (wn rfl) rfl rfl rfl (v := .func (.func 173) #[.pointer (some ⟨ip0_1, 0, none⟩)] #[]) (aop_mf (map_lk hS (vs := [.pointer (some ⟨ip0_1, 0, none⟩)]) rfl) (map_lk hS (vs := []) rfl)) fun s hS => ?_)
 obtain ⟨y81, hy81, h⟩ := bind_some h
 refine q_cR (g_classify_match_list_7.ok hy81 hp0_6) tbok hS 0 96 2 rfl (by kernel_rfl) fun s hS => (KW.nil ?_)
 cases h
 exact fin0 hS (.inl rfl) rfl ⟨_, _, _, (FLe.refl _), rfl, rfl, hp0_11⟩
 refine WW.condF hS rfl hc80 (WW.skip ?_)
 cases h
 exact fin0 hS (.inl rfl) rfl ⟨_, _, _, (FLe.refl _), rfl, rfl, hp0_11⟩
 refine WW.condF hS rfl hc77 (WW.seq ?_)
 refine WW.region (q_seg0 tbok hS 2 [] [97] [.bool (p1_0 == 38)] [] (by kernel_rfl) fun s hS => ?_)
 refine KW.nil (bc h (fun hc83 h => ?_) fun hc83 h => ?_)
 refine WW.condK hS rfl hc83 (WW.region ?_)
 obtain ⟨y84, hy84, h⟩ := bind_some h
 refine q_cR (g_classify_match_name.ok hy84 hp0_6) tbok hS 1 100 2 rfl (by kernel_rfl) fun s hS => (KW.nil ?_)
 cases h
 exact fin0 hS (.inl rfl) rfl ⟨_, _, _, (FLe.refl _), rfl, rfl, hp0_11⟩
 refine WW.condF hS rfl hc83 (WW.seq ?_)
 refine WW.region (q_seg0 tbok hS 2 [] [101] [.bool (p1_0 == 42)] [] (by kernel_rfl) fun s hS => ?_)
 refine KW.nil (bc h (fun hc86 h => ?_) fun hc86 h => ?_)
 refine WW.condK hS rfl hc86 (WW.seq ?_)
 refine WW.region ?_
 obtain ⟨y87, hy87, h⟩ := bind_some h
 refine q_cR (g_classify_match_isMore.ok hy87) tbok hS 1 104 2 rfl (by kernel_rfl) fun s hS => (KW.nil ?_)
 refine bc h (fun hc89 h => ?_) fun hc89 h => ?_
 refine WW.condK hS rfl hc89 (WW.region ?_)
 obtain ⟨y90, hy90, h⟩ := bind_some h
 refine q_cR (g_classify_match_name.ok hy90 hp0_6) tbok hS 1 106 2 rfl (by kernel_rfl) fun s hS => (KW.nil ?_)
 cases h
 exact fin0 hS (.inl rfl) rfl ⟨_, _, _, (FLe.refl _), rfl, rfl, hp0_11⟩
 refine WW.condF hS rfl hc89 (WW.skip ?_)
 cases h
 exact fin0 hS (.inl rfl) rfl ⟨_, _, _, (FLe.refl _), rfl, rfl, hp0_11⟩
 refine WW.condF hS rfl hc86 (WW.skip ?_)
 cases h
 exact fin0 hS (.inl rfl) rfl ⟨_, _, _, (FLe.refl _), rfl, rfl, hp0_11⟩
/-! ### (*formulary/classify.match).behind (111) -/
noncomputable def g_classify_match_behind.b0 (p0_1 : List UInt8) (p0_2 : List Int) (x43 : Int × Int × Bool) : Option ((Int × Int × Bool) ⊕ (Int × Int × Bool)) :=
  (if (decide (x43.1 < 3)) then (if (decide (x43.1 > 0)) then Option.bind (g_classify_match_sign.f p0_1 p0_2 x43.2.1 x43.2.2 44) fun y49 => Option.bind (g_classify_match_label.f p0_1 p0_2 y49.1 y49.2) fun y51 => some (.inl ((w64 (x43.1 + 1)), y51.1, y51.2)) else Option.bind (g_classify_match_label.f p0_1 p0_2 x43.2.1 x43.2.2) fun y53 => some (.inl ((w64 (x43.1 + 1)), y53.1, y53.2))) else some (.inr (x43.1, x43.2.1, x43.2.2)))
noncomputable def g_classify_match_behind.f (p0_1 : List UInt8) (p0_2 : List Int) (p0_6 : Int) (p0_7 : List Int) (p0_12 : Bool) (p1_0 : Int) : Option (Int × List Int × Bool) :=
  (if (p1_0 == 1) then Option.bind (g_classify_match_label.f p0_1 p0_2 p0_6 p0_12) fun y2 => Option.bind (g_classify_match_cut.f p0_1 y2.1 p0_7 y2.2) fun y4 => Option.bind (g_classify_match_word.f p0_1 p0_2 y2.1 y4 y2.2 ([84, 79])) fun y10 => Option.bind (g_classify_match_name.f p0_1 p0_2 y10.1 y10.2.2) fun y16 => some (y16.1, y10.2.1, y16.2) else (if (p1_0 == 2) then Option.bind (g_classify_match_label.f p0_1 p0_2 p0_6 p0_12) fun y19 => some (y19.1, p0_7, y19.2) else (if (p1_0 == 3) then Option.bind (g_classify_match_labels.f p0_1 p0_2 p0_6 p0_12) fun y22 => Option.bind (g_classify_match_takes.f p0_1 p0_2 y22.1 y22.2 44) fun y26 => Option.bind (g_classify_match_expr.f p0_1 p0_2 y26.2 y22.2) fun y28 => some (y28.1, p0_7, y28.2) else (if (p1_0 == 4) then Option.bind (g_classify_match_name.f p0_1 p0_2 p0_6 p0_12) fun y31 => Option.bind (g_classify_match_takes.f p0_1 p0_2 y31.1 y31.2 44) fun y33 => (if y33.1 then Option.bind (g_classify_match_labels.f p0_1 p0_2 y33.2 y31.2) fun y36 => some (y36.1, p0_7, y36.2) else some (y33.2, p0_7, y31.2)) else (if (p1_0 == 5) then Option.bind (g_classify_match_parens.f p0_1 p0_2 p0_6 p0_12) fun y41 => Option.bind (iter (g_classify_match_behind.b0 p0_1 p0_2) (0, y41.1, y41.2)) fun o44 => some (o44.2.1, p0_7, o44.2.2) else Option.bind ((if (p1_0 == 7) then some true else some (p1_0 == 8))) fun z55 => (if z55 then Option.bind (g_classify_match_parens.f p0_1 p0_2 p0_6 p0_12) fun y58 => Option.bind (g_classify_match_word.f p0_1 p0_2 y58.1 p0_7 y58.2 ([84, 72, 69, 78])) fun y60 => some (y60.1, y60.2.1, y60.2.2) else (if (p1_0 == 11) then Option.bind (g_classify_match_do.f p0_1 p0_2 p0_6 p0_7 p0_12) fun y67 => some (y67.1, y67.2.1, y67.2.2) else Option.bind ((if (p1_0 == 14) then some true else (if (p1_0 == 39) then some true else some (p1_0 == 41)))) fun z73 => (if z73 then Option.bind (g_classify_match_name.f p0_1 p0_2 p0_6 p0_12) fun y77 => Option.bind (g_classify_match_maybeParens.f p0_1 p0_2 y77.1 y77.2) fun y79 => some (y79.1, p0_7, y79.2) else (if (p1_0 == 15) then Option.bind (g_classify_match_isMore.f p0_1 p0_6 p0_12) fun y82 => (if y82 then Option.bind (g_classify_match_expr.f p0_1 p0_2 p0_6 p0_12) fun y85 => some (y85.1, p0_7, y85.2) else some (p0_6, p0_7, p0_12)) else Option.bind ((if (p1_0 == 16) then some true else some (p1_0 == 17))) fun z87 => (if z87 then Option.bind (g_classify_match_stop.f p0_1 p0_2 p0_6 p0_12) fun y90 => some (y90.1, p0_7, y90.2) else Option.bind (g_classify_match_other.f p0_1 p0_2 p0_6 p0_7 p0_12 p1_0) fun y94 => some (y94.1, y94.2.1, y94.2.2)))))))))))
set_option maxHeartbeats 4000000 in
theorem g_classify_match_behind.ok {ip0_1 : Nat} {ap0_4 : Option Addr} {zp0_5 : Nat} {ap0_9 : Option Addr} {zp0_10 : Nat} {Bp0_12 : Seg} {p0_1 : List UInt8} {p0_2 : List Int} {p0_6 : Int} {p0_7 : List Int} {p0_12 : Bool} {p1_0 : Int} {F : FZ} {r : Int × List Int × Bool} (h : g_classify_match_behind.f p0_1 p0_2 p0_6 p0_7 p0_12 p1_0 = some r) (hp0_6 : Frz (elI .i64 3) F ap0_4 zp0_5 p0_2) (hp0_11 : Own (elI .i64 3) F ap0_9 zp0_10 p0_7 Bp0_12) (hG : Gl F) :
    Cl EV 111 [.pointer (some ⟨ip0_1, 0, none⟩), .int .i64 p1_0] [[(ip0_1, .row [strV p0_1, .slice ap0_4 p0_2.length zp0_5, .int .i64 p0_6, .slice ap0_9 p0_7.length zp0_10, .bool p0_12] 99 0 true)], Bp0_12] F (fun v S' F' => ∃ (ra1 : Option Addr) (rz2 : Nat) (rB4 : Seg), FLe F F' ∧ v = .tuple #[] ∧ S' = [[(ip0_1, .row [strV p0_1, .slice ap0_4 p0_2.length zp0_5, .int .i64 r.1, .slice ra1 r.2.1.length rz2, .bool r.2.2] 99 0 true)], rB4] ∧ Own (elI .i64 3) F' ra1 rz2 r.2.1 rB4) := by
 refine Cl.of Tryz.func111 rfl (fun _ _ => rfl) (by kernel_rfl) fun s L nx0 hS => ?_
 unfold g_classify_match_behind.f at h
 refine WW.seq (WW.region ?_)
 refine q_seg0 tbok hS 1 [] [5] [.int .i64 p1_0] [] (by kernel_rfl) fun s hS => (KW.nil ?_)
 refine WW.block (WW.seq ?_)
 refine WW.region (q_seg0 tbok hS 2 [] [9] [.bool (p1_0 == 1)] [] (by kernel_rfl) fun s hS => ?_)
 refine KW.nil (bc h (fun hc1 h => ?_) fun hc1 h => ?_)
 refine WW.condK hS rfl hc1 (WW.seq ?_)
 refine WW.region ?_
 obtain ⟨y2, hy2, h⟩ := bind_some h
 refine q_cR (g_classify_match_label.ok hy2 hp0_6) tbok hS 1 12 2 rfl (by kernel_rfl) fun s hS => (KW.nil ?_)
 refine WW.seq (WW.region ?_)
 obtain ⟨y4, hy4, h⟩ := bind_some h
 refine q_cK (g_classify_match_cut.ok hy4 hp0_11) tbok hS 1 14 2 rfl (by kernel_rfl) fun s v S' F' hp5 hF hS => ?_
 obtain ⟨a6, z7, B9, rfl, rfl, rfl, h8⟩ := hp5
 refine KW.nil (WW.seq ?_)
 refine WW.region ?_
 obtain ⟨y10, hy10, h⟩ := bind_some h
 refine q_cK (g_classify_match_word.ok hy10 hp0_6 h8) tbok hS 1 16 2 rfl (by kernel_rfl) fun s v S' F' hp11 hF hS => ?_
 obtain ⟨a12, z13, B15, rfl, rfl, rfl, h14⟩ := hp11
 refine KW.nil (WW.region ?_)
 obtain ⟨y16, hy16, h⟩ := bind_some h
 refine q_cR (g_classify_match_name.ok hy16 hp0_6) tbok hS 1 18 2 rfl (by kernel_rfl) fun s hS => (KW.nil ?_)
 cases h
 exact fin0 hS (.inl rfl) rfl ⟨_, _, _, (FLe.refl _), rfl, rfl, h14⟩
 refine WW.condF hS rfl hc1 (WW.seq ?_)
 refine WW.region (q_seg0 tbok hS 2 [] [19] [.bool (p1_0 == 2)] [] (by kernel_rfl) fun s hS => ?_)
 refine KW.nil (bc h (fun hc18 h => ?_) fun hc18 h => ?_)
 refine WW.condK hS rfl hc18 (WW.region ?_)
 obtain ⟨y19, hy19, h⟩ := bind_some h
 refine q_cR (g_classify_match_label.ok hy19 hp0_6) tbok hS 1 22 2 rfl (by kernel_rfl) fun s hS => (KW.nil ?_)
 cases h
 exact fin0 hS (.inl rfl) rfl ⟨_, _, _, (FLe.refl _), rfl, rfl, hp0_11⟩
 refine WW.condF hS rfl hc18 (WW.seq ?_)
 refine WW.region (q_seg0 tbok hS 2 [] [23] [.bool (p1_0 == 3)] [] (by kernel_rfl) fun s hS => ?_)
 refine KW.nil (bc h (fun hc21 h => ?_) fun hc21 h => ?_)
 refine WW.condK hS rfl hc21 (WW.seq ?_)
 refine WW.region ?_
 obtain ⟨y22, hy22, h⟩ := bind_some h
 refine q_cK (g_classify_match_labels.ok hy22 hp0_6 hG) tbok hS 1 26 2 rfl (by kernel_rfl) fun s v S' F24 hp23 hF hS => ?_
 obtain ⟨hF25, rfl, rfl⟩ := hp23
 refine KW.nil (WW.seq ?_)
 refine WW.region ?_
 obtain ⟨y26, hy26, h⟩ := bind_some h
 refine q_cR (g_classify_match_takes.ok hy26 (hp0_6.mono hF25)) tbok hS 1 28 2 rfl (by kernel_rfl) fun s hS => (KW.nil ?_)
 refine WW.region ?_
 obtain ⟨y28, hy28, h⟩ := bind_some h
 refine q_cR (g_classify_match_expr.ok hy28 (hp0_6.mono hF25)) tbok hS 1 30 2 rfl (by kernel_rfl) fun s hS => (KW.nil ?_)
 cases h
 exact fin0 hS (.inl rfl) rfl ⟨_, _, _, (hF25), rfl, rfl, (hp0_11.mono hF25)⟩
 refine WW.condF hS rfl hc21 (WW.seq ?_)
 refine WW.region (q_seg0 tbok hS 2 [] [31] [.bool (p1_0 == 4)] [] (by kernel_rfl) fun s hS => ?_)
 refine KW.nil (bc h (fun hc30 h => ?_) fun hc30 h => ?_)
 refine WW.condK hS rfl hc30 (WW.seq ?_)
 refine WW.region ?_
 obtain ⟨y31, hy31, h⟩ := bind_some h
 refine q_cR (g_classify_match_name.ok hy31 hp0_6) tbok hS 1 34 2 rfl (by kernel_rfl) fun s hS => (KW.nil ?_)
 refine WW.seq (WW.region ?_)
 obtain ⟨y33, hy33, h⟩ := bind_some h
 refine q_cR (g_classify_match_takes.ok hy33 hp0_6) tbok hS 1 36 2 rfl (by kernel_rfl) fun s hS => (KW.nil ?_)
 refine bc h (fun hc35 h => ?_) fun hc35 h => ?_
 refine WW.condK hS rfl hc35 (WW.region ?_)
 obtain ⟨y36, hy36, h⟩ := bind_some h
 refine q_cK (g_classify_match_labels.ok hy36 hp0_6 hG) tbok hS 1 38 2 rfl (by kernel_rfl) fun s v S' F38 hp37 hF hS => ?_
 obtain ⟨hF39, rfl, rfl⟩ := hp37
 refine KW.nil ?_
 cases h
 exact fin0 hS (.inl rfl) rfl ⟨_, _, _, (hF39), rfl, rfl, (hp0_11.mono hF39)⟩
 refine WW.condF hS rfl hc35 (WW.skip ?_)
 cases h
 exact fin0 hS (.inl rfl) rfl ⟨_, _, _, (FLe.refl _), rfl, rfl, hp0_11⟩
 refine WW.condF hS rfl hc30 (WW.seq ?_)
 refine WW.region (q_seg0 tbok hS 2 [] [39] [.bool (p1_0 == 5)] [] (by kernel_rfl) fun s hS => ?_)
 refine KW.nil (bc h (fun hc40 h => ?_) fun hc40 h => ?_)
 refine WW.condK hS rfl hc40 (WW.seq ?_)
 refine WW.region ?_
 obtain ⟨y41, hy41, h⟩ := bind_some h
 refine q_cR (g_classify_match_parens.ok hy41 hp0_6) tbok hS 1 42 2 rfl (by kernel_rfl) fun s hS => (KW.nil ?_)
 refine WW.seq (WW.region ?_)
 refine q_seg0 tbok hS 1 [] [43] [.int .i64 0] [] (by kernel_rfl) fun s hS => (KW.nil ?_)
 refine WW.block ?_
 obtain ⟨o44, ho44, h⟩ := bind_some h
 refine WW.loop (LW.iter ho44 (fun (x43 : Int × Int × Bool) s => Stt EV s [(0, .pointer (some ⟨ip0_1, 0, none⟩)), (43, .int .i64 x43.1)] [[(ip0_1, .row [strV p0_1, .slice ap0_4 p0_2.length zp0_5, .int .i64 x43.2.1, .slice ap0_9 p0_7.length zp0_10, .bool x43.2.2] 99 0 true)], Bp0_12] F L F nx0) (fun (y45 : Int × Int × Bool) e s => (e = .exit 1 ∧ Stt EV s [(0, .pointer (some ⟨ip0_1, 0, none⟩)), (43, .int .i64 y45.1)] [[(ip0_1, .row [strV p0_1, .slice ap0_4 p0_2.length zp0_5, .int .i64 y45.2.1, .slice ap0_9 p0_7.length zp0_10, .bool y45.2.2] 99 0 true)], Bp0_12] F L F nx0)) (hS.subR rfl) ?_ ?_)
 clear hS
 rintro x43 s hS o44' h46
 unfold g_classify_match_behind.b0 at h46
 refine WW.seq (WW.region ?_)
 refine q_seg0 tbok hS 1 [] [44] [.bool (decide (x43.1 < 3))] [] (by kernel_rfl) fun s hS => (KW.nil ?_)
 refine WW.seq (bc h46 (fun hc47 h46 => ?_) fun hc47 h46 => ?_)
 refine WW.condK hS rfl hc47 (WW.skip ?_)
 refine WW.seq (WW.block ?_)
 refine WW.seq (WW.region ?_)
 refine q_seg0 tbok hS 2 [] [4] [.int .i64 x43.1] [] (by kernel_rfl) fun s hS => (KW.nil ?_)
 refine WW.seq (WW.seq ?_)
 refine WW.region (q_seg0 tbok hS 2 [] [47] [.bool (decide (x43.1 > 0))] [] (by kernel_rfl) fun s hS => ?_)
 refine KW.nil (bc h46 (fun hc48 h46 => ?_) fun hc48 h46 => ?_)
 refine WW.condK hS rfl hc48 (WW.region ?_)
 obtain ⟨y49, hy49, h46⟩ := bind_some h46
 refine q_cR (g_classify_match_sign.ok hy49 hp0_6) tbok hS 1 49 2 rfl (by kernel_rfl) fun s hS => (KW.nil ?_)
 refine WW.region ?_
 obtain ⟨y51, hy51, h46⟩ := bind_some h46
 refine q_cR (g_classify_match_label.ok hy51 hp0_6) tbok hS 1 51 2 rfl (by kernel_rfl) fun s hS => (KW.nil ?_)
 refine WW.region (q_seg0 tbok hS 2 [] [43] [.int .i64 (w64 (x43.1 + 1))] [] (by kernel_rfl) fun s hS => ?_)
 refine KW.nil ?_
 obtain rfl := Option.some.inj h46
 exact ⟨_, rfl, (hS.subR rfl)⟩
 refine WW.condF hS rfl hc48 (WW.skip ?_)
 refine WW.region ?_
 obtain ⟨y53, hy53, h46⟩ := bind_some h46
 refine q_cR (g_classify_match_label.ok hy53 hp0_6) tbok hS 1 51 2 rfl (by kernel_rfl) fun s hS => (KW.nil ?_)
 refine WW.region (q_seg0 tbok hS 2 [] [43] [.int .i64 (w64 (x43.1 + 1))] [] (by kernel_rfl) fun s hS => ?_)
 refine KW.nil ?_
 obtain rfl := Option.some.inj h46
 exact ⟨_, rfl, (hS.subR rfl)⟩
 refine WW.condF hS rfl hc47 (WW.exit ?_)
 refine thenQ_exit ?_
 obtain rfl := Option.some.inj h46
 exact ⟨_, rfl, rfl, (hS.subR rfl)⟩
 clear hS
 rintro e s ⟨rfl, hS⟩
 refine blockQ_exit ?_
 cases h
 exact fin0 hS (.inl rfl) rfl ⟨_, _, _, (FLe.refl _), rfl, rfl, hp0_11⟩
 refine WW.condF hS rfl hc40 ?_
 obtain ⟨z55, hz55, h⟩ := bind_some h
 refine WW.seqJ (fun s => Stt EV s [(0, .pointer (some ⟨ip0_1, 0, none⟩)), (1, .int .i64 p1_0), (5, .int .i64 p1_0), (53, .bool z55)] [[(ip0_1, .row [strV p0_1, .slice ap0_4 p0_2.length zp0_5, .int .i64 p0_6, .slice ap0_9 p0_7.length zp0_10, .bool p0_12] 99 0 true)], Bp0_12] F L F nx0) ?_ ?_
 refine WW.seq (WW.region ?_)
 refine q_seg0 tbok hS 2 [] [53] [.bool (p1_0 == 7)] [] (by kernel_rfl) fun s hS => (KW.nil ?_)
 refine bc hz55 (fun hc56 hz55 => ?_) fun hc56 hz55 => ?_
 replace hS := hS.kb 53 hc56 rfl
 refine WW.condK hS rfl rfl (WW.skip ?_)
 obtain rfl := Option.some.inj hz55
 exact (hS.subR rfl)
 replace hS := hS.kb 53 hc56 rfl
 refine WW.condF hS rfl rfl (WW.region ?_)
 refine q_seg0 tbok hS 2 [] [53] [.bool (p1_0 == 8)] [] (by kernel_rfl) fun s hS => (KW.nil ?_)
 obtain rfl := Option.some.inj hz55
 exact (hS.subR rfl)
 rintro s hS
 refine bc h (fun hc57 h => ?_) fun hc57 h => ?_
 refine WW.condK hS rfl hc57 (WW.seq ?_)
 refine WW.region ?_
 obtain ⟨y58, hy58, h⟩ := bind_some h
 refine q_cR (g_classify_match_parens.ok hy58 hp0_6) tbok hS 1 57 2 rfl (by kernel_rfl) fun s hS => (KW.nil ?_)
 refine WW.region ?_
 obtain ⟨y60, hy60, h⟩ := bind_some h
 refine q_cK (g_classify_match_word.ok hy60 hp0_6 hp0_11) tbok hS 1 59 2 rfl (by kernel_rfl) fun s v S' F' hp61 hF hS => ?_
 obtain ⟨a62, z63, B65, rfl, rfl, rfl, h64⟩ := hp61
 refine KW.nil ?_
 cases h
 exact fin0 hS (.inl rfl) rfl ⟨_, _, _, (FLe.refl _), rfl, rfl, h64⟩
 refine WW.condF hS rfl hc57 (WW.seq ?_)
 refine WW.region (q_seg0 tbok hS 2 [] [60] [.bool (p1_0 == 11)] [] (by kernel_rfl) fun s hS => ?_)
 refine KW.nil (bc h (fun hc66 h => ?_) fun hc66 h => ?_)
 refine WW.condK hS rfl hc66 (WW.region ?_)
 obtain ⟨y67, hy67, h⟩ := bind_some h
 refine q_cK (g_classify_match_do.ok hy67 hp0_6 hp0_11) tbok hS 1 63 2 rfl (by kernel_rfl) fun s v S' F' hp68 hF hS => ?_
 obtain ⟨a69, z70, B72, rfl, rfl, rfl, h71⟩ := hp68
 refine KW.nil ?_
 cases h
 exact fin0 hS (.inl rfl) rfl ⟨_, _, _, (FLe.refl _), rfl, rfl, h71⟩
 refine WW.condF hS rfl hc66 ?_
 obtain ⟨z73, hz73, h⟩ := bind_some h
 refine WW.seqJ (fun s => Stt EV s [(0, .pointer (some ⟨ip0_1, 0, none⟩)), (1, .int .i64 p1_0), (5, .int .i64 p1_0), (64, .bool z73)] [[(ip0_1, .row [strV p0_1, .slice ap0_4 p0_2.length zp0_5, .int .i64 p0_6, .slice ap0_9 p0_7.length zp0_10, .bool p0_12] 99 0 true)], Bp0_12] F L F nx0) ?_ ?_
 refine WW.seq (WW.region ?_)
 refine q_seg0 tbok hS 2 [] [64] [.bool (p1_0 == 14)] [] (by kernel_rfl) fun s hS => (KW.nil ?_)
 refine bc hz73 (fun hc74 hz73 => ?_) fun hc74 hz73 => ?_
 replace hS := hS.kb 64 hc74 rfl
 refine WW.condK hS rfl rfl (WW.skip ?_)
 obtain rfl := Option.some.inj hz73
 exact (hS.subR rfl)
 replace hS := hS.kb 64 hc74 rfl
 refine WW.condF hS rfl rfl (WW.seq ?_)
 refine WW.region (q_seg0 tbok hS 2 [] [64] [.bool (p1_0 == 39)] [] (by kernel_rfl) fun s hS => ?_)
 refine KW.nil (bc hz73 (fun hc75 hz73 => ?_) fun hc75 hz73 => ?_)
 replace hS := hS.kb 64 hc75 rfl
 refine WW.condK hS rfl rfl (WW.skip ?_)
 obtain rfl := Option.some.inj hz73
 exact (hS.subR rfl)
 replace hS := hS.kb 64 hc75 rfl
 refine WW.condF hS rfl rfl (WW.region ?_)
 refine q_seg0 tbok hS 2 [] [64] [.bool (p1_0 == 41)] [] (by kernel_rfl) fun s hS => (KW.nil ?_)
 obtain rfl := Option.some.inj hz73
 exact (hS.subR rfl)
 rintro s hS
 refine bc h (fun hc76 h => ?_) fun hc76 h => ?_
 refine WW.condK hS rfl hc76 (WW.seq ?_)
 refine WW.region ?_
 obtain ⟨y77, hy77, h⟩ := bind_some h
 refine q_cR (g_classify_match_name.ok hy77 hp0_6) tbok hS 1 69 2 rfl (by kernel_rfl) fun s hS => (KW.nil ?_)
 refine WW.region ?_
 obtain ⟨y79, hy79, h⟩ := bind_some h
 refine q_cR (g_classify_match_maybeParens.ok hy79 hp0_6) tbok hS 1 71 2 rfl (by kernel_rfl) fun s hS => (KW.nil ?_)
 cases h
 exact fin0 hS (.inl rfl) rfl ⟨_, _, _, (FLe.refl _), rfl, rfl, hp0_11⟩
 refine WW.condF hS rfl hc76 (WW.seq ?_)
 refine WW.region (q_seg0 tbok hS 2 [] [72] [.bool (p1_0 == 15)] [] (by kernel_rfl) fun s hS => ?_)
 refine KW.nil (bc h (fun hc81 h => ?_) fun hc81 h => ?_)
 refine WW.condK hS rfl hc81 (WW.seq ?_)
 refine WW.region ?_
 obtain ⟨y82, hy82, h⟩ := bind_some h
 refine q_cR (g_classify_match_isMore.ok hy82) tbok hS 1 75 2 rfl (by kernel_rfl) fun s hS => (KW.nil ?_)
 refine bc h (fun hc84 h => ?_) fun hc84 h => ?_
 refine WW.condK hS rfl hc84 (WW.region ?_)
 obtain ⟨y85, hy85, h⟩ := bind_some h
 refine q_cR (g_classify_match_expr.ok hy85 hp0_6) tbok hS 1 77 2 rfl (by kernel_rfl) fun s hS => (KW.nil ?_)
 cases h
 exact fin0 hS (.inl rfl) rfl ⟨_, _, _, (FLe.refl _), rfl, rfl, hp0_11⟩
 refine WW.condF hS rfl hc84 (WW.skip ?_)
 cases h
 exact fin0 hS (.inl rfl) rfl ⟨_, _, _, (FLe.refl _), rfl, rfl, hp0_11⟩
 refine WW.condF hS rfl hc81 ?_
 obtain ⟨z87, hz87, h⟩ := bind_some h
 refine WW.seqJ (fun s => Stt EV s [(0, .pointer (some ⟨ip0_1, 0, none⟩)), (1, .int .i64 p1_0), (78, .bool z87)] [[(ip0_1, .row [strV p0_1, .slice ap0_4 p0_2.length zp0_5, .int .i64 p0_6, .slice ap0_9 p0_7.length zp0_10, .bool p0_12] 99 0 true)], Bp0_12] F L F nx0) ?_ ?_
 refine WW.seq (WW.region ?_)
 refine q_seg0 tbok hS 2 [] [78] [.bool (p1_0 == 16)] [] (by kernel_rfl) fun s hS => (KW.nil ?_)
 refine bc hz87 (fun hc88 hz87 => ?_) fun hc88 hz87 => ?_
 replace hS := hS.kb 78 hc88 rfl
 refine WW.condK hS rfl rfl (WW.skip ?_)
 obtain rfl := Option.some.inj hz87
 exact (hS.subR rfl)
 replace hS := hS.kb 78 hc88 rfl
 refine WW.condF hS rfl rfl (WW.region ?_)
 refine q_seg0 tbok hS 2 [] [78] [.bool (p1_0 == 17)] [] (by kernel_rfl) fun s hS => (KW.nil ?_)
 obtain rfl := Option.some.inj hz87
 exact (hS.subR rfl)
 rintro s hS
 refine bc h (fun hc89 h => ?_) fun hc89 h => ?_
 refine WW.condK hS rfl hc89 (WW.region ?_)
 obtain ⟨y90, hy90, h⟩ := bind_some h
 refine q_cK (g_classify_match_stop.ok hy90 hp0_6 hG) tbok hS 1 82 2 rfl (by kernel_rfl) fun s v S' F92 hp91 hF hS => ?_
 obtain ⟨hF93, rfl, rfl⟩ := hp91
 refine KW.nil ?_
 cases h
 exact fin0 hS (.inl rfl) rfl ⟨_, _, _, (hF93), rfl, rfl, (hp0_11.mono hF93)⟩
 refine WW.condF hS rfl hc89 (WW.region ?_)
 obtain ⟨y94, hy94, h⟩ := bind_some h
 refine q_cK (g_classify_match_other.ok hy94 hp0_6 hp0_11) tbok hS 2 8 2 rfl (by kernel_rfl) fun s v S' F96 hp95 hF hS => ?_
 obtain ⟨a97, z98, B100, hF101, rfl, rfl, h99⟩ := hp95
 refine KW.nil ?_
 cases h
 exact fin0 hS (.inl rfl) rfl ⟨_, _, _, (hF101), rfl, rfl, h99⟩
/-! ### (*formulary/classify.match).kind (84) -/
noncomputable def g_classify_match_kind.f (p0_1 : List UInt8) (p0_2 : List Int) (p0_6 : Int) (p0_7 : List Int) (p0_12 : Bool) (p1_0 : Int) : Option (Int × List Int × Bool) :=
  Option.bind (g_classify_words.f) fun y1 => (if 0 ≤ p1_0 ∧ p1_0 < 44 ∧ p1_0 < (y1.length : Int) then (if (p1_0 == 0) then Option.bind (g_classify_match_name.f p0_1 p0_2 p0_6 p0_12) fun y5 => Option.bind (g_classify_match_maybeParens.f p0_1 p0_2 y5.1 y5.2) fun y7 => Option.bind (g_classify_match_sign.f p0_1 p0_2 y7.1 y7.2 61) fun y9 => Option.bind (g_classify_match_expr.f p0_1 p0_2 y9.1 y9.2) fun y11 => some (y11.1, p0_7, y11.2) else (if (p1_0 == 28) then Option.bind (g_classify_match_oneType.f p0_1 p0_2 p0_6 p0_7 p0_12) fun y14 => Option.bind (g_classify_match_must.f y14.2.2.2 y14.1) fun y22 => Option.bind (g_classify_match_list_1.f p0_1 p0_2 y14.2.1 y22) fun y24 => some (y24.1, y14.2.2.1, y24.2) else (if (p1_0 == 40) then Option.bind (g_classify_match_oneType.f p0_1 p0_2 p0_6 p0_7 p0_12) fun y27 => Option.bind (g_classify_match_word.f p0_1 p0_2 y27.2.1 y27.2.2.1 y27.2.2.2 (gt y1 p1_0)) fun y35 => Option.bind (g_classify_match_name.f p0_1 p0_2 y35.1 y35.2.2) fun y41 => Option.bind (g_classify_match_maybeParens.f p0_1 p0_2 y41.1 y41.2) fun y43 => some (y43.1, y35.2.1, y43.2) else Option.bind (g_classify_match_word.f p0_1 p0_2 p0_6 p0_7 p0_12 (gt y1 p1_0)) fun y45 => Option.bind (g_classify_match_behind.f p0_1 p0_2 y45.1 y45.2.1 y45.2.2 p1_0) fun y51 => some (y51.1, y51.2.1, y51.2.2)))) else none)
set_option maxHeartbeats 4000000 in
theorem g_classify_match_kind.ok {ip0_1 : Nat} {ap0_4 : Option Addr} {zp0_5 : Nat} {ap0_9 : Option Addr} {zp0_10 : Nat} {Bp0_12 : Seg} {p0_1 : List UInt8} {p0_2 : List Int} {p0_6 : Int} {p0_7 : List Int} {p0_12 : Bool} {p1_0 : Int} {F : FZ} {r : Int × List Int × Bool} (h : g_classify_match_kind.f p0_1 p0_2 p0_6 p0_7 p0_12 p1_0 = some r) (hp0_6 : Frz (elI .i64 3) F ap0_4 zp0_5 p0_2) (hp0_11 : Own (elI .i64 3) F ap0_9 zp0_10 p0_7 Bp0_12) (hG : Gl F) :
    Cl EV 84 [.pointer (some ⟨ip0_1, 0, none⟩), .int .i64 p1_0] [[(ip0_1, .row [strV p0_1, .slice ap0_4 p0_2.length zp0_5, .int .i64 p0_6, .slice ap0_9 p0_7.length zp0_10, .bool p0_12] 99 0 true)], Bp0_12] F (fun v S' F' => ∃ (ra1 : Option Addr) (rz2 : Nat) (rB4 : Seg), FLe F F' ∧ v = .tuple #[] ∧ S' = [[(ip0_1, .row [strV p0_1, .slice ap0_4 p0_2.length zp0_5, .int .i64 r.1, .slice ra1 r.2.1.length rz2, .bool r.2.2] 99 0 true)], rB4] ∧ Own (elI .i64 3) F' ra1 rz2 r.2.1 rB4) := by
 refine Cl.of Tryz.func84 rfl (fun _ _ => rfl) (by kernel_rfl) fun s L nx0 hS => ?_
 unfold g_classify_match_kind.f at h
 refine WW.seq (WW.region ?_)
 obtain ⟨y1, hy1, h⟩ := bind_some h
 refine q_cR (g_classify_words.ok hy1) tbok hS 0 5 0 rfl (by kernel_rfl) fun s hS => (q_seg0 tbok hS 1 [] [6] [.int .i64 p1_0] [] (by kernel_rfl) fun s hS => ?_)
 obtain ⟨hk3, h⟩ := ite_some h
 refine q_pu hS (wn rfl) rfl rfl rfl (v := strV (gt y1 p1_0)) (aop_idxA (f := strV) (l := y1) tv101 ts9 tl9 (fun _ => rfl) (hS.lk rfl) (hS.lk rfl) hk3) fun s hS => (q_seg0 tbok hS 1 [] [4] [strV (gt y1 p1_0)] [] (by kernel_rfl) fun s hS => ?_)
 refine KW.nil (WW.seq ?_)
 refine WW.region (q_seg0 tbok hS 1 [] [8] [.int .i64 p1_0] [] (by kernel_rfl) fun s hS => ?_)
 refine KW.nil (WW.block ?_)
 refine WW.seq (WW.region ?_)
 refine q_seg0 tbok hS 2 [] [15] [.bool (p1_0 == 0)] [] (by kernel_rfl) fun s hS => (KW.nil ?_)
 refine bc h (fun hc4 h => ?_) fun hc4 h => ?_
 refine WW.condK hS rfl hc4 (WW.seq ?_)
 refine WW.region ?_
 obtain ⟨y5, hy5, h⟩ := bind_some h
 refine q_cR (g_classify_match_name.ok hy5 hp0_6) tbok hS 1 18 2 rfl (by kernel_rfl) fun s hS => (KW.nil ?_)
 refine WW.seq (WW.region ?_)
 obtain ⟨y7, hy7, h⟩ := bind_some h
 refine q_cR (g_classify_match_maybeParens.ok hy7 hp0_6) tbok hS 1 20 2 rfl (by kernel_rfl) fun s hS => (KW.nil ?_)
 refine WW.seq (WW.region ?_)
 obtain ⟨y9, hy9, h⟩ := bind_some h
 refine q_cR (g_classify_match_sign.ok hy9 hp0_6) tbok hS 1 22 2 rfl (by kernel_rfl) fun s hS => (KW.nil ?_)
 refine WW.region ?_
 obtain ⟨y11, hy11, h⟩ := bind_some h
 refine q_cR (g_classify_match_expr.ok hy11 hp0_6) tbok hS 1 24 2 rfl (by kernel_rfl) fun s hS => (KW.nil ?_)
 cases h
 exact fin0 hS (.inl rfl) rfl ⟨_, _, _, (FLe.refl _), rfl, rfl, hp0_11⟩
 refine WW.condF hS rfl hc4 (WW.seq ?_)
 refine WW.region (q_seg0 tbok hS 2 [] [25] [.bool (p1_0 == 28)] [] (by kernel_rfl) fun s hS => ?_)
 refine KW.nil (bc h (fun hc13 h => ?_) fun hc13 h => ?_)
 refine WW.condK hS rfl hc13 (WW.seq ?_)
 refine WW.region (q_seg0 tbok hS 2 [] [27, 28] [.pointer (some ⟨ip0_1, 0, none⟩), .pointer (some ⟨ip0_1, 0, none⟩)] [] (by kernel_rfl) fun s hS => ?_)
 obtain ⟨y14, hy14, h⟩ := bind_some h
 refine q_cl hS (wn rfl) (vs := [.pointer (some ⟨ip0_1, 0, none⟩)]) (ws := [.pointer (some ⟨ip0_1, 0, none⟩)]) rfl rfl rfl rfl rfl 2 rfl (g_classify_match_oneType.ok hy14 hp0_6 hp0_11) fun s v S' F16 hp15 hF hS => ?_
 obtain ⟨a17, z18, B20, hF21, rfl, rfl, h19⟩ := hp15
 obtain ⟨y22, hy22, h⟩ := bind_some h
 refine q_cR (g_classify_match_must.ok hy22) tbok hS 0 30 2 rfl (by kernel_rfl) fun s hS => (KW.nil ?_)
 refine WW.region (q_seg0 tbok hS 2 [] [31, 32] [.pointer (some ⟨ip0_1, 0, none⟩), .pointer (some ⟨ip0_1, 0, none⟩)] [] (by kernel_rfl) fun s hS => ?_)
 refine q_pu hS (wn rfl) rfl rfl rfl (v := .func (.func 110) #[.pointer (some ⟨ip0_1, 0, none⟩)] #[]) (aop_mf (map_lk hS (vs := [.pointer (some ⟨ip0_1, 0, none⟩)]) rfl) (map_lk hS (vs := []) rfl)) fun s hS => ?_
 obtain ⟨y24, hy24, h⟩ := bind_some h
 refine q_cR (g_classify_match_list_1.ok hy24 (hp0_6.mono hF21)) tbok hS 0 34 2 rfl (by kernel_rfl) fun s hS => (KW.nil ?_)
 cases h
 exact fin0 hS (.inl rfl) rfl ⟨_, _, _, (hF21), rfl, rfl, h19⟩
 refine WW.condF hS rfl hc13 (WW.seq ?_)
 refine WW.region (q_seg0 tbok hS 2 [] [35] [.bool (p1_0 == 40)] [] (by kernel_rfl) fun s hS => ?_)
 refine KW.nil (bc h (fun hc26 h => ?_) fun hc26 h => ?_)
 refine WW.condK hS rfl hc26 (WW.seq ?_)
 refine WW.region ?_
 obtain ⟨y27, hy27, h⟩ := bind_some h
 refine q_cK (g_classify_match_oneType.ok hy27 hp0_6 hp0_11) tbok hS 1 38 2 rfl (by kernel_rfl) fun s v S' F29 hp28 hF hS => ?_
 obtain ⟨a30, z31, B33, hF34, rfl, rfl, h32⟩ := hp28
 refine KW.nil (WW.seq ?_)
 refine WW.region ?_
 obtain ⟨y35, hy35, h⟩ := bind_some h
 refine q_cK (g_classify_match_word.ok hy35 (hp0_6.mono hF34) h32) tbok hS 2 41 2 rfl (by kernel_rfl) fun s v S' F' hp36 hF hS => ?_
 obtain ⟨a37, z38, B40, rfl, rfl, rfl, h39⟩ := hp36
 refine KW.nil (WW.seq ?_)
 refine WW.region ?_
 obtain ⟨y41, hy41, h⟩ := bind_some h
 refine q_cR (g_classify_match_name.ok hy41 (hp0_6.mono hF34)) tbok hS 1 43 2 rfl (by kernel_rfl) fun s hS => (KW.nil ?_)
 refine WW.region ?_
 obtain ⟨y43, hy43, h⟩ := bind_some h
 refine q_cR (g_classify_match_maybeParens.ok hy43 (hp0_6.mono hF34)) tbok hS 1 45 2 rfl (by kernel_rfl) fun s hS => (KW.nil ?_)
 cases h
 exact fin0 hS (.inl rfl) rfl ⟨_, _, _, (hF34), rfl, rfl, h39⟩
 refine WW.condF hS rfl hc26 (WW.seq ?_)
 refine WW.region ?_
 obtain ⟨y45, hy45, h⟩ := bind_some h
 refine q_cK (g_classify_match_word.ok hy45 hp0_6 hp0_11) tbok hS 2 11 2 rfl (by kernel_rfl) fun s v S' F' hp46 hF hS => ?_
 obtain ⟨a47, z48, B50, rfl, rfl, rfl, h49⟩ := hp46
 refine KW.nil (WW.region ?_)
 obtain ⟨y51, hy51, h⟩ := bind_some h
 refine q_cK (g_classify_match_behind.ok hy51 hp0_6 h49 hG) tbok hS 2 14 2 rfl (by kernel_rfl) fun s v S' F53 hp52 hF hS => ?_
 obtain ⟨a54, z55, B57, hF58, rfl, rfl, h56⟩ := hp52
 refine KW.nil ?_
 cases h
 exact fin0 hS (.inl rfl) rfl ⟨_, _, _, (hF58), rfl, rfl, h56⟩
/-! ### formulary/classify.logical (83) -/
noncomputable def g_classify_logical.b1 (y1 : Int × Bool) (y7 : (List (Int × Int × List Int))) (x15 : (List (Int × Int × List Int)) × Int) (x50 : Int × List Int) : Option ((Int × List Int) ⊕ (Int × List Int)) :=
  (if (decide (x50.1 < (((gt y7 x15.2).2.2).length : Int))) then (if 0 ≤ x50.1 ∧ x50.1 < (((gt y7 x15.2).2.2).length : Int) then (if x50.2.length + ([(w64 ((gt ((gt y7 x15.2).2.2) x50.1) + y1.1))] : List Int).length < 1000000000 then some (.inl ((w64 (x50.1 + 1)), (x50.2 ++ ([(w64 ((gt ((gt y7 x15.2).2.2) x50.1) + y1.1))] : List Int)))) else none) else none) else some (.inr (x50.1, x50.2)))
noncomputable def g_classify_logical.b0 (y1 : Int × Bool) (y7 : (List (Int × Int × List Int))) (x15 : (List (Int × Int × List Int)) × Int) : Option (((List (Int × Int × List Int)) × Int) ⊕ ((List (Int × Int × List Int)) × Int)) :=
  (if (decide (x15.2 < (y7.length : Int))) then (if 0 ≤ x15.2 ∧ x15.2 < (y7.length : Int) then Option.bind (g_classify_mayBeInner.f ((gt y7 x15.2).1)) fun y46 => (if (!y46) then some (.inl (x15.1, (w64 (x15.2 + 1)))) else Option.bind (iter (g_classify_logical.b1 y1 y7 x15) (0, ([] : List Int))) fun o55 => (if x15.1.length + ([(6, ((gt y7 x15.2).1), o55.2)] : List (Int × Int × List Int)).length < 1000000000 then some (.inl ((x15.1 ++ ([(6, ((gt y7 x15.2).1), o55.2)] : List (Int × Int × List Int))), (w64 (x15.2 + 1)))) else none)) else none) else some (.inr (x15.1, x15.2)))
noncomputable def g_classify_logical.F (self : (List UInt8) → Option ((List (Int × Int × List Int)))) (p0_0 : List UInt8) : Option ((List (Int × Int × List Int))) :=
  Option.bind (g_classify_inner.f p0_0) fun y1 => (if (!y1.2) then some ([] : List (Int × Int × List Int)) else (if 0 ≤ y1.1 ∧ y1.1 ≤ (p0_0.length : Int) ∧ (p0_0.length : Int) ≤ (p0_0.length : Int) then Option.bind (self (mid p0_0 y1.1 (p0_0.length : Int))) fun y7 => Option.bind (iter (g_classify_logical.b0 y1 y7) (([] : List (Int × Int × List Int)), 0)) fun o22 => some o22.1 else none))
set_option maxHeartbeats 4000000 in
theorem g_classify_logical.okS {self : (List UInt8) → Option ((List (Int × Int × List Int)))} (ih : ∀ {p0_0 : List UInt8} {F : FZ} {r : (List (Int × Int × List Int))} (h : self p0_0 = some r) (hG : Gl F), Cl EV 52 [strV p0_0] [] F (fun v S' F' => ∃ (ra1 : Option Addr) (rz2 : Nat) (rB4 : Seg), FLe F F' ∧ v = .slice ra1 r.length rz2 ∧ S' = [rB4] ∧ Own el24 F' ra1 rz2 r rB4)) {p0_0 : List UInt8} {F : FZ} {r : (List (Int × Int × List Int))} (h : g_classify_logical.F self p0_0 = some r) (hG : Gl F) :
    Cl EV 83 [strV p0_0] [] F (fun v S' F' => ∃ (ra1 : Option Addr) (rz2 : Nat) (rB4 : Seg), FLe F F' ∧ v = .slice ra1 r.length rz2 ∧ S' = [rB4] ∧ Own el24 F' ra1 rz2 r rB4) := by
 refine Cl.of Tryz.func83 rfl (fun _ _ => rfl) (by kernel_rfl) fun s L nx0 hS => ?_
 unfold g_classify_logical.F at h
 refine WW.seq (WW.region ?_)
 refine q_seg0 tbok hS 1 [] [2] [.slice none 0 0] [] (by kernel_rfl) fun s hS => (KW.nil ?_)
 refine WW.seq (WW.region ?_)
 obtain ⟨y1, hy1, h⟩ := bind_some h
 refine q_cK (g_classify_inner.ok hy1 hG) tbok hS 1 13 0 rfl (by kernel_rfl) fun s v S' F3 hp2 hF hS => ?_
 obtain ⟨hF4, rfl, rfl⟩ := hp2
 refine q_seg0 tbok hS 5 [] [3, 4] [.int .i64 y1.1, .bool y1.2] [] (by kernel_rfl) fun s hS => (KW.nil ?_)
 refine WW.seq (WW.seq ?_)
 refine WW.region (q_seg0 tbok hS 2 [] [17] [.bool (!y1.2)] [] (by kernel_rfl) fun s hS => ?_)
 refine KW.nil (bc h (fun hc5 h => ?_) fun hc5 h => ?_)
 refine WW.condK hS rfl hc5 (WW.seq ?_)
 refine WW.region (q_seg0 tbok hS 1 [] [2] [.slice none 0 0] [] (by kernel_rfl) fun s hS => ?_)
 refine KW.nil (WW.ret ?_)
 replace hS := hS.gap0
 cases h
 exact fin1 hS (.inr rfl) 2 rfl rfl ⟨_, _, _, (hF4), rfl, rfl, Own.nil⟩
 refine WW.condF hS rfl hc5 (WW.skip ?_)
 refine WW.seq (WW.region ?_)
 refine q_seg0 tbok hS 1 [] [5] [.slice none 0 0] [] (by kernel_rfl) fun s hS => (KW.nil ?_)
 refine WW.seq (WW.seq ?_)
 refine WW.region (q_seg0 tbok hS 2 [] [18, 19] [strV p0_0, .int .i64 y1.1] [] (by kernel_rfl) fun s hS => ?_)
 obtain ⟨hk6, h⟩ := ite_some h
 refine q_pu hS (wn rfl) rfl rfl rfl (v := strV (mid p0_0 y1.1 (p0_0.length : Int))) (aop_slS tu9 (hS.lk rfl) (i := y1.1) (j := (p0_0.length : Int)) (bnd_eq hS rfl) rfl hk6) fun s hS => ?_
 obtain ⟨y7, hy7, h⟩ := bind_some h
 refine q_cK (ih hy7 (hG.mono hF4)) tbok hS 0 21 0 rfl (by kernel_rfl) fun s v S' F9 hp8 hF hS => ?_
 obtain ⟨a10, z11, B13, hF14, rfl, rfl, h12⟩ := hp8
 refine q_seg0 tbok hS 2 [] [22, 23] [.int .i64 (y7.length : Int), .int .i64 0] [] (by kernel_rfl) fun s hS => (KW.nil ?_)
 refine WW.block ?_
 replace hS := hS.gap0
 obtain ⟨o22, ho22, h⟩ := bind_some h
 refine WW.loop (LW.iter ho22 (fun (x15 : (List (Int × Int × List Int)) × Int) s => ∃ (a18 : Option Addr) (z19 : Nat) (B21 : Seg) (F16 : FZ), Stt EV s [(2, .slice none 0 0), (3, .int .i64 y1.1), (5, .slice a18 x15.1.length z19), (21, .slice a10 y7.length z11), (22, .int .i64 (y7.length : Int)), (23, .int .i64 x15.2)] [B21, B13] F16 L F nx0 ∧ Own el24 F16 a18 z19 x15.1 B21 ∧ FLe F9 F16) (fun (y23 : (List (Int × Int × List Int)) × Int) e s => (e = .exit 0 ∧ ∃ (a26 : Option Addr) (z27 : Nat) (B29 : Seg) (F24 : FZ), Stt EV s [(2, .slice none 0 0), (3, .int .i64 y1.1), (5, .slice a26 y23.1.length z27), (21, .slice a10 y7.length z11), (22, .int .i64 (y7.length : Int)), (23, .int .i64 y23.2)] [B29, B13] F24 L F nx0 ∧ Own el24 F24 a26 z27 y23.1 B29 ∧ FLe F9 F24)) ⟨_, _, _, _, (hS.subR rfl), Own.nil, (FLe.refl _)⟩ ?_ ?_)
 clear hS
 rintro x15 s ⟨a18, z19, B21, F16, hS, h20, hF17⟩ o22' h30
 unfold g_classify_logical.b0 at h30
 refine WW.seq (WW.region ?_)
 refine q_seg0 tbok hS 1 [] [24] [.bool (decide (x15.2 < (y7.length : Int)))] [] (by kernel_rfl) fun s hS => (KW.nil ?_)
 refine WW.seq (bc h30 (fun hc31 h30 => ?_) fun hc31 h30 => ?_)
 refine WW.condK hS rfl hc31 (WW.skip ?_)
 refine WW.seq (WW.block ?_)
 refine WW.seq (WW.region ?_)
 obtain ⟨hk32, h30⟩ := ite_some h30
 obtain ⟨i38, cs39, ex40, rfl, rfl, rfl, hC41⟩ := Own.some_ h12 (by omega)
 obtain ⟨c33, hR34, hN36, hN35, hT37⟩ := Cells.loadF (hC41.mono hF17) ex40 hk32 (z := 3) rfl
 obtain ⟨a42, z43, rfl, hz44⟩ := hR34
 refine q_pu hS (wn rfl) rfl rfl rfl (v := .pointer (some ⟨i38, 0 + (x15.2).toNat * 3, none⟩)) (aop_ia (hS.lk rfl) (hS.lk rfl) te36 hk32) fun s hS => (q_ldA hS (wn rfl) rfl rfl rfl (hS.at (k := 1) rfl) tg24 tz24 (vs := [.int .i64 ((gt y7 x15.2).1), .int .i64 ((gt y7 x15.2).2.1), .slice a42 ((gt y7 x15.2).2.2).length z43]) hT37 fun s hS => ?_)
 refine q_nw hS (wn rfl) rfl rfl rfl (v := fun i => .pointer (some ⟨i, 0, none⟩)) (b := .row [.int .i64 0, .int .i64 0, .slice none 0 0] 24 0 true) (aop_alloc t0_24) fun s i45 hS => (q_seg tbok hS 1 [0] [] [] [i45] [[(i45, .row [.int .i64 ((gt y7 x15.2).1), .int .i64 ((gt y7 x15.2).2.1), .slice a42 ((gt y7 x15.2).2.2).length z43] 24 0 true)], B21, [(i38, .row (cs39 ++ ex40) 24 3 true)]] (by kernel_rfl) fun s hS => ?_)
 refine KW.nil (WW.seq ?_)
 refine WW.seq (WW.region ?_)
 refine q_seg0 tbok hS 2 [0] [28] [.int .i64 ((gt y7 x15.2).1)] [i45] (by kernel_rfl) fun s hS => ?_
 obtain ⟨y46, hy46, h30⟩ := bind_some h30
 refine q_cl hS (wn rfl) (vs := [.int .i64 ((gt y7 x15.2).1)]) (ws := [.int .i64 ((gt y7 x15.2).1)]) rfl rfl rfl rfl rfl 0 rfl (g_classify_mayBeInner.ok hy46) fun s v S' F' hp47 hF hS => ?_
 obtain ⟨rfl, rfl, rfl⟩ := hp47
 refine q_seg0 tbok hS 1 [] [30] [.bool (!y46)] [] (by kernel_rfl) fun s hS => (KW.nil ?_)
 refine bc h30 (fun hc48 h30 => ?_) fun hc48 h30 => ?_
 refine WW.condK hS rfl hc48 (WW.exit ?_)
 refine thenQ_exit (blockQ_exit ?_)
 refine WW.region (q_seg0 tbok hS 2 [] [23] [.int .i64 (w64 (x15.2 + 1))] [] (by kernel_rfl) fun s hS => ?_)
 refine KW.nil ?_
 replace hS := hS.drop
 obtain rfl := Option.some.inj h30
 exact ⟨_, rfl, _, _, _, _, (hS.subR rfl), h20, hF17⟩
 refine WW.condF hS rfl hc48 (WW.skip ?_)
 refine WW.seq (WW.region ?_)
 refine q_seg0 tbok hS 2 [0] [32] [.int .i64 ((gt y7 x15.2).1)] [i45] (by kernel_rfl) fun s hS => (q_pu hS (wn rfl) rfl rfl rfl (v := .agg #[.int .i64 6, .int .i64 ((gt y7 x15.2).1), .slice none 0 0]) (aop_bld t0_24 tp24 [(0, .int .i64 6), (1, .int .i64 ((gt y7 x15.2).1))] (parts_eq hS rfl) (cs := [.int .i64 6, .int .i64 ((gt y7 x15.2).1), .slice none 0 0]) rfl) fun s hS => ?_)
 refine q_nw hS (wn rfl) rfl rfl rfl (v := fun i => .pointer (some ⟨i, 0, none⟩)) (b := .row [.int .i64 0, .int .i64 0, .slice none 0 0] 24 0 true) (aop_alloc t0_24) fun s i49 hS => (q_seg tbok hS 1 [0] [] [] [i49] [[(i49, .row [.int .i64 6, .int .i64 ((gt y7 x15.2).1), .slice none 0 0] 24 0 true)], [(i45, .row [.int .i64 ((gt y7 x15.2).1), .int .i64 ((gt y7 x15.2).2.1), .slice a42 ((gt y7 x15.2).2.2).length z43] 24 0 true)], B21, [(i38, .row (cs39 ++ ex40) 24 3 true)]] (by kernel_rfl) fun s hS => ?_)
 refine KW.nil (WW.seq ?_)
 refine WW.seq (WW.region ?_)
 refine q_seg0 tbok hS 4 [1] [35, 36, 37] [.slice a42 ((gt y7 x15.2).2.2).length z43, .int .i64 (((gt y7 x15.2).2.2).length : Int), .int .i64 0] [i45] (by kernel_rfl) fun s hS => (KW.nil ?_)
 refine WW.block ?_
 replace hS := hS.gap0
 obtain ⟨o55, ho55, h30⟩ := bind_some h30
 refine WW.loop (LW.iter ho55 (fun (x50 : Int × List Int) s => ∃ (a51 : Option Addr) (z52 : Nat) (B54 : Seg), Stt EV s [(2, .slice none 0 0), (3, .int .i64 y1.1), (5, .slice a18 x15.1.length z19), (8, .pointer (some ⟨i49, 0, none⟩)), (21, .slice (some ⟨i38, 0, none⟩) y7.length 3), (22, .int .i64 (y7.length : Int)), (23, .int .i64 x15.2), (35, .slice a42 ((gt y7 x15.2).2.2).length z43), (36, .int .i64 (((gt y7 x15.2).2.2).length : Int)), (37, .int .i64 x50.1)] [B54, [(i49, .row [.int .i64 6, .int .i64 ((gt y7 x15.2).1), .slice a51 x50.2.length z52] 24 0 true)], [(i45, .row [.int .i64 ((gt y7 x15.2).1), .int .i64 ((gt y7 x15.2).2.1), .slice a42 ((gt y7 x15.2).2.2).length z43] 24 0 true)], B21, [(i38, .row (cs39 ++ ex40) 24 3 true)]] F16 L F nx0 ∧ Own (elI .i64 3) F16 a51 z52 x50.2 B54) (fun (y56 : Int × List Int) e s => (e = .exit 2 ∧ ∃ (a57 : Option Addr) (z58 : Nat) (B60 : Seg), Stt EV s [(2, .slice none 0 0), (3, .int .i64 y1.1), (5, .slice a18 x15.1.length z19), (8, .pointer (some ⟨i49, 0, none⟩)), (21, .slice (some ⟨i38, 0, none⟩) y7.length 3), (22, .int .i64 (y7.length : Int)), (23, .int .i64 x15.2), (35, .slice a42 ((gt y7 x15.2).2.2).length z43), (36, .int .i64 (((gt y7 x15.2).2.2).length : Int)), (37, .int .i64 y56.1)] [B60, [(i49, .row [.int .i64 6, .int .i64 ((gt y7 x15.2).1), .slice a57 y56.2.length z58] 24 0 true)], [(i45, .row [.int .i64 ((gt y7 x15.2).1), .int .i64 ((gt y7 x15.2).2.1), .slice a42 ((gt y7 x15.2).2.2).length z43] 24 0 true)], B21, [(i38, .row (cs39 ++ ex40) 24 3 true)]] F16 L F nx0 ∧ Own (elI .i64 3) F16 a57 z58 y56.2 B60)) ⟨_, _, _, (hS.subR rfl), Own.nil⟩ ?_ ?_)
 clear hS
 rintro x50 s ⟨a51, z52, B54, hS, h53⟩ o55' h61
 unfold g_classify_logical.b1 at h61
 refine WW.seq (WW.region ?_)
 refine q_seg0 tbok hS 1 [] [38] [.bool (decide (x50.1 < (((gt y7 x15.2).2.2).length : Int)))] [] (by kernel_rfl) fun s hS => (KW.nil ?_)
 refine WW.seq (bc h61 (fun hc62 h61 => ?_) fun hc62 h61 => ?_)
 refine WW.condK hS rfl hc62 (WW.skip ?_)
 refine WW.seq (WW.block ?_)
 refine WW.seq (WW.region ?_)
 obtain ⟨hk63, h61⟩ := ite_some h61
 obtain ⟨i69, of70, rfl⟩ := Frz.addr hz44 (by omega)
 obtain ⟨_, _, _, _, c64, hF71, hR65, hN66, hN67, hT68⟩ := Frz.at hz44 hk63 (m := 1) rfl
 obtain rfl := hR65
 refine q_pu hS (wn rfl) rfl rfl rfl (v := .pointer (some ⟨i69, of70 + (x50.1).toNat * 1, none⟩)) (aop_ia (hS.lk rfl) (hS.lk rfl) te22 hk63) fun s hS => (q_ld hS (wn rfl) rfl rfl rfl (hS.fat hF71) tg3 (v := .int .i64 (gt ((gt y7 x15.2).2.2) x50.1)) hN66 fun s hS => ?_)
 refine q_seg0 tbok hS 1 [] [10] [.int .i64 (gt ((gt y7 x15.2).2.2) x50.1)] [] (by kernel_rfl) fun s hS => (KW.nil ?_)
 refine WW.region (q_seg0 tbok hS 5 [1] [42, 45] [.slice a51 x50.2.length z52, .int .i64 (w64 ((gt ((gt y7 x15.2).2.2) x50.1) + y1.1))] [i49] (by kernel_rfl) fun s hS => ?_)
 refine q_nw hS (wn rfl) rfl rfl rfl (v := fun i => .slice (some ⟨i, 0, none⟩) 1 1) (b := .row [.int .i64 (w64 ((gt ((gt y7 x15.2).2.2) x50.1) + y1.1))] 3 1 true) (aop_bsl tu22 tz3 t0_3 rfl [(0, .int .i64 (w64 ((gt ((gt y7 x15.2).2.2) x50.1) + y1.1)))] (parts_eq hS rfl) rfl) fun s i72 hS => ?_
 have hC73 : Cells (elI .i64 3) F16 ([(w64 ((gt ((gt y7 x15.2).2.2) x50.1) + y1.1))] : List Int) [.int .i64 (w64 ((gt ((gt y7 x15.2).2.2) x50.1) + y1.1))] := ⟨[.int .i64 (w64 ((gt ((gt y7 x15.2).2.2) x50.1) + y1.1))], [], rfl, rfl, rfl⟩
 obtain ⟨hk77, h61⟩ := ite_some h61
 refine q_app hS (wn rfl) (dd := (elI .i64 3)) (lst := x50.2) (m := ([(w64 ((gt ((gt y7 x15.2).2.2) x50.1) + y1.1))] : List Int)) rfl rfl ta22_22 rfl rfl h53 (Nat.succ_pos _) hC73 hk77 fun s i74 cs75 hC76 hS => (q_seg tbok hS 2 [1] [] [] [i49] [[(i74, .row cs75 3 1 true)], [(i49, .row [.int .i64 6, .int .i64 ((gt y7 x15.2).1), .slice (some ⟨i74, 0, none⟩) (x50.2 ++ ([(w64 ((gt ((gt y7 x15.2).2.2) x50.1) + y1.1))] : List Int)).length 1] 24 0 true)], [(i45, .row [.int .i64 ((gt y7 x15.2).1), .int .i64 ((gt y7 x15.2).2.1), .slice (some ⟨i69, of70, none⟩) ((gt y7 x15.2).2.2).length z43] 24 0 true)], B21, [(i38, .row (cs39 ++ ex40) 24 3 true)]] (by kernel_rfl) fun s hS => ?_)
 refine KW.nil (WW.region ?_)
 refine q_seg0 tbok hS 2 [] [37] [.int .i64 (w64 (x50.1 + 1))] [] (by kernel_rfl) fun s hS => (KW.nil ?_)
 obtain rfl := Option.some.inj h61
 exact ⟨_, rfl, _, _, _, (hS.subR rfl), (Own.blk0 hC76)⟩
 refine WW.condF hS rfl hc62 (WW.exit ?_)
 refine thenQ_exit ?_
 obtain rfl := Option.some.inj h61
 exact ⟨_, rfl, rfl, _, _, _, (hS.subR rfl), h53⟩
 clear hS
 rintro e s ⟨rfl, a78, z79, B81, hS, h80⟩
 refine blockQ_exit (WW.region ?_)
 refine q_seg0 tbok hS 2 [1] [50, 51] [.slice a18 x15.1.length z19, .agg #[.int .i64 6, .int .i64 ((gt y7 x15.2).1), .slice a78 o55.2.length z79]] [i49] (by kernel_rfl) fun s hS => ?_
 obtain ⟨F82, hF83, hS, hz84⟩ := hS.frzO h80
 refine q_nw hS (wn rfl) rfl rfl rfl (v := fun i => .slice (some ⟨i, 0, none⟩) 1 3) (b := .row [.int .i64 6, .int .i64 ((gt y7 x15.2).1), .slice a78 o55.2.length z79] 24 3 true) (aop_bsl tu36 tz24 t0_24 rfl [(0, .agg #[.int .i64 6, .int .i64 ((gt y7 x15.2).1), .slice a78 o55.2.length z79])] (parts_eq hS rfl) rfl) fun s i85 hS => ?_
 have hC86 : Cells el24 F82 ([(6, ((gt y7 x15.2).1), o55.2)] : List (Int × Int × List Int)) [.int .i64 6, .int .i64 ((gt y7 x15.2).1), .slice a78 o55.2.length z79] := ⟨[.int .i64 6, .int .i64 ((gt y7 x15.2).1), .slice a78 o55.2.length z79], [], rfl, ⟨_, _, rfl, hz84⟩, rfl⟩
 obtain ⟨hk90, h30⟩ := ite_some h30
 replace hS := hS.pull 3
 replace hS := hS.pull 1
 refine q_app hS (wn rfl) (dd := el24) (lst := x15.1) (m := ([(6, ((gt y7 x15.2).1), o55.2)] : List (Int × Int × List Int))) rfl rfl ta36_36 rfl rfl (h20.mono hF83) (Nat.succ_pos _) hC86 hk90 fun s i87 cs88 hC89 hS => (q_seg0 tbok hS 1 [] [5] [.slice (some ⟨i87, 0, none⟩) (x15.1 ++ ([(6, ((gt y7 x15.2).1), o55.2)] : List (Int × Int × List Int))).length 3] [] (by kernel_rfl) fun s hS => ?_)
 refine KW.nil (WW.region ?_)
 refine q_seg0 tbok hS 2 [] [23] [.int .i64 (w64 (x15.2 + 1))] [] (by kernel_rfl) fun s hS => (KW.nil ?_)
 replace hS := (hS.pull 1).drop
 replace hS := (hS.pull 1).drop
 obtain rfl := Option.some.inj h30
 exact ⟨_, rfl, _, _, _, _, (hS.subR rfl), (Own.blk0 hC89), (FLe.trans hF17 hF83)⟩
 refine WW.condF hS rfl hc31 (WW.exit ?_)
 refine thenQ_exit ?_
 obtain rfl := Option.some.inj h30
 exact ⟨_, rfl, rfl, _, _, _, _, (hS.subR rfl), h20, hF17⟩
 clear hS
 rintro e s ⟨rfl, a93, z94, B96, F91, hS, h95, hF92⟩
 refine blockQ_exit (WW.seq ?_)
 refine WW.region (q_seg0 tbok hS 2 [] [2] [.slice a93 o22.1.length z94] [] (by kernel_rfl) fun s hS => ?_)
 refine KW.nil (WW.ret ?_)
 replace hS := (hS.pull 1).drop
 cases h
 exact fin1 hS (.inr rfl) 2 rfl rfl ⟨_, _, _, ((FLe.trans hF4 (FLe.trans hF14 hF92))), rfl, rfl, h95⟩
/-! ### formulary/classify.readings (52) -/
noncomputable def g_classify_readings.b0 (p0_0 : List UInt8) (self : (List UInt8) → Option ((List (Int × Int × List Int)))) (x1 : (List (Int × Int × List Int)) × Int) : Option (((List (Int × Int × List Int)) × Int) ⊕ ((List (Int × Int × List Int)) × Int)) :=
  (if (decide (x1.2 < 44)) then (if (x1.2 == 6) then Option.bind (g_classify_logical.F self p0_0) fun y19 => (if x1.1.length + y19.length < 1000000000 then some (.inl ((x1.1 ++ y19), (w64 (x1.2 + 1)))) else none) else Option.bind (g_classify_newMatch.f p0_0) fun y38 => Option.bind (g_classify_match_kind.f y38.1 y38.2.1 y38.2.2.1 y38.2.2.2.1 y38.2.2.2.2 x1.2) fun y50 => Option.bind (g_classify_match_whole.f y38.1 y50.1 y50.2.2) fun y58 => (if y58 then (if x1.1.length + ([(x1.2, (-1), y50.2.1)] : List (Int × Int × List Int)).length < 1000000000 then some (.inl ((x1.1 ++ ([(x1.2, (-1), y50.2.1)] : List (Int × Int × List Int))), (w64 (x1.2 + 1)))) else none) else some (.inl (x1.1, (w64 (x1.2 + 1)))))) else some (.inr (x1.1, x1.2)))
noncomputable def g_classify_readings.F (self : (List UInt8) → Option ((List (Int × Int × List Int)))) (p0_0 : List UInt8) : Option ((List (Int × Int × List Int))) :=
  Option.bind (iter (g_classify_readings.b0 p0_0 self) (([] : List (Int × Int × List Int)), 0)) fun o8 => some o8.1
noncomputable def g_classify_readings.f (p0_0 : List UInt8) : Option ((List (Int × Int × List Int))) := fixO (fun self (x : List UInt8) => g_classify_readings.F self x) p0_0
set_option maxHeartbeats 4000000 in
theorem g_classify_readings.okN (n : Nat) : ∀ {p0_0 : List UInt8} {F : FZ} {r : (List (Int × Int × List Int))} (h : fixN (fun self (x : List UInt8) => g_classify_readings.F self x) n p0_0 = some r) (hG : Gl F),
    Cl EV 52 [strV p0_0] [] F (fun v S' F' => ∃ (ra1 : Option Addr) (rz2 : Nat) (rB4 : Seg), FLe F F' ∧ v = .slice ra1 r.length rz2 ∧ S' = [rB4] ∧ Own el24 F' ra1 rz2 r rB4) := by
 induction n with
 | zero => intros; rename_i h _; cases ‹fixN _ 0 _ = some _›
 | succ n ih =>
 intro p0_0 F r h hG
 refine Cl.of Tryz.func52 rfl (fun _ _ => rfl) (by kernel_rfl) fun s L nx0 hS => ?_
 replace h : g_classify_readings.F (fixN (fun self (x : List UInt8) => g_classify_readings.F self x) n) p0_0 = some r := h
 generalize hself : fixN (fun self (x : List UInt8) => g_classify_readings.F self x) n = self at h ih
 unfold g_classify_readings.F at h
 refine WW.seq (WW.region ?_)
 refine q_seg0 tbok hS 1 [] [2] [.slice none 0 0] [] (by kernel_rfl) fun s hS => (KW.nil ?_)
 refine WW.seq (WW.region ?_)
 refine q_seg0 tbok hS 1 [] [3] [.slice none 0 0] [] (by kernel_rfl) fun s hS => (KW.nil ?_)
 refine WW.seq (WW.seq ?_)
 refine WW.region (q_seg0 tbok hS 1 [] [6] [.int .i64 0] [] (by kernel_rfl) fun s hS => ?_)
 refine KW.nil (WW.block ?_)
 replace hS := hS.gap0
 obtain ⟨o8, ho8, h⟩ := bind_some h
 refine WW.loop (LW.iter ho8 (fun (x1 : (List (Int × Int × List Int)) × Int) s => ∃ (a4 : Option Addr) (z5 : Nat) (B7 : Seg) (F2 : FZ), Stt EV s [(0, strV p0_0), (2, .slice none 0 0), (3, .slice a4 x1.1.length z5), (6, .int .i64 x1.2)] [B7] F2 L F nx0 ∧ Own el24 F2 a4 z5 x1.1 B7 ∧ FLe F F2) (fun (y9 : (List (Int × Int × List Int)) × Int) e s => (e = .exit 0 ∧ ∃ (a12 : Option Addr) (z13 : Nat) (B15 : Seg) (F10 : FZ), Stt EV s [(0, strV p0_0), (2, .slice none 0 0), (3, .slice a12 y9.1.length z13), (6, .int .i64 y9.2)] [B15] F10 L F nx0 ∧ Own el24 F10 a12 z13 y9.1 B15 ∧ FLe F F10)) ⟨_, _, _, _, (hS.subR rfl), Own.nil, (FLe.refl _)⟩ ?_ ?_)
 clear hS
 rintro x1 s ⟨a4, z5, B7, F2, hS, h6, hF3⟩ o8' h16
 unfold g_classify_readings.b0 at h16
 refine WW.seq (WW.region ?_)
 refine q_seg0 tbok hS 1 [] [7] [.bool (decide (x1.2 < 44))] [] (by kernel_rfl) fun s hS => (KW.nil ?_)
 refine WW.seq (bc h16 (fun hc17 h16 => ?_) fun hc17 h16 => ?_)
 refine WW.condK hS rfl hc17 (WW.skip ?_)
 refine WW.seq (WW.block ?_)
 refine WW.seq (WW.region ?_)
 refine q_seg0 tbok hS 2 [] [4] [.int .i64 x1.2] [] (by kernel_rfl) fun s hS => (KW.nil ?_)
 refine WW.seq (WW.seq ?_)
 refine WW.region (q_seg0 tbok hS 2 [] [10] [.bool (x1.2 == 6)] [] (by kernel_rfl) fun s hS => ?_)
 refine KW.nil (bc h16 (fun hc18 h16 => ?_) fun hc18 h16 => ?_)
 refine WW.condK hS rfl hc18 (WW.seq ?_)
 refine WW.region (q_seg0 tbok hS 2 [] [11, 12] [.slice a4 x1.1.length z5, strV p0_0] [] (by kernel_rfl) fun s hS => ?_)
 obtain ⟨y19, hy19, h16⟩ := bind_some h16
 refine q_cl hS (wn rfl) (vs := [strV p0_0]) (ws := [strV p0_0]) rfl rfl rfl rfl rfl 0 rfl (g_classify_logical.okS (@ih) hy19 (hG.mono hF3)) fun s v S' F21 hp20 hF hS => ?_
 obtain ⟨a22, z23, B25, hF26, rfl, rfl, h24⟩ := hp20
 obtain ⟨F30, hF31, hS, hz32⟩ := hS.frzO h24
 obtain ⟨hk33, h16⟩ := ite_some h16
 refine q_apF hS (wn rfl) (dd := el24) (lst := x1.1) (m := y19) rfl rfl ta36_36 rfl rfl (h6.mono (FLe.trans hF26 hF31)) hz32 hk33 fun s a34 z35 B36 hO37 hS => (q_seg0 tbok hS 1 [] [3] [.slice a34 (x1.1 ++ y19).length z35] [] (by kernel_rfl) fun s hS => ?_)
 refine KW.nil (WW.exit ?_)
 refine thenQ_exit (blockQ_exit ?_)
 refine WW.region (q_seg0 tbok hS 2 [] [6] [.int .i64 (w64 (x1.2 + 1))] [] (by kernel_rfl) fun s hS => ?_)
 refine KW.nil ?_
 obtain rfl := Option.some.inj h16
 exact ⟨_, rfl, _, _, _, _, (hS.subR rfl), hO37, (FLe.trans hF3 (FLe.trans hF26 hF31))⟩
 refine WW.condF hS rfl hc18 (WW.skip ?_)
 refine WW.seq (WW.region ?_)
 obtain ⟨y38, hy38, h16⟩ := bind_some h16
 refine q_cK (g_classify_newMatch.ok hy38 (hG.mono hF3)) tbok hS 1 16 0 rfl (by kernel_rfl) fun s v S' F40 hp39 hF hS => ?_
 obtain ⟨i41, a42, z43, a45, z46, B48, hF49, rfl, rfl, h44, h47⟩ := hp39
 refine q_seg0 tbok hS 1 [] [5] [.pointer (some ⟨i41, 0, none⟩)] [] (by kernel_rfl) fun s hS => (KW.nil ?_)
 refine WW.seq (WW.region ?_)
 obtain ⟨y50, hy50, h16⟩ := bind_some h16
 refine q_cK (g_classify_match_kind.ok hy50 h44 h47 (hG.mono (FLe.trans hF3 hF49))) tbok hS 2 19 2 rfl (by kernel_rfl) fun s v S' F52 hp51 hF hS => ?_
 obtain ⟨a53, z54, B56, hF57, rfl, rfl, h55⟩ := hp51
 refine KW.nil (WW.seq ?_)
 refine WW.region ?_
 obtain ⟨y58, hy58, h16⟩ := bind_some h16
 refine q_cR (g_classify_match_whole.ok hy58) tbok hS 1 21 2 rfl (by kernel_rfl) fun s hS => (KW.nil ?_)
 refine bc h16 (fun hc60 h16 => ?_) fun hc60 h16 => ?_
 refine WW.condK hS rfl hc60 (WW.region ?_)
 refine q_seg0 tbok hS 6 [0] [22, 23, 27] [.slice a4 x1.1.length z5, .int .i64 x1.2, .slice a53 y50.2.1.length z54] [i41] (by kernel_rfl) fun s hS => (q_pu hS (wn rfl) rfl rfl rfl (v := .agg #[.int .i64 x1.2, .int .i64 (-1), .slice a53 y50.2.1.length z54]) (aop_bld t0_24 tp24 [(0, .int .i64 x1.2), (1, .int .i64 (-1)), (2, .slice a53 y50.2.1.length z54)] (parts_eq hS rfl) (cs := [.int .i64 x1.2, .int .i64 (-1), .slice a53 y50.2.1.length z54]) rfl) fun s hS => ?_)
 replace hS := hS.pull 1
 obtain ⟨F61, hF62, hS, hz63⟩ := hS.frzO h55
 refine q_nw hS (wn rfl) rfl rfl rfl (v := fun i => .slice (some ⟨i, 0, none⟩) 1 3) (b := .row [.int .i64 x1.2, .int .i64 (-1), .slice a53 y50.2.1.length z54] 24 3 true) (aop_bsl tu36 tz24 t0_24 rfl [(0, .agg #[.int .i64 x1.2, .int .i64 (-1), .slice a53 y50.2.1.length z54])] (parts_eq hS rfl) rfl) fun s i64 hS => ?_
 have hC65 : Cells el24 F61 ([(x1.2, (-1), y50.2.1)] : List (Int × Int × List Int)) [.int .i64 x1.2, .int .i64 (-1), .slice a53 y50.2.1.length z54] := ⟨[.int .i64 x1.2, .int .i64 (-1), .slice a53 y50.2.1.length z54], [], rfl, ⟨_, _, rfl, hz63⟩, rfl⟩
 obtain ⟨hk69, h16⟩ := ite_some h16
 replace hS := hS.pull 2
 replace hS := hS.pull 1
 refine q_app hS (wn rfl) (dd := el24) (lst := x1.1) (m := ([(x1.2, (-1), y50.2.1)] : List (Int × Int × List Int))) rfl rfl ta36_36 rfl rfl (h6.mono (FLe.trans hF49 (FLe.trans hF57 hF62))) (Nat.succ_pos _) hC65 hk69 fun s i66 cs67 hC68 hS => (q_seg0 tbok hS 1 [] [3] [.slice (some ⟨i66, 0, none⟩) (x1.1 ++ ([(x1.2, (-1), y50.2.1)] : List (Int × Int × List Int))).length 3] [] (by kernel_rfl) fun s hS => ?_)
 refine KW.nil (WW.region ?_)
 refine q_seg0 tbok hS 2 [] [6] [.int .i64 (w64 (x1.2 + 1))] [] (by kernel_rfl) fun s hS => (KW.nil ?_)
 replace hS := (hS.pull 1).drop
 obtain rfl := Option.some.inj h16
 exact ⟨_, rfl, _, _, _, _, (hS.subR rfl), (Own.blk0 hC68), (FLe.trans hF3 (FLe.trans hF49 (FLe.trans hF57 hF62)))⟩
 refine WW.condF hS rfl hc60 (WW.skip ?_)
 refine WW.region (q_seg0 tbok hS 2 [] [6] [.int .i64 (w64 (x1.2 + 1))] [] (by kernel_rfl) fun s hS => ?_)
 refine KW.nil ?_
 replace hS := hS.drop
 replace hS := hS.drop
 obtain rfl := Option.some.inj h16
 exact ⟨_, rfl, _, _, _, _, (hS.subR rfl), (h6.mono (FLe.trans hF49 hF57)), (FLe.trans hF3 (FLe.trans hF49 hF57))⟩
 refine WW.condF hS rfl hc17 (WW.exit ?_)
 refine thenQ_exit ?_
 obtain rfl := Option.some.inj h16
 exact ⟨_, rfl, rfl, _, _, _, _, (hS.subR rfl), h6, hF3⟩
 clear hS
 rintro e s ⟨rfl, a72, z73, B75, F70, hS, h74, hF71⟩
 refine blockQ_exit (WW.seq ?_)
 refine WW.region (q_seg0 tbok hS 2 [] [2] [.slice a72 o8.1.length z73] [] (by kernel_rfl) fun s hS => ?_)
 refine KW.nil (WW.ret ?_)
 cases h
 exact fin1 hS (.inr rfl) 2 rfl rfl ⟨_, _, _, (hF71), rfl, rfl, h74⟩
theorem g_classify_readings.ok {p0_0 : List UInt8} {F : FZ} {r : (List (Int × Int × List Int))} (h : g_classify_readings.f p0_0 = some r) (hG : Gl F) :
    Cl EV 52 [strV p0_0] [] F (fun v S' F' => ∃ (ra1 : Option Addr) (rz2 : Nat) (rB4 : Seg), FLe F F' ∧ v = .slice ra1 r.length rz2 ∧ S' = [rB4] ∧ Own el24 F' ra1 rz2 r rB4) := by
  obtain ⟨n, hn⟩ := fixO_some h
  exact g_classify_readings.okN n hn hG
/-! ### formulary/classify.ReadingsOf (19) -/
noncomputable def g_classify_ReadingsOf.f (p0_0 : List UInt8) : Option ((List (Int × Int × List Int)) × Int) :=
  Option.bind (g_classify_textErr.f p0_0) fun y1 => (if (y1 != 0) then some (([] : List (Int × Int × List Int)), y1) else Option.bind (g_classify_readings.f p0_0) fun y6 => some (y6, 0))
set_option maxHeartbeats 4000000 in
theorem g_classify_ReadingsOf.ok {p0_0 : List UInt8} {F : FZ} {r : (List (Int × Int × List Int)) × Int} (h : g_classify_ReadingsOf.f p0_0 = some r) (hG : Gl F) :
    Cl EV 19 [strV p0_0] [] F (fun v S' F' => ∃ (ra1 : Option Addr) (rz2 : Nat) (rB4 : Seg), FLe F F' ∧ v = .tuple #[.slice ra1 r.1.length rz2, .int .i64 r.2] ∧ S' = [rB4] ∧ Own el24 F' ra1 rz2 r.1 rB4) := by
 refine Cl.of Tryz.func19 rfl (fun _ _ => rfl) (by kernel_rfl) fun s L nx0 hS => ?_
 unfold g_classify_ReadingsOf.f at h
 refine WW.seq (WW.region ?_)
 refine q_seg0 tbok hS 2 [] [2, 3] [.slice none 0 0, .int .i64 0] [] (by kernel_rfl) fun s hS => (KW.nil ?_)
 refine WW.seq (WW.seq ?_)
 refine WW.region ?_
 obtain ⟨y1, hy1, h⟩ := bind_some h
 refine q_cK (g_classify_textErr.ok hy1 hG) tbok hS 1 6 0 rfl (by kernel_rfl) fun s v S' F3 hp2 hF hS => ?_
 obtain ⟨hF4, rfl, rfl⟩ := hp2
 refine q_seg0 tbok hS 1 [] [4] [.int .i64 y1] [] (by kernel_rfl) fun s hS => (KW.nil ?_)
 refine WW.seq (WW.region ?_)
 refine q_seg0 tbok hS 2 [] [8] [.bool (y1 != 0)] [] (by kernel_rfl) fun s hS => (KW.nil ?_)
 refine bc h (fun hc5 h => ?_) fun hc5 h => ?_
 refine WW.condK hS rfl hc5 (WW.seq ?_)
 refine WW.region (q_seg0 tbok hS 3 [] [2, 3] [.slice none 0 0, .int .i64 y1] [] (by kernel_rfl) fun s hS => ?_)
 refine KW.nil (WW.ret ?_)
 replace hS := hS.gap0
 cases h
 exact fin2 hS (.inr rfl) 2 3 rfl rfl rfl ⟨_, _, _, (hF4), rfl, rfl, Own.nil⟩
 refine WW.condF hS rfl hc5 (WW.skip ?_)
 refine WW.seq (WW.region ?_)
 obtain ⟨y6, hy6, h⟩ := bind_some h
 refine q_cK (g_classify_readings.ok hy6 (hG.mono hF4)) tbok hS 1 11 0 rfl (by kernel_rfl) fun s v S' F8 hp7 hF hS => ?_
 obtain ⟨a9, z10, B12, hF13, rfl, rfl, h11⟩ := hp7
 refine q_seg0 tbok hS 2 [] [2, 3] [.slice a9 y6.length z10, .int .i64 0] [] (by kernel_rfl) fun s hS => (KW.nil ?_)
 refine WW.ret ?_
 cases h
 exact fin2 hS (.inr rfl) 2 3 rfl rfl rfl ⟨_, _, _, ((FLe.trans hF4 hF13)), rfl, rfl, h11⟩
/-! ### formulary/classify.ofKind$1 (86) -/
noncomputable def g_classify_ofKind_1.f (p0_0 : Int) (p1_1 : Int) : Option (Bool) :=
  some (p0_0 == p1_1)
set_option maxHeartbeats 4000000 in
theorem g_classify_ofKind_1.ok {ap0_4 : Option Addr} {zp0_5 : Nat} {ip1_1 : Nat} {p0_0 : Int} {p0_1 : Int} {p0_2 : List Int} {p1_1 : Int} {F : FZ} {r : Bool} (h : g_classify_ofKind_1.f p0_0 p1_1 = some r) :
    Cl EV 86 [.agg #[.int .i64 p0_0, .int .i64 p0_1, .slice ap0_4 p0_2.length zp0_5], .pointer (some ⟨ip1_1, 0, none⟩)] [[(ip1_1, .row [.int .i64 p1_1] 3 0 true)]] F (fun v S' F' => F = F' ∧ v = .bool r ∧ S' = [[(ip1_1, .row [.int .i64 p1_1] 3 0 true)]]) := by
 refine Cl.of Tryz.func86 rfl (fun _ _ => rfl) (by kernel_rfl) fun s L nx0 hS => ?_
 unfold g_classify_ofKind_1.f at h
 refine WW.seq (WW.region ?_)
 refine q_nw hS (wn rfl) rfl rfl rfl (v := fun i => .pointer (some ⟨i, 0, none⟩)) (b := .row [.int .i64 p0_0, .int .i64 p0_1, .slice ap0_4 p0_2.length zp0_5] 24 0 true) (aop_box (hS.lk rfl) rfl [.int .i64 p0_0, .int .i64 p0_1, .slice ap0_4 p0_2.length zp0_5] rfl) fun s i1 hS => (q_seg0 tbok hS 1 [] [3] [.bool false] [] (by kernel_rfl) fun s hS => ?_)
 refine KW.nil (WW.seq ?_)
 refine WW.region (q_seg0 tbok hS 5 [0, 1] [3] [.bool (p0_0 == p1_1)] [i1, ip1_1] (by kernel_rfl) fun s hS => ?_)
 refine KW.nil (WW.ret ?_)
 replace hS := hS.drop
 cases h
 exact fin1 hS (.inr rfl) 3 rfl rfl ⟨rfl, rfl, rfl⟩
/-! ### slices.IndexFunc[[]formulary/api.Reading,formulary/api.Reading] (81) -/
noncomputable def g_slices_IndexFunc_api_Reading_api_Reading_1.b0 (p0_0 : List (Int × Int × List Int)) (p1_1 : Int) (x1 : Int) : Option ((Int) ⊕ ((Int) ⊕ (Int))) :=
  (if (decide (x1 < (p0_0.length : Int))) then (if 0 ≤ x1 ∧ x1 < (p0_0.length : Int) then Option.bind (g_classify_ofKind_1.f ((gt p0_0 x1).1) p1_1) fun y18 => (if y18 then some (.inr (.inr x1)) else some (.inl (w64 (x1 + 1)))) else none) else some (.inr (.inl x1)))
noncomputable def g_slices_IndexFunc_api_Reading_api_Reading_1.f (p0_0 : List (Int × Int × List Int)) (p1_1 : Int) : Option (Int) :=
  Option.bind (iter (g_slices_IndexFunc_api_Reading_api_Reading_1.b0 p0_0 p1_1) 0) fun o2 => onSum o2 fun y21 => some (-1)
set_option maxHeartbeats 4000000 in
theorem g_slices_IndexFunc_api_Reading_api_Reading_1.ok {ap0_2 : Option Addr} {zp0_3 : Nat} {ip1_1 : Nat} {p0_0 : List (Int × Int × List Int)} {p1_1 : Int} {F : FZ} {r : Int} (h : g_slices_IndexFunc_api_Reading_api_Reading_1.f p0_0 p1_1 = some r) (hp0_4 : Frz el24 F ap0_2 zp0_3 p0_0) :
    Cl EV 81 [.slice ap0_2 p0_0.length zp0_3, .func (.func 86) #[] #[.pointer (some ⟨ip1_1, 0, none⟩)]] [[(ip1_1, .row [.int .i64 p1_1] 3 0 true)]] F (fun v S' F' => F = F' ∧ v = .int .i64 r ∧ S' = [[(ip1_1, .row [.int .i64 p1_1] 3 0 true)]]) := by
 refine Cl.of Tryz.func81 rfl (fun _ _ => rfl) (by kernel_rfl) fun s L nx0 hS => ?_
 unfold g_slices_IndexFunc_api_Reading_api_Reading_1.f at h
 refine WW.seq (WW.region ?_)
 refine q_seg0 tbok hS 1 [] [4] [.int .i64 0] [] (by kernel_rfl) fun s hS => (KW.nil ?_)
 refine WW.seq (WW.seq ?_)
 refine WW.region (q_seg0 tbok hS 3 [] [7, 8] [.int .i64 (p0_0.length : Int), .int .i64 0] [] (by kernel_rfl) fun s hS => ?_)
 refine KW.nil (WW.block ?_)
 obtain ⟨o2, ho2, h⟩ := bind_some h
 refine WW.loop (LW.iter ho2 (fun (x1 : Int) s => Stt EV s [(0, .slice ap0_2 p0_0.length zp0_3), (1, .func (.func 86) #[] #[.pointer (some ⟨ip1_1, 0, none⟩)]), (4, .int .i64 0), (7, .int .i64 (p0_0.length : Int)), (8, .int .i64 x1)] [[(ip1_1, .row [.int .i64 p1_1] 3 0 true)]] F L F nx0) (fun (o : (Int) ⊕ (Int)) e s => match o with | .inl y3 => (e = .exit 0 ∧ Stt EV s [(0, .slice ap0_2 p0_0.length zp0_3), (1, .func (.func 86) #[] #[.pointer (some ⟨ip1_1, 0, none⟩)]), (4, .int .i64 0), (7, .int .i64 (p0_0.length : Int)), (8, .int .i64 y3)] [[(ip1_1, .row [.int .i64 p1_1] 3 0 true)]] F L F nx0) | .inr r => (e = .ret ∧ FinQ EV Tryz.f81 L F nx0 (fun v S' F' => F = F' ∧ v = .int .i64 r ∧ S' = [[(ip1_1, .row [.int .i64 p1_1] 3 0 true)]]) e s)) (hS.subR rfl) ?_ ?_)
 clear hS
 rintro x1 s hS o2' h4
 unfold g_slices_IndexFunc_api_Reading_api_Reading_1.b0 at h4
 refine WW.seq (WW.region ?_)
 refine q_seg0 tbok hS 1 [] [9] [.bool (decide (x1 < (p0_0.length : Int)))] [] (by kernel_rfl) fun s hS => (KW.nil ?_)
 refine WW.seq (bc h4 (fun hc5 h4 => ?_) fun hc5 h4 => ?_)
 refine WW.condK hS rfl hc5 (WW.skip ?_)
 refine WW.seq (WW.block ?_)
 refine WW.seq (WW.region ?_)
 refine q_seg0 tbok hS 2 [] [5] [.int .i64 x1] [] (by kernel_rfl) fun s hS => (KW.nil ?_)
 refine WW.seq (WW.region ?_)
 refine q_seg0 tbok hS 3 [] [11, 12, 13] [.func (.func 86) #[] #[.pointer (some ⟨ip1_1, 0, none⟩)], .slice ap0_2 p0_0.length zp0_3, .int .i64 x1] [] (by kernel_rfl) fun s hS => ?_
 obtain ⟨hk6, h4⟩ := ite_some h4
 obtain ⟨i12, of13, rfl⟩ := Frz.addr hp0_4 (by omega)
 obtain ⟨_, _, _, _, c7, hF14, hR8, hN9, hN10, hT11⟩ := Frz.at hp0_4 hk6 (m := 3) rfl
 obtain ⟨a15, z16, rfl, hz17⟩ := hR8
 refine q_pu hS (wn rfl) rfl rfl rfl (v := .pointer (some ⟨i12, of13 + (x1).toNat * 3, none⟩)) (aop_ia (hS.lk rfl) (hS.lk rfl) te36 hk6) fun s hS => (q_ldA hS (wn rfl) rfl rfl rfl (hS.fat hF14) tg24 tz24 (vs := [.int .i64 ((gt p0_0 x1).1), .int .i64 ((gt p0_0 x1).2.1), .slice a15 ((gt p0_0 x1).2.2).length z16]) hT11 fun s hS => ?_)
 obtain ⟨y18, hy18, h4⟩ := bind_some h4
 refine q_cR (ws := [.agg #[.int .i64 ((gt p0_0 x1).1), .int .i64 ((gt p0_0 x1).2.1), .slice a15 ((gt p0_0 x1).2.2).length z16], .pointer (some ⟨ip1_1, 0, none⟩)]) (g_classify_ofKind_1.ok hy18) tbok hS 0 16 1 rfl (by kernel_rfl) fun s hS => (KW.nil ?_)
 refine bc h4 (fun hc20 h4 => ?_) fun hc20 h4 => ?_
 refine WW.condK hS rfl hc20 (WW.seq ?_)
 refine WW.region (q_seg0 tbok hS 2 [] [4] [.int .i64 x1] [] (by kernel_rfl) fun s hS => ?_)
 refine KW.nil (WW.ret ?_)
 cases h4
 exact ⟨_, rfl, rfl, fin1 hS (.inr rfl) 4 rfl rfl ⟨rfl, rfl, rfl⟩⟩
 refine WW.condF hS rfl hc20 (WW.skip ?_)
 refine WW.region (q_seg0 tbok hS 2 [] [8] [.int .i64 (w64 (x1 + 1))] [] (by kernel_rfl) fun s hS => ?_)
 refine KW.nil ?_
 obtain rfl := Option.some.inj h4
 exact ⟨_, rfl, (hS.subR rfl)⟩
 refine WW.condF hS rfl hc5 (WW.exit ?_)
 refine thenQ_exit ?_
 obtain rfl := Option.some.inj h4
 exact ⟨_, rfl, rfl, (hS.subR rfl)⟩
 clear hS
 rcases o2 with y21 | y21
 rintro e s ⟨rfl, hS⟩
 replace h := match_inl h
 refine blockQ_exit (WW.seq ?_)
 refine WW.region (q_seg0 tbok hS 1 [] [4] [.int .i64 (-1)] [] (by kernel_rfl) fun s hS => ?_)
 refine KW.nil (WW.ret ?_)
 cases h
 exact fin1 hS (.inr rfl) 4 rfl rfl ⟨rfl, rfl, rfl⟩
 rintro e s ⟨rfl, hfin⟩
 replace h := match_inr h
 obtain rfl := Option.some.inj h
 exact hfin
/-! ### formulary/classify.ofKind (53) -/
noncomputable def g_classify_ofKind.f (p0_0 : List (Int × Int × List Int)) (p1_0 : Int) : Option (Int × Int × List Int × Bool) :=
  Option.bind (g_slices_IndexFunc_api_Reading_api_Reading_1.f p0_0 p1_0) fun y3 => (if (decide (y3 < 0)) then some (0, 0, ([] : List Int), false) else (if 0 ≤ y3 ∧ y3 < (p0_0.length : Int) then some (((gt p0_0 y3).1), ((gt p0_0 y3).2.1), ((gt p0_0 y3).2.2), true) else none))
set_option maxHeartbeats 4000000 in
theorem g_classify_ofKind.ok {ap0_2 : Option Addr} {zp0_3 : Nat} {p0_0 : List (Int × Int × List Int)} {p1_0 : Int} {F : FZ} {r : Int × Int × List Int × Bool} (h : g_classify_ofKind.f p0_0 p1_0 = some r) (hp0_4 : Frz el24 F ap0_2 zp0_3 p0_0) :
    Cl EV 53 [.slice ap0_2 p0_0.length zp0_3, .int .i64 p1_0] [] F (fun v S' F' => ∃ (ra1 : Option Addr) (rz2 : Nat), F = F' ∧ v = .tuple #[.agg #[.int .i64 r.1, .int .i64 r.2.1, .slice ra1 r.2.2.1.length rz2], .bool r.2.2.2] ∧ S' = [] ∧ Frz (elI .i64 3) F' ra1 rz2 r.2.2.1) := by
 refine Cl.of Tryz.func53 rfl (fun _ _ => rfl) (by kernel_rfl) fun s L nx0 hS => ?_
 unfold g_classify_ofKind.f at h
 refine WW.seq (WW.region ?_)
 refine q_nw hS (wn rfl) rfl rfl rfl (v := fun i => .pointer (some ⟨i, 0, none⟩)) (b := .row [.int .i64 p1_0] 3 0 true) (aop_box (hS.lk rfl) rfl [.int .i64 p1_0] rfl) fun s i1 hS => (q_nw hS (wn rfl) rfl rfl rfl (v := fun i => .pointer (some ⟨i, 0, none⟩)) (b := .row [.int .i64 0, .int .i64 0, .slice none 0 0] 24 0 true) (aop_alloc t0_24) fun s i2 hS => ?_)
 refine q_seg0 tbok hS 1 [] [5] [.bool false] [] (by kernel_rfl) fun s hS => (KW.nil ?_)
 refine WW.seq (WW.region ?_)
 refine q_seg0 tbok hS 1 [] [7] [.slice ap0_2 p0_0.length zp0_3] [] (by kernel_rfl) fun s hS => (q_pu hS (wn rfl) rfl rfl rfl (v := .func (.func 86) #[] #[.pointer (some ⟨i1, 0, none⟩)]) (aop_mf (map_lk hS (vs := []) rfl) (map_lk hS (vs := [.pointer (some ⟨i1, 0, none⟩)]) rfl)) fun s hS => ?_)
 obtain ⟨y3, hy3, h⟩ := bind_some h
 replace hS := hS.pull 1
 refine q_cR (g_slices_IndexFunc_api_Reading_api_Reading_1.ok hy3 hp0_4) tbok hS 0 9 1 rfl (by kernel_rfl) fun s hS => (q_seg0 tbok hS 1 [] [6] [.int .i64 y3] [] (by kernel_rfl) fun s hS => ?_)
 refine KW.nil (WW.seq ?_)
 refine WW.seq (WW.region ?_)
 refine q_seg0 tbok hS 2 [] [11] [.bool (decide (y3 < 0))] [] (by kernel_rfl) fun s hS => (KW.nil ?_)
 refine bc h (fun hc5 h => ?_) fun hc5 h => ?_
 refine WW.condK hS rfl hc5 (WW.seq ?_)
 refine WW.region (q_pu hS (wn rfl) rfl rfl rfl (v := .agg #[.int .i64 0, .int .i64 0, .slice none 0 0]) (aop_bld t0_24 tp24 [] (parts_eq hS rfl) (cs := [.int .i64 0, .int .i64 0, .slice none 0 0]) rfl) fun s hS => ?_)
 refine q_seg tbok hS 2 [1] [5] [.bool false] [i2] [[(i1, .row [.int .i64 p1_0] 3 0 true)], [(i2, .row [.int .i64 0, .int .i64 0, .slice none 0 0] 24 0 true)]] (by kernel_rfl) fun s hS => (KW.nil ?_)
 refine WW.ret ?_
 have hres := (res_cell hS (t := 4) (ty := 24) rfl (p := 1) rfl tg24 tz24 (ws := [.int .i64 0, .int .i64 0, .slice none ([] : List Int).length 0]) rfl (res_tmp hS (t := 5) (v := .bool false) rfl (res_nil (E := EV) (s := s))))
 replace hS := hS.drop
 replace hS := hS.drop
 cases h
 exact fin hS (.inr rfl) hres (v := .tuple #[.agg #[.int .i64 0, .int .i64 0, .slice none ([] : List Int).length 0], .bool false]) rfl ⟨_, _, rfl, rfl, rfl, Frz.nil⟩
 refine WW.condF hS rfl hc5 (WW.skip ?_)
 refine WW.seq (WW.region ?_)
 refine q_seg0 tbok hS 2 [] [13, 14] [.slice ap0_2 p0_0.length zp0_3, .int .i64 y3] [] (by kernel_rfl) fun s hS => ?_
 obtain ⟨hk6, h⟩ := ite_some h
 obtain ⟨i12, of13, rfl⟩ := Frz.addr hp0_4 (by omega)
 obtain ⟨_, _, _, _, c7, hF14, hR8, hN9, hN10, hT11⟩ := Frz.at hp0_4 hk6 (m := 3) rfl
 obtain ⟨a15, z16, rfl, hz17⟩ := hR8
 refine q_pu hS (wn rfl) rfl rfl rfl (v := .pointer (some ⟨i12, of13 + (y3).toNat * 3, none⟩)) (aop_ia (hS.lk rfl) (hS.lk rfl) te36 hk6) fun s hS => (q_ldA hS (wn rfl) rfl rfl rfl (hS.fat hF14) tg24 tz24 (vs := [.int .i64 ((gt p0_0 y3).1), .int .i64 ((gt p0_0 y3).2.1), .slice a15 ((gt p0_0 y3).2.2).length z16]) hT11 fun s hS => ?_)
 refine q_seg tbok hS 2 [1] [5] [.bool true] [i2] [[(i1, .row [.int .i64 p1_0] 3 0 true)], [(i2, .row [.int .i64 ((gt p0_0 y3).1), .int .i64 ((gt p0_0 y3).2.1), .slice a15 ((gt p0_0 y3).2.2).length z16] 24 0 true)]] (by kernel_rfl) fun s hS => (KW.nil ?_)
 refine WW.ret ?_
 have hres := (res_cell hS (t := 4) (ty := 24) rfl (p := 1) rfl tg24 tz24 (ws := [.int .i64 ((gt p0_0 y3).1), .int .i64 ((gt p0_0 y3).2.1), .slice a15 ((gt p0_0 y3).2.2).length z16]) rfl (res_tmp hS (t := 5) (v := .bool true) rfl (res_nil (E := EV) (s := s))))
 replace hS := hS.drop
 replace hS := hS.drop
 cases h
 exact fin hS (.inr rfl) hres (v := .tuple #[.agg #[.int .i64 ((gt p0_0 y3).1), .int .i64 ((gt p0_0 y3).2.1), .slice a15 ((gt p0_0 y3).2.2).length z16], .bool true]) rfl ⟨_, _, rfl, rfl, rfl, hz17⟩
/-! ### formulary/classify.Classify (20) -/
noncomputable def g_classify_Classify.f (p0_0 : List UInt8) (p1_0 : Bool) : Option (Int × Int × List Int × Int) :=
  Option.bind (g_classify_ReadingsOf.f p0_0) fun y2 => (if (y2.2 != 0) then some (0, 0, ([] : List Int), y2.2) else (if ((y2.1.length : Int) == 0) then some (0, 0, ([] : List Int), 12) else (if ((y2.1.length : Int) == 1) then (if 0 ≤ (0 : Int) ∧ (0 : Int) < (y2.1.length : Int) then some (((gt y2.1 (0 : Int)).1), ((gt y2.1 (0 : Int)).2.1), ((gt y2.1 (0 : Int)).2.2), 0) else none) else Option.bind (g_classify_ofKind.f y2.1 40) fun y29 => (if (y29.2.2.2 && p1_0) then some (y29.1, y29.2.1, y29.2.2.1, 0) else some (0, 0, ([] : List Int), 30)))))
set_option maxHeartbeats 4000000 in
theorem g_classify_Classify.ok {p0_0 : List UInt8} {p1_0 : Bool} {F : FZ} {r : Int × Int × List Int × Int} (h : g_classify_Classify.f p0_0 p1_0 = some r) (hG : Gl F) :
    Cl EV 20 [strV p0_0, .bool p1_0] [] F (fun v S' F' => ∃ (ra1 : Option Addr) (rz2 : Nat), FLe F F' ∧ v = .tuple #[.agg #[.int .i64 r.1, .int .i64 r.2.1, .slice ra1 r.2.2.1.length rz2], .int .i64 r.2.2.2] ∧ S' = [] ∧ Frz (elI .i64 3) F' ra1 rz2 r.2.2.1) := by
 refine Cl.of Tryz.func20 rfl (fun _ _ => rfl) (by kernel_rfl) fun s L nx0 hS => ?_
 unfold g_classify_Classify.f at h
 refine WW.seq (WW.region ?_)
 refine q_nw hS (wn rfl) rfl rfl rfl (v := fun i => .pointer (some ⟨i, 0, none⟩)) (b := .row [.int .i64 0, .int .i64 0, .slice none 0 0] 24 0 true) (aop_alloc t0_24) fun s i1 hS => (q_seg0 tbok hS 1 [] [5] [.int .i64 0] [] (by kernel_rfl) fun s hS => ?_)
 refine KW.nil (WW.seq ?_)
 refine WW.region ?_
 obtain ⟨y2, hy2, h⟩ := bind_some h
 refine q_cK (g_classify_ReadingsOf.ok hy2 hG) tbok hS 1 12 0 rfl (by kernel_rfl) fun s v S' F4 hp3 hF hS => ?_
 obtain ⟨a5, z6, B8, hF9, rfl, rfl, h7⟩ := hp3
 refine q_seg0 tbok hS 5 [] [6, 7] [.slice a5 y2.1.length z6, .int .i64 y2.2] [] (by kernel_rfl) fun s hS => (KW.nil ?_)
 refine WW.seq (WW.seq ?_)
 refine WW.region (q_seg0 tbok hS 2 [] [16] [.bool (y2.2 != 0)] [] (by kernel_rfl) fun s hS => ?_)
 refine KW.nil (bc h (fun hc10 h => ?_) fun hc10 h => ?_)
 refine WW.condK hS rfl hc10 (WW.seq ?_)
 refine WW.region (q_pu hS (wn rfl) rfl rfl rfl (v := .agg #[.int .i64 0, .int .i64 0, .slice none 0 0]) (aop_bld t0_24 tp24 [] (parts_eq hS rfl) (cs := [.int .i64 0, .int .i64 0, .slice none 0 0]) rfl) fun s hS => ?_)
 refine q_seg tbok hS 3 [1] [5] [.int .i64 y2.2] [i1] [B8, [(i1, .row [.int .i64 0, .int .i64 0, .slice none 0 0] 24 0 true)]] (by kernel_rfl) fun s hS => (KW.nil ?_)
 refine WW.ret ?_
 have hres := (res_cell hS (t := 4) (ty := 24) rfl (p := 1) rfl tg24 tz24 (ws := [.int .i64 0, .int .i64 0, .slice none ([] : List Int).length 0]) rfl (res_tmp hS (t := 5) (v := .int .i64 y2.2) rfl (res_nil (E := EV) (s := s))))
 replace hS := hS.drop
 replace hS := hS.drop
 cases h
 exact fin hS (.inr rfl) hres (v := .tuple #[.agg #[.int .i64 0, .int .i64 0, .slice none ([] : List Int).length 0], .int .i64 y2.2]) rfl ⟨_, _, (hF9), rfl, rfl, Frz.nil⟩
 refine WW.condF hS rfl hc10 (WW.skip ?_)
 refine WW.seq (WW.seq ?_)
 refine WW.region (q_seg0 tbok hS 2 [] [20] [.int .i64 (y2.1.length : Int)] [] (by kernel_rfl) fun s hS => ?_)
 refine KW.nil (WW.block ?_)
 refine WW.seq (WW.region ?_)
 refine q_seg0 tbok hS 2 [] [21] [.bool ((y2.1.length : Int) == 0)] [] (by kernel_rfl) fun s hS => (KW.nil ?_)
 refine bc h (fun hc11 h => ?_) fun hc11 h => ?_
 refine WW.condK hS rfl hc11 (WW.seq ?_)
 refine WW.region (q_pu hS (wn rfl) rfl rfl rfl (v := .agg #[.int .i64 0, .int .i64 0, .slice none 0 0]) (aop_bld t0_24 tp24 [] (parts_eq hS rfl) (cs := [.int .i64 0, .int .i64 0, .slice none 0 0]) rfl) fun s hS => ?_)
 refine q_seg tbok hS 2 [1] [5] [.int .i64 12] [i1] [B8, [(i1, .row [.int .i64 0, .int .i64 0, .slice none 0 0] 24 0 true)]] (by kernel_rfl) fun s hS => (KW.nil ?_)
 refine WW.ret ?_
 have hres := (res_cell hS (t := 4) (ty := 24) rfl (p := 1) rfl tg24 tz24 (ws := [.int .i64 0, .int .i64 0, .slice none ([] : List Int).length 0]) rfl (res_tmp hS (t := 5) (v := .int .i64 12) rfl (res_nil (E := EV) (s := s))))
 replace hS := hS.drop
 replace hS := hS.drop
 cases h
 exact fin hS (.inr rfl) hres (v := .tuple #[.agg #[.int .i64 0, .int .i64 0, .slice none ([] : List Int).length 0], .int .i64 12]) rfl ⟨_, _, (hF9), rfl, rfl, Frz.nil⟩
 refine WW.condF hS rfl hc11 (WW.seq ?_)
 refine WW.region (q_seg0 tbok hS 2 [] [24] [.bool ((y2.1.length : Int) == 1)] [] (by kernel_rfl) fun s hS => ?_)
 refine KW.nil (bc h (fun hc12 h => ?_) fun hc12 h => ?_)
 refine WW.condK hS rfl hc12 (WW.seq ?_)
 refine WW.region (q_seg0 tbok hS 1 [] [26] [.slice a5 y2.1.length z6] [] (by kernel_rfl) fun s hS => ?_)
 obtain ⟨hk13, h⟩ := ite_some h
 obtain ⟨i19, cs20, ex21, rfl, rfl, rfl, hC22⟩ := Own.some_ h7 (by omega)
 obtain ⟨c14, hR15, hN17, hN16, hT18⟩ := Cells.loadF hC22 ex21 hk13 (z := 3) rfl
 obtain ⟨a23, z24, rfl, hz25⟩ := hR15
 refine q_pu hS (wn rfl) rfl rfl rfl (v := .pointer (some ⟨i19, 0 + ((0 : Int)).toNat * 3, none⟩)) (aop_ia (hS.lk rfl) (hS.lk rfl) te36 hk13) fun s hS => (q_ldA hS (wn rfl) rfl rfl rfl (hS.at (k := 0) rfl) tg24 tz24 (vs := [.int .i64 ((gt y2.1 (0 : Int)).1), .int .i64 ((gt y2.1 (0 : Int)).2.1), .slice a23 ((gt y2.1 (0 : Int)).2.2).length z24]) hT18 fun s hS => ?_)
 refine q_seg tbok hS 2 [1] [5] [.int .i64 0] [i1] [[(i19, .row (cs20 ++ ex21) 24 3 true)], [(i1, .row [.int .i64 ((gt y2.1 (0 : Int)).1), .int .i64 ((gt y2.1 (0 : Int)).2.1), .slice a23 ((gt y2.1 (0 : Int)).2.2).length z24] 24 0 true)]] (by kernel_rfl) fun s hS => (KW.nil ?_)
 refine WW.ret ?_
 have hres := (res_cell hS (t := 4) (ty := 24) rfl (p := 1) rfl tg24 tz24 (ws := [.int .i64 ((gt y2.1 (0 : Int)).1), .int .i64 ((gt y2.1 (0 : Int)).2.1), .slice a23 ((gt y2.1 (0 : Int)).2.2).length z24]) rfl (res_tmp hS (t := 5) (v := .int .i64 0) rfl (res_nil (E := EV) (s := s))))
 replace hS := hS.drop
 replace hS := hS.drop
 cases h
 exact fin hS (.inr rfl) hres (v := .tuple #[.agg #[.int .i64 ((gt y2.1 (0 : Int)).1), .int .i64 ((gt y2.1 (0 : Int)).2.1), .slice a23 ((gt y2.1 (0 : Int)).2.2).length z24], .int .i64 0]) rfl ⟨_, _, (hF9), rfl, rfl, hz25⟩
 refine WW.condF hS rfl hc12 (WW.skip ?_)
 refine WW.seq (WW.seq ?_)
 refine WW.region ?_
 obtain ⟨F26, hF27, hS, hz28⟩ := hS.frzO h7
 obtain ⟨y29, hy29, h⟩ := bind_some h
 refine q_cK (g_classify_ofKind.ok hy29 hz28) tbok hS 1 31 0 rfl (by kernel_rfl) fun s v S' F' hp30 hF hS => ?_
 obtain ⟨a31, z32, rfl, rfl, rfl, h33⟩ := hp30
 refine q_seg0 tbok hS 3 [] [32, 33] [.agg #[.int .i64 y29.1, .int .i64 y29.2.1, .slice a31 y29.2.2.1.length z32], .bool y29.2.2.2] [] (by kernel_rfl) fun s hS => (q_nw hS (wn rfl) rfl rfl rfl (v := fun i => .pointer (some ⟨i, 0, none⟩)) (b := .row [.int .i64 0, .int .i64 0, .slice none 0 0] 24 0 true) (aop_alloc t0_24) fun s i34 hS => ?_)
 refine q_seg tbok hS 2 [0] [9] [.bool y29.2.2.2] [i34] [[(i34, .row [.int .i64 y29.1, .int .i64 y29.2.1, .slice a31 y29.2.2.1.length z32] 24 0 true)], [(i1, .row [.int .i64 0, .int .i64 0, .slice none 0 0] 24 0 true)]] (by kernel_rfl) fun s hS => (KW.nil ?_)
 refine WW.seq (WW.region ?_)
 refine q_seg0 tbok hS 2 [] [35] [.bool y29.2.2.2] [] (by kernel_rfl) fun s hS => (q_cut 2 (fun s => Stt EV s [(37, .bool (y29.2.2.2 && p1_0)), (4, .pointer (some ⟨i1, 0, none⟩)), (5, .int .i64 0), (8, .pointer (some ⟨i34, 0, none⟩))] [[(i34, .row [.int .i64 y29.1, .int .i64 y29.2.1, .slice a31 y29.2.2.1.length z32] 24 0 true)], [(i1, .row [.int .i64 0, .int .i64 0, .slice none 0 0] 24 0 true)]] F26 L F nx0) ?_ fun s hS => ?_)
 rcases bool_cases (y29.2.2.2) with hcj | hcj
 replace hS := hS.know (t := 33) rfl (congrArg Value.bool hcj)
 replace hS := hS.know (t := 9) rfl (congrArg Value.bool hcj)
 replace hS := hS.know (t := 35) rfl (congrArg Value.bool hcj)
 refine q_seg0 tbok hS 2 [] [37] [.bool p1_0] [] (by kernel_rfl) fun s hS => (KW.nil ?_)
 exact (hS.know (t := 37) (u' := .bool (y29.2.2.2 && p1_0)) rfl (jn_and_t hcj)).subR rfl
 replace hS := hS.know (t := 33) rfl (congrArg Value.bool hcj)
 replace hS := hS.know (t := 9) rfl (congrArg Value.bool hcj)
 replace hS := hS.know (t := 35) rfl (congrArg Value.bool hcj)
 refine q_seg0 tbok hS 2 [] [37] [.bool false] [] (by kernel_rfl) fun s hS => (KW.nil ?_)
 exact (hS.know (t := 37) (u' := .bool (y29.2.2.2 && p1_0)) rfl (jn_and_f hcj)).subR rfl
 refine KW.nil (bc h (fun hc35 h => ?_) fun hc35 h => ?_)
 refine WW.condK hS rfl hc35 (WW.seq ?_)
 refine WW.region (q_seg tbok hS 3 [0, 1] [5] [.int .i64 0] [i34, i1] [[(i34, .row [.int .i64 y29.1, .int .i64 y29.2.1, .slice a31 y29.2.2.1.length z32] 24 0 true)], [(i1, .row [.int .i64 y29.1, .int .i64 y29.2.1, .slice a31 y29.2.2.1.length z32] 24 0 true)]] (by kernel_rfl) fun s hS => ?_)
 refine KW.nil (WW.ret ?_)
 have hres := (res_cell hS (t := 4) (ty := 24) rfl (p := 1) rfl tg24 tz24 (ws := [.int .i64 y29.1, .int .i64 y29.2.1, .slice a31 y29.2.2.1.length z32]) rfl (res_tmp hS (t := 5) (v := .int .i64 0) rfl (res_nil (E := EV) (s := s))))
 replace hS := hS.drop
 replace hS := hS.drop
 cases h
 exact fin hS (.inr rfl) hres (v := .tuple #[.agg #[.int .i64 y29.1, .int .i64 y29.2.1, .slice a31 y29.2.2.1.length z32], .int .i64 0]) rfl ⟨_, _, ((FLe.trans hF9 hF27)), rfl, rfl, h33⟩
 refine WW.condF hS rfl hc35 (WW.skip ?_)
 refine WW.seq (WW.region ?_)
 refine q_pu hS (wn rfl) rfl rfl rfl (v := .agg #[.int .i64 0, .int .i64 0, .slice none 0 0]) (aop_bld t0_24 tp24 [] (parts_eq hS rfl) (cs := [.int .i64 0, .int .i64 0, .slice none 0 0]) rfl) fun s hS => (q_seg tbok hS 2 [1] [5] [.int .i64 30] [i1] [[(i34, .row [.int .i64 y29.1, .int .i64 y29.2.1, .slice a31 y29.2.2.1.length z32] 24 0 true)], [(i1, .row [.int .i64 0, .int .i64 0, .slice none 0 0] 24 0 true)]] (by kernel_rfl) fun s hS => ?_)
 refine KW.nil (WW.ret ?_)
 have hres := (res_cell hS (t := 4) (ty := 24) rfl (p := 1) rfl tg24 tz24 (ws := [.int .i64 0, .int .i64 0, .slice none ([] : List Int).length 0]) rfl (res_tmp hS (t := 5) (v := .int .i64 30) rfl (res_nil (E := EV) (s := s))))
 replace hS := hS.drop
 replace hS := hS.drop
 cases h
 exact fin hS (.inr rfl) hres (v := .tuple #[.agg #[.int .i64 0, .int .i64 0, .slice none ([] : List Int).length 0], .int .i64 30]) rfl ⟨_, _, ((FLe.trans hF9 hF27)), rfl, rfl, Frz.nil⟩
/-! ### slices.Equal[[]int,int] (47) -/
noncomputable def g_slices_Equal_int_int.b0 (p0_0 : List Int) (p1_0 : List Int) (x2 : Int) : Option ((Int) ⊕ ((Int) ⊕ (Bool))) :=
  (if (decide (x2 < (p0_0.length : Int))) then (if 0 ≤ x2 ∧ x2 < (p0_0.length : Int) then (if 0 ≤ x2 ∧ x2 < (p1_0.length : Int) then (if ((gt p0_0 x2) != (gt p1_0 x2)) then some (.inr (.inr false)) else some (.inl (w64 (x2 + 1)))) else none) else none) else some (.inr (.inl x2)))
noncomputable def g_slices_Equal_int_int.f (p0_0 : List Int) (p1_0 : List Int) : Option (Bool) :=
  (if ((p0_0.length : Int) != (p1_0.length : Int)) then some false else Option.bind (iter (g_slices_Equal_int_int.b0 p0_0 p1_0) 0) fun o3 => onSum o3 fun y26 => some true)
set_option maxHeartbeats 4000000 in
theorem g_slices_Equal_int_int.ok {ap0_2 : Option Addr} {zp0_3 : Nat} {ap1_2 : Option Addr} {zp1_3 : Nat} {p0_0 : List Int} {p1_0 : List Int} {F : FZ} {r : Bool} (h : g_slices_Equal_int_int.f p0_0 p1_0 = some r) (hp0_4 : Frz (elI .i64 3) F ap0_2 zp0_3 p0_0) (hp1_4 : Frz (elI .i64 3) F ap1_2 zp1_3 p1_0) :
    Cl EV 47 [.slice ap0_2 p0_0.length zp0_3, .slice ap1_2 p1_0.length zp1_3] [] F (fun v S' F' => F = F' ∧ v = .bool r ∧ S' = []) := by
 refine Cl.of Tryz.func47 rfl (fun _ _ => rfl) (by kernel_rfl) fun s L nx0 hS => ?_
 unfold g_slices_Equal_int_int.f at h
 refine WW.seq (WW.region ?_)
 refine q_seg0 tbok hS 1 [] [4] [.bool false] [] (by kernel_rfl) fun s hS => (KW.nil ?_)
 refine WW.seq (WW.seq ?_)
 refine WW.region (q_seg0 tbok hS 5 [] [10] [.bool ((p0_0.length : Int) != (p1_0.length : Int))] [] (by kernel_rfl) fun s hS => ?_)
 refine KW.nil (bc h (fun hc1 h => ?_) fun hc1 h => ?_)
 refine WW.condK hS rfl hc1 (WW.seq ?_)
 refine WW.region (q_seg0 tbok hS 1 [] [4] [.bool false] [] (by kernel_rfl) fun s hS => ?_)
 refine KW.nil (WW.ret ?_)
 cases h
 exact fin1 hS (.inr rfl) 4 rfl rfl ⟨rfl, rfl, rfl⟩
 refine WW.condF hS rfl hc1 (WW.skip ?_)
 refine WW.seq (WW.seq ?_)
 refine WW.region (q_seg0 tbok hS 3 [] [12, 13] [.int .i64 (p0_0.length : Int), .int .i64 0] [] (by kernel_rfl) fun s hS => ?_)
 refine KW.nil (WW.block ?_)
 obtain ⟨o3, ho3, h⟩ := bind_some h
 refine WW.loop (LW.iter ho3 (fun (x2 : Int) s => Stt EV s [(0, .slice ap0_2 p0_0.length zp0_3), (1, .slice ap1_2 p1_0.length zp1_3), (4, .bool false), (12, .int .i64 (p0_0.length : Int)), (13, .int .i64 x2)] [] F L F nx0) (fun (o : (Int) ⊕ (Bool)) e s => match o with | .inl y4 => (e = .exit 0 ∧ Stt EV s [(0, .slice ap0_2 p0_0.length zp0_3), (1, .slice ap1_2 p1_0.length zp1_3), (4, .bool false), (12, .int .i64 (p0_0.length : Int)), (13, .int .i64 y4)] [] F L F nx0) | .inr r => (e = .ret ∧ FinQ EV Tryz.f47 L F nx0 (fun v S' F' => F = F' ∧ v = .bool r ∧ S' = []) e s)) (hS.subR rfl) ?_ ?_)
 clear hS
 rintro x2 s hS o3' h5
 unfold g_slices_Equal_int_int.b0 at h5
 refine WW.seq (WW.region ?_)
 refine q_seg0 tbok hS 1 [] [14] [.bool (decide (x2 < (p0_0.length : Int)))] [] (by kernel_rfl) fun s hS => (KW.nil ?_)
 refine WW.seq (bc h5 (fun hc6 h5 => ?_) fun hc6 h5 => ?_)
 refine WW.condK hS rfl hc6 (WW.skip ?_)
 refine WW.seq (WW.block ?_)
 refine WW.seq (WW.region ?_)
 refine q_seg0 tbok hS 2 [] [5] [.int .i64 x2] [] (by kernel_rfl) fun s hS => (KW.nil ?_)
 refine WW.seq (WW.regionD (i := [[], [0], [], [], [3, 2, 1, 0], [4, 3, 2, 1, 0], [3, 2, 1, 0], [3, 2, 1, 0], []]) (by kernel_rfl) ?_)
 have hq := RS.start []
 refine K.seg tbok hS hq 2 [16, 17] [.slice ap0_2 p0_0.length zp0_3, .int .i64 x2] (by kernel_rfl) fun s rs hS hq => ?_
 obtain ⟨hk7, h5⟩ := ite_some h5
 obtain ⟨i13, of14, rfl⟩ := Frz.addr hp0_4 (by omega)
 obtain ⟨_, _, _, _, c8, hF15, hR9, hN10, hN11, hT12⟩ := Frz.at hp0_4 hk7 (m := 1) rfl
 obtain rfl := hR9
 refine K.pu hS hq rfl (wn rfl) rfl rfl rfl (v := .pointer (some ⟨i13, of14 + (x2).toNat * 1, none⟩)) (aop_ia (hS.lk rfl) (hS.lk rfl) te22 hk7) fun s rs hS hq => ?_
 replace hq := hq.more i13 rfl rfl rfl
 refine K.ld hS hq rfl (wn rfl) rfl rfl rfl (hS.fat hF15) tg3 (v := .int .i64 (gt p0_0 x2)) hN10 0 rfl rfl fun s rs hS hq => (K.seg tbok hS hq 2 [20, 21] [.slice ap1_2 p1_0.length zp1_3, .int .i64 x2] (by kernel_rfl) fun s rs hS hq => ?_)
 obtain ⟨hk16, h5⟩ := ite_some h5
 obtain ⟨i22, of23, rfl⟩ := Frz.addr hp1_4 (by omega)
 obtain ⟨_, _, _, _, c17, hF24, hR18, hN19, hN20, hT21⟩ := Frz.at hp1_4 hk16 (m := 1) rfl
 obtain rfl := hR18
 refine K.pu hS hq rfl (wn rfl) rfl rfl rfl (v := .pointer (some ⟨i22, of23 + (x2).toNat * 1, none⟩)) (aop_ia (hS.lk rfl) (hS.lk rfl) te22 hk16) fun s rs hS hq => ?_
 replace hq := hq.more i22 rfl rfl rfl
 refine K.ld hS hq rfl (wn rfl) rfl rfl rfl (hS.fat hF24) tg3 (v := .int .i64 (gt p1_0 x2)) hN19 1 rfl rfl fun s rs hS hq => (K.seg tbok hS hq 1 [24] [.bool ((gt p0_0 x2) != (gt p1_0 x2))] (by kernel_rfl) fun s rs hS hq => ?_)
 refine KW.nil (bc h5 (fun hc25 h5 => ?_) fun hc25 h5 => ?_)
 refine WW.condK hS rfl hc25 (WW.seq ?_)
 refine WW.region (q_seg0 tbok hS 1 [] [4] [.bool false] [] (by kernel_rfl) fun s hS => ?_)
 refine KW.nil (WW.ret ?_)
 cases h5
 exact ⟨_, rfl, rfl, fin1 hS (.inr rfl) 4 rfl rfl ⟨rfl, rfl, rfl⟩⟩
 refine WW.condF hS rfl hc25 (WW.skip ?_)
 refine WW.region (q_seg0 tbok hS 2 [] [13] [.int .i64 (w64 (x2 + 1))] [] (by kernel_rfl) fun s hS => ?_)
 refine KW.nil ?_
 obtain rfl := Option.some.inj h5
 exact ⟨_, rfl, (hS.subR rfl)⟩
 refine WW.condF hS rfl hc6 (WW.exit ?_)
 refine thenQ_exit ?_
 obtain rfl := Option.some.inj h5
 exact ⟨_, rfl, rfl, (hS.subR rfl)⟩
 clear hS
 rcases o3 with y26 | y26
 rintro e s ⟨rfl, hS⟩
 replace h := match_inl h
 refine blockQ_exit (WW.seq ?_)
 refine WW.region (q_seg0 tbok hS 1 [] [4] [.bool true] [] (by kernel_rfl) fun s hS => ?_)
 refine KW.nil (WW.ret ?_)
 cases h
 exact fin1 hS (.inr rfl) 4 rfl rfl ⟨rfl, rfl, rfl⟩
 rintro e s ⟨rfl, hfin⟩
 replace h := match_inr h
 obtain rfl := Option.some.inj h
 exact hfin
/-! ### formulary/classify.CheckReading$1 (46) -/
noncomputable def g_classify_CheckReading_1.f (p0_0 : Int) (p0_1 : Int) (p0_2 : List Int) (p1_1 : Int) (p1_2 : Int) (p1_3 : List Int) : Option (Bool) :=
  Option.bind ((if ((p0_0 == p1_1) && (p0_1 == p1_2)) then Option.bind (g_slices_Equal_int_int.f p0_2 p1_3) fun y4 => some y4 else some false)) fun z2 => some z2
set_option maxHeartbeats 4000000 in
theorem g_classify_CheckReading_1.ok {ap0_4 : Option Addr} {zp0_5 : Nat} {ip1_1 : Nat} {ap1_5 : Option Addr} {zp1_6 : Nat} {p0_0 : Int} {p0_1 : Int} {p0_2 : List Int} {p1_1 : Int} {p1_2 : Int} {p1_3 : List Int} {F : FZ} {r : Bool} (h : g_classify_CheckReading_1.f p0_0 p0_1 p0_2 p1_1 p1_2 p1_3 = some r) (hp0_6 : Frz (elI .i64 3) F ap0_4 zp0_5 p0_2) (hp1_7 : Frz (elI .i64 3) F ap1_5 zp1_6 p1_3) :
    Cl EV 46 [.agg #[.int .i64 p0_0, .int .i64 p0_1, .slice ap0_4 p0_2.length zp0_5], .pointer (some ⟨ip1_1, 0, none⟩)] [[(ip1_1, .row [.int .i64 p1_1, .int .i64 p1_2, .slice ap1_5 p1_3.length zp1_6] 24 0 true)]] F (fun v S' F' => F = F' ∧ v = .bool r ∧ S' = [[(ip1_1, .row [.int .i64 p1_1, .int .i64 p1_2, .slice ap1_5 p1_3.length zp1_6] 24 0 true)]]) := by
 refine Cl.of Tryz.func46 rfl (fun _ _ => rfl) (by kernel_rfl) fun s L nx0 hS => ?_
 unfold g_classify_CheckReading_1.f at h
 refine WW.seq (WW.region ?_)
 refine q_nw hS (wn rfl) rfl rfl rfl (v := fun i => .pointer (some ⟨i, 0, none⟩)) (b := .row [.int .i64 p0_0, .int .i64 p0_1, .slice ap0_4 p0_2.length zp0_5] 24 0 true) (aop_box (hS.lk rfl) rfl [.int .i64 p0_0, .int .i64 p0_1, .slice ap0_4 p0_2.length zp0_5] rfl) fun s i1 hS => (q_seg0 tbok hS 1 [] [3] [.bool false] [] (by kernel_rfl) fun s hS => ?_)
 refine KW.nil (WW.seq ?_)
 refine WW.region (q_seg0 tbok hS 6 [0, 1] [9] [.bool (p0_0 == p1_1)] [i1, ip1_1] (by kernel_rfl) fun s hS => ?_)
 refine q_cut 6 (fun s => Stt EV s [(15, .bool ((p0_0 == p1_1) && (p0_1 == p1_2))), (1, .pointer (some ⟨ip1_1, 0, none⟩)), (2, .pointer (some ⟨i1, 0, none⟩)), (3, .bool false)] [[(i1, .row [.int .i64 p0_0, .int .i64 p0_1, .slice ap0_4 p0_2.length zp0_5] 24 0 true)], [(ip1_1, .row [.int .i64 p1_1, .int .i64 p1_2, .slice ap1_5 p1_3.length zp1_6] 24 0 true)]] F L F nx0) ?_ fun s hS => ?_
 rcases bool_cases ((p0_0 == p1_1)) with hcj | hcj
 replace hS := hS.know (t := 9) rfl (congrArg Value.bool hcj)
 refine q_seg0 tbok hS 6 [0, 1] [15] [.bool (p0_1 == p1_2)] [i1, ip1_1] (by kernel_rfl) fun s hS => (KW.nil ?_)
 exact (hS.know (t := 15) (u' := .bool ((p0_0 == p1_1) && (p0_1 == p1_2))) rfl (jn_and_t hcj)).subR rfl
 replace hS := hS.know (t := 9) rfl (congrArg Value.bool hcj)
 refine q_seg0 tbok hS 6 [] [15] [.bool false] [] (by kernel_rfl) fun s hS => (KW.nil ?_)
 exact (hS.know (t := 15) (u' := .bool ((p0_0 == p1_1) && (p0_1 == p1_2))) rfl (jn_and_f hcj)).subR rfl
 refine q_seg0 tbok hS 1 [] [16] [.bool ((p0_0 == p1_1) && (p0_1 == p1_2))] [] (by kernel_rfl) fun s hS => ?_
 obtain ⟨z2, hz2, h⟩ := bind_some h
 refine q_cut 6 (fun s => Stt EV s [(22, .bool z2), (3, .bool false)] [[(i1, .row [.int .i64 p0_0, .int .i64 p0_1, .slice ap0_4 p0_2.length zp0_5] 24 0 true)], [(ip1_1, .row [.int .i64 p1_1, .int .i64 p1_2, .slice ap1_5 p1_3.length zp1_6] 24 0 true)]] F L F nx0) ?_ fun s hS => ?_
 refine bc hz2 (fun hc3 hz2 => ?_) fun hc3 hz2 => ?_
 replace hS := hS.kb 15 hc3 rfl
 replace hS := hS.kb 16 hc3 rfl
 refine q_seg0 tbok hS 4 [0, 1] [18, 20] [.slice ap0_4 p0_2.length zp0_5, .slice ap1_5 p1_3.length zp1_6] [i1, ip1_1] (by kernel_rfl) fun s hS => ?_
 obtain ⟨y4, hy4, hz2⟩ := bind_some hz2
 refine q_cl hS (wt hS rfl rfl rfl rfl) (vs := [.slice ap0_4 p0_2.length zp0_5, .slice ap1_5 p1_3.length zp1_6]) (ws := [.slice ap0_4 p0_2.length zp0_5, .slice ap1_5 p1_3.length zp1_6]) rfl rfl rfl rfl rfl 0 rfl (g_slices_Equal_int_int.ok hy4 hp0_6 hp1_7) fun s v S' F' hp5 hF hS => ?_
 obtain ⟨rfl, rfl, rfl⟩ := hp5
 refine q_seg0 tbok hS 1 [] [22] [.bool y4] [] (by kernel_rfl) fun s hS => (KW.nil ?_)
 obtain rfl := Option.some.inj hz2
 exact hS.subR rfl
 replace hS := hS.kb 15 hc3 rfl
 replace hS := hS.kb 16 hc3 rfl
 refine q_seg0 tbok hS 6 [] [22] [.bool false] [] (by kernel_rfl) fun s hS => (KW.nil ?_)
 obtain rfl := Option.some.inj hz2
 exact hS.subR rfl
 refine q_seg0 tbok hS 1 [] [3] [.bool z2] [] (by kernel_rfl) fun s hS => (KW.nil ?_)
 refine WW.ret ?_
 replace hS := hS.drop
 cases h
 exact fin1 hS (.inr rfl) 3 rfl rfl ⟨rfl, rfl, rfl⟩
/-! ### slices.IndexFunc[[]formulary/api.Reading,formulary/api.Reading] (81) -/
noncomputable def g_slices_IndexFunc_api_Reading_api_Reading_2.b0 (p0_0 : List (Int × Int × List Int)) (p1_1 : Int) (p1_2 : Int) (p1_3 : List Int) (x1 : Int) : Option ((Int) ⊕ ((Int) ⊕ (Int))) :=
  (if (decide (x1 < (p0_0.length : Int))) then (if 0 ≤ x1 ∧ x1 < (p0_0.length : Int) then Option.bind (g_classify_CheckReading_1.f ((gt p0_0 x1).1) ((gt p0_0 x1).2.1) ((gt p0_0 x1).2.2) p1_1 p1_2 p1_3) fun y18 => (if y18 then some (.inr (.inr x1)) else some (.inl (w64 (x1 + 1)))) else none) else some (.inr (.inl x1)))
noncomputable def g_slices_IndexFunc_api_Reading_api_Reading_2.f (p0_0 : List (Int × Int × List Int)) (p1_1 : Int) (p1_2 : Int) (p1_3 : List Int) : Option (Int) :=
  Option.bind (iter (g_slices_IndexFunc_api_Reading_api_Reading_2.b0 p0_0 p1_1 p1_2 p1_3) 0) fun o2 => onSum o2 fun y21 => some (-1)
set_option maxHeartbeats 4000000 in
theorem g_slices_IndexFunc_api_Reading_api_Reading_2.ok {ap0_2 : Option Addr} {zp0_3 : Nat} {ip1_1 : Nat} {ap1_5 : Option Addr} {zp1_6 : Nat} {p0_0 : List (Int × Int × List Int)} {p1_1 : Int} {p1_2 : Int} {p1_3 : List Int} {F : FZ} {r : Int} (h : g_slices_IndexFunc_api_Reading_api_Reading_2.f p0_0 p1_1 p1_2 p1_3 = some r) (hp0_4 : Frz el24 F ap0_2 zp0_3 p0_0) (hp1_7 : Frz (elI .i64 3) F ap1_5 zp1_6 p1_3) :
    Cl EV 81 [.slice ap0_2 p0_0.length zp0_3, .func (.func 46) #[] #[.pointer (some ⟨ip1_1, 0, none⟩)]] [[(ip1_1, .row [.int .i64 p1_1, .int .i64 p1_2, .slice ap1_5 p1_3.length zp1_6] 24 0 true)]] F (fun v S' F' => F = F' ∧ v = .int .i64 r ∧ S' = [[(ip1_1, .row [.int .i64 p1_1, .int .i64 p1_2, .slice ap1_5 p1_3.length zp1_6] 24 0 true)]]) := by
 refine Cl.of Tryz.func81 rfl (fun _ _ => rfl) (by kernel_rfl) fun s L nx0 hS => ?_
 unfold g_slices_IndexFunc_api_Reading_api_Reading_2.f at h
 refine WW.seq (WW.region ?_)
 refine q_seg0 tbok hS 1 [] [4] [.int .i64 0] [] (by kernel_rfl) fun s hS => (KW.nil ?_)
 refine WW.seq (WW.seq ?_)
 refine WW.region (q_seg0 tbok hS 3 [] [7, 8] [.int .i64 (p0_0.length : Int), .int .i64 0] [] (by kernel_rfl) fun s hS => ?_)
 refine KW.nil (WW.block ?_)
 obtain ⟨o2, ho2, h⟩ := bind_some h
 refine WW.loop (LW.iter ho2 (fun (x1 : Int) s => Stt EV s [(0, .slice ap0_2 p0_0.length zp0_3), (1, .func (.func 46) #[] #[.pointer (some ⟨ip1_1, 0, none⟩)]), (4, .int .i64 0), (7, .int .i64 (p0_0.length : Int)), (8, .int .i64 x1)] [[(ip1_1, .row [.int .i64 p1_1, .int .i64 p1_2, .slice ap1_5 p1_3.length zp1_6] 24 0 true)]] F L F nx0) (fun (o : (Int) ⊕ (Int)) e s => match o with | .inl y3 => (e = .exit 0 ∧ Stt EV s [(0, .slice ap0_2 p0_0.length zp0_3), (1, .func (.func 46) #[] #[.pointer (some ⟨ip1_1, 0, none⟩)]), (4, .int .i64 0), (7, .int .i64 (p0_0.length : Int)), (8, .int .i64 y3)] [[(ip1_1, .row [.int .i64 p1_1, .int .i64 p1_2, .slice ap1_5 p1_3.length zp1_6] 24 0 true)]] F L F nx0) | .inr r => (e = .ret ∧ FinQ EV Tryz.f81 L F nx0 (fun v S' F' => F = F' ∧ v = .int .i64 r ∧ S' = [[(ip1_1, .row [.int .i64 p1_1, .int .i64 p1_2, .slice ap1_5 p1_3.length zp1_6] 24 0 true)]]) e s)) (hS.subR rfl) ?_ ?_)
 clear hS
 rintro x1 s hS o2' h4
 unfold g_slices_IndexFunc_api_Reading_api_Reading_2.b0 at h4
 refine WW.seq (WW.region ?_)
 refine q_seg0 tbok hS 1 [] [9] [.bool (decide (x1 < (p0_0.length : Int)))] [] (by kernel_rfl) fun s hS => (KW.nil ?_)
 refine WW.seq (bc h4 (fun hc5 h4 => ?_) fun hc5 h4 => ?_)
 refine WW.condK hS rfl hc5 (WW.skip ?_)
 refine WW.seq (WW.block ?_)
 refine WW.seq (WW.region ?_)
 refine q_seg0 tbok hS 2 [] [5] [.int .i64 x1] [] (by kernel_rfl) fun s hS => (KW.nil ?_)
 refine WW.seq (WW.region ?_)
 refine q_seg0 tbok hS 3 [] [11, 12, 13] [.func (.func 46) #[] #[.pointer (some ⟨ip1_1, 0, none⟩)], .slice ap0_2 p0_0.length zp0_3, .int .i64 x1] [] (by kernel_rfl) fun s hS => ?_
 obtain ⟨hk6, h4⟩ := ite_some h4
 obtain ⟨i12, of13, rfl⟩ := Frz.addr hp0_4 (by omega)
 obtain ⟨_, _, _, _, c7, hF14, hR8, hN9, hN10, hT11⟩ := Frz.at hp0_4 hk6 (m := 3) rfl
 obtain ⟨a15, z16, rfl, hz17⟩ := hR8
 refine q_pu hS (wn rfl) rfl rfl rfl (v := .pointer (some ⟨i12, of13 + (x1).toNat * 3, none⟩)) (aop_ia (hS.lk rfl) (hS.lk rfl) te36 hk6) fun s hS => (q_ldA hS (wn rfl) rfl rfl rfl (hS.fat hF14) tg24 tz24 (vs := [.int .i64 ((gt p0_0 x1).1), .int .i64 ((gt p0_0 x1).2.1), .slice a15 ((gt p0_0 x1).2.2).length z16]) hT11 fun s hS => ?_)
 obtain ⟨y18, hy18, h4⟩ := bind_some h4
 refine q_cR (g_classify_CheckReading_1.ok hy18 hz17 hp1_7) tbok hS 0 16 1 rfl (by kernel_rfl) fun s hS => (KW.nil ?_)
 refine bc h4 (fun hc20 h4 => ?_) fun hc20 h4 => ?_
 refine WW.condK hS rfl hc20 (WW.seq ?_)
 refine WW.region (q_seg0 tbok hS 2 [] [4] [.int .i64 x1] [] (by kernel_rfl) fun s hS => ?_)
 refine KW.nil (WW.ret ?_)
 cases h4
 exact ⟨_, rfl, rfl, fin1 hS (.inr rfl) 4 rfl rfl ⟨rfl, rfl, rfl⟩⟩
 refine WW.condF hS rfl hc20 (WW.skip ?_)
 refine WW.region (q_seg0 tbok hS 2 [] [8] [.int .i64 (w64 (x1 + 1))] [] (by kernel_rfl) fun s hS => ?_)
 refine KW.nil ?_
 obtain rfl := Option.some.inj h4
 exact ⟨_, rfl, (hS.subR rfl)⟩
 refine WW.condF hS rfl hc5 (WW.exit ?_)
 refine thenQ_exit ?_
 obtain rfl := Option.some.inj h4
 exact ⟨_, rfl, rfl, (hS.subR rfl)⟩
 clear hS
 rcases o2 with y21 | y21
 rintro e s ⟨rfl, hS⟩
 replace h := match_inl h
 refine blockQ_exit (WW.seq ?_)
 refine WW.region (q_seg0 tbok hS 1 [] [4] [.int .i64 (-1)] [] (by kernel_rfl) fun s hS => ?_)
 refine KW.nil (WW.ret ?_)
 cases h
 exact fin1 hS (.inr rfl) 4 rfl rfl ⟨rfl, rfl, rfl⟩
 rintro e s ⟨rfl, hfin⟩
 replace h := match_inr h
 obtain rfl := Option.some.inj h
 exact hfin
/-! ### slices.ContainsFunc[[]formulary/api.Reading,formulary/api.Reading] (48) -/
noncomputable def g_slices_ContainsFunc_api_Reading_api_Reading_1.f (p0_0 : List (Int × Int × List Int)) (p1_1 : Int) (p1_2 : Int) (p1_3 : List Int) : Option (Bool) :=
  Option.bind (g_slices_IndexFunc_api_Reading_api_Reading_2.f p0_0 p1_1 p1_2 p1_3) fun y1 => some (decide (y1 ≥ 0))
set_option maxHeartbeats 4000000 in
theorem g_slices_ContainsFunc_api_Reading_api_Reading_1.ok {ap0_2 : Option Addr} {zp0_3 : Nat} {ip1_1 : Nat} {ap1_5 : Option Addr} {zp1_6 : Nat} {p0_0 : List (Int × Int × List Int)} {p1_1 : Int} {p1_2 : Int} {p1_3 : List Int} {F : FZ} {r : Bool} (h : g_slices_ContainsFunc_api_Reading_api_Reading_1.f p0_0 p1_1 p1_2 p1_3 = some r) (hp0_4 : Frz el24 F ap0_2 zp0_3 p0_0) (hp1_7 : Frz (elI .i64 3) F ap1_5 zp1_6 p1_3) :
    Cl EV 48 [.slice ap0_2 p0_0.length zp0_3, .func (.func 46) #[] #[.pointer (some ⟨ip1_1, 0, none⟩)]] [[(ip1_1, .row [.int .i64 p1_1, .int .i64 p1_2, .slice ap1_5 p1_3.length zp1_6] 24 0 true)]] F (fun v S' F' => F = F' ∧ v = .bool r ∧ S' = [[(ip1_1, .row [.int .i64 p1_1, .int .i64 p1_2, .slice ap1_5 p1_3.length zp1_6] 24 0 true)]]) := by
 refine Cl.of Tryz.func48 rfl (fun _ _ => rfl) (by kernel_rfl) fun s L nx0 hS => ?_
 unfold g_slices_ContainsFunc_api_Reading_api_Reading_1.f at h
 refine WW.seq (WW.region ?_)
 refine q_seg0 tbok hS 1 [] [4] [.bool false] [] (by kernel_rfl) fun s hS => (KW.nil ?_)
 refine WW.seq (WW.region ?_)
 obtain ⟨y1, hy1, h⟩ := bind_some h
 refine q_cR (g_slices_IndexFunc_api_Reading_api_Reading_2.ok hy1 hp0_4 hp1_7) tbok hS 2 7 1 rfl (by kernel_rfl) fun s hS => (q_seg0 tbok hS 2 [] [4] [.bool (decide (y1 ≥ 0))] [] (by kernel_rfl) fun s hS => ?_)
 refine KW.nil (WW.ret ?_)
 cases h
 exact fin1 hS (.inr rfl) 4 rfl rfl ⟨rfl, rfl, rfl⟩
/-! ### formulary/classify.CheckReading (14) -/
noncomputable def g_classify_CheckReading.f (p0_0 : List UInt8) (p1_0 : Int) (p1_1 : Int) (p1_2 : List Int) : Option (Int) :=
  Option.bind (g_classify_ReadingsOf.f p0_0) fun y2 => (if (y2.2 != 0) then some y2.2 else Option.bind (g_classify_within.f p1_0 0 43) fun y11 => (if (!y11) then some 15 else Option.bind (g_slices_ContainsFunc_api_Reading_api_Reading_1.f y2.1 p1_0 p1_1 p1_2) fun y17 => (if (!y17) then some 19 else some 0)))
set_option maxHeartbeats 4000000 in
theorem g_classify_CheckReading.ok {ap1_4 : Option Addr} {zp1_5 : Nat} {p0_0 : List UInt8} {p1_0 : Int} {p1_1 : Int} {p1_2 : List Int} {F : FZ} {r : Int} (h : g_classify_CheckReading.f p0_0 p1_0 p1_1 p1_2 = some r) (hp1_6 : Frz (elI .i64 3) F ap1_4 zp1_5 p1_2) (hG : Gl F) :
    Cl EV 14 [strV p0_0, .agg #[.int .i64 p1_0, .int .i64 p1_1, .slice ap1_4 p1_2.length zp1_5]] [] F (fun v S' F' => FLe F F' ∧ v = .int .i64 r ∧ S' = []) := by
 refine Cl.of Tryz.func14 rfl (fun _ _ => rfl) (by kernel_rfl) fun s L nx0 hS => ?_
 unfold g_classify_CheckReading.f at h
 refine WW.seq (WW.region ?_)
 refine q_nw hS (wn rfl) rfl rfl rfl (v := fun i => .pointer (some ⟨i, 0, none⟩)) (b := .row [.int .i64 p1_0, .int .i64 p1_1, .slice ap1_4 p1_2.length zp1_5] 24 0 true) (aop_box (hS.lk rfl) rfl [.int .i64 p1_0, .int .i64 p1_1, .slice ap1_4 p1_2.length zp1_5] rfl) fun s i1 hS => (q_seg0 tbok hS 1 [] [4] [.int .i64 0] [] (by kernel_rfl) fun s hS => ?_)
 refine KW.nil (WW.seq ?_)
 refine WW.region ?_
 obtain ⟨y2, hy2, h⟩ := bind_some h
 refine q_cK (g_classify_ReadingsOf.ok hy2 hG) tbok hS 1 10 0 rfl (by kernel_rfl) fun s v S' F4 hp3 hF hS => ?_
 obtain ⟨a5, z6, B8, hF9, rfl, rfl, h7⟩ := hp3
 refine q_seg0 tbok hS 5 [] [5, 6] [.slice a5 y2.1.length z6, .int .i64 y2.2] [] (by kernel_rfl) fun s hS => (KW.nil ?_)
 refine WW.seq (WW.seq ?_)
 refine WW.region (q_seg0 tbok hS 2 [] [14] [.bool (y2.2 != 0)] [] (by kernel_rfl) fun s hS => ?_)
 refine KW.nil (bc h (fun hc10 h => ?_) fun hc10 h => ?_)
 refine WW.condK hS rfl hc10 (WW.seq ?_)
 refine WW.region (q_seg0 tbok hS 2 [] [4] [.int .i64 y2.2] [] (by kernel_rfl) fun s hS => ?_)
 refine KW.nil (WW.ret ?_)
 replace hS := hS.drop
 replace hS := hS.drop
 cases h
 exact fin1 hS (.inr rfl) 4 rfl rfl ⟨(hF9), rfl, rfl⟩
 refine WW.condF hS rfl hc10 (WW.skip ?_)
 refine WW.seq (WW.seq ?_)
 refine WW.region (q_seg0 tbok hS 2 [1] [17] [.int .i64 p1_0] [i1] (by kernel_rfl) fun s hS => ?_)
 obtain ⟨y11, hy11, h⟩ := bind_some h
 refine q_cl hS (wn rfl) (vs := [.int .i64 p1_0, .int .i64 0, .int .i64 43]) (ws := [.int .i64 p1_0, .int .i64 0, .int .i64 43]) rfl rfl rfl rfl rfl 0 rfl (g_classify_within.ok hy11) fun s v S' F' hp12 hF hS => ?_
 obtain ⟨rfl, rfl, rfl⟩ := hp12
 refine q_seg0 tbok hS 1 [] [19] [.bool (!y11)] [] (by kernel_rfl) fun s hS => (KW.nil ?_)
 refine bc h (fun hc13 h => ?_) fun hc13 h => ?_
 refine WW.condK hS rfl hc13 (WW.seq ?_)
 refine WW.region (q_seg0 tbok hS 1 [] [4] [.int .i64 15] [] (by kernel_rfl) fun s hS => ?_)
 refine KW.nil (WW.ret ?_)
 replace hS := hS.drop
 replace hS := hS.drop
 cases h
 exact fin1 hS (.inr rfl) 4 rfl rfl ⟨(hF9), rfl, rfl⟩
 refine WW.condF hS rfl hc13 (WW.skip ?_)
 refine WW.seq (WW.region ?_)
 refine q_pu hS (wn rfl) rfl rfl rfl (v := .func (.func 46) #[] #[.pointer (some ⟨i1, 0, none⟩)]) (aop_mf (map_lk hS (vs := []) rfl) (map_lk hS (vs := [.pointer (some ⟨i1, 0, none⟩)]) rfl)) fun s hS => (q_seg0 tbok hS 1 [] [7] [.func (.func 46) #[] #[.pointer (some ⟨i1, 0, none⟩)]] [] (by kernel_rfl) fun s hS => ?_)
 refine KW.nil (WW.seq ?_)
 refine WW.seq (WW.region ?_)
 obtain ⟨F14, hF15, hS, hz16⟩ := hS.frzO h7
 obtain ⟨y17, hy17, h⟩ := bind_some h
 refine q_cR (g_slices_ContainsFunc_api_Reading_api_Reading_1.ok hy17 hz16 (hp1_6.mono (FLe.trans hF9 hF15))) tbok hS 2 23 1 rfl (by kernel_rfl) fun s hS => (q_seg0 tbok hS 1 [] [24] [.bool (!y17)] [] (by kernel_rfl) fun s hS => ?_)
 refine KW.nil (bc h (fun hc19 h => ?_) fun hc19 h => ?_)
 refine WW.condK hS rfl hc19 (WW.seq ?_)
 refine WW.region (q_seg0 tbok hS 1 [] [4] [.int .i64 19] [] (by kernel_rfl) fun s hS => ?_)
 refine KW.nil (WW.ret ?_)
 replace hS := hS.drop
 cases h
 exact fin1 hS (.inr rfl) 4 rfl rfl ⟨((FLe.trans hF9 hF15)), rfl, rfl⟩
 refine WW.condF hS rfl hc19 (WW.skip ?_)
 refine WW.seq (WW.region ?_)
 refine q_seg0 tbok hS 1 [] [4] [.int .i64 0] [] (by kernel_rfl) fun s hS => (KW.nil ?_)
 refine WW.ret ?_
 replace hS := hS.drop
 cases h
 exact fin1 hS (.inr rfl) 4 rfl rfl ⟨((FLe.trans hF9 hF15)), rfl, rfl⟩
/-! ### (*strings.Builder).WriteString (49) -/
noncomputable def g_strings_Builder_WriteString.f (p0_1 : Bool) (p0_2 : List UInt8) (p1_0 : List UInt8) : Option (Int × Bool × List UInt8) :=
  Option.bind (g_copyCheck.f p0_1) fun y1 => (if p0_2.length + p1_0.length < 1000000000 then some ((p1_0.length : Int), y1, (p0_2 ++ p1_0)) else none)
set_option maxHeartbeats 4000000 in
theorem g_strings_Builder_WriteString.ok {ip0_1 : Nat} {ap0_4 : Option Addr} {zp0_5 : Nat} {Bp0_7 : Seg} {p0_1 : Bool} {p0_2 : List UInt8} {p1_0 : List UInt8} {F : FZ} {r : Int × Bool × List UInt8} (h : g_strings_Builder_WriteString.f p0_1 p0_2 p1_0 = some r) (hp0_6 : Own (elB 5) F ap0_4 zp0_5 p0_2 Bp0_7) (hnp0_8 : (p0_2 = [] → ap0_4 = none)) :
    Cl EV 49 [.pointer (some ⟨ip0_1, 0, none⟩), strV p1_0] [[(ip0_1, .row [selfP ip0_1 p0_1, .slice ap0_4 p0_2.length zp0_5] 81 0 true)], Bp0_7] F (fun v S' F' => ∃ (ra1 : Option Addr) (rz2 : Nat) (rB4 : Seg), F = F' ∧ v = .tuple #[.int .i64 r.1, .nilIface] ∧ S' = [[(ip0_1, .row [selfP ip0_1 r.2.1, .slice ra1 r.2.2.length rz2] 81 0 true)], rB4] ∧ Own (elB 5) F' ra1 rz2 r.2.2 rB4 ∧ (r.2.2 = [] → ra1 = none)) := by
 refine Cl.of Tryz.func49 rfl (fun _ _ => rfl) (by kernel_rfl) fun s L nx0 hS => ?_
 unfold g_strings_Builder_WriteString.f at h
 refine WW.seq (WW.region ?_)
 refine q_seg0 tbok hS 2 [] [4, 5] [.int .i64 0, .nilIface] [] (by kernel_rfl) fun s hS => (KW.nil ?_)
 refine WW.seq (WW.region ?_)
 obtain ⟨y1, hy1, h⟩ := bind_some h
 refine q_cR (g_copyCheck.ok hy1) tbok hS 1 7 2 rfl (by kernel_rfl) fun s hS => (KW.nil ?_)
 refine WW.seq (WW.region ?_)
 refine q_seg0 tbok hS 6 [0] [8, 12, 13] [.pointer (some ⟨ip0_1, 0, none⟩), .slice ap0_4 p0_2.length zp0_5, strV p1_0] [ip0_1] (by kernel_rfl) fun s hS => ?_
 obtain ⟨hk6, h⟩ := ite_some h
 replace hS := hS.pull 1
 refine q_apS hS (wn rfl) (eb := 5) (lst := p0_2) (m := p1_0) rfl rfl ta79_9 rfl rfl hp0_6 hk6 hnp0_8 fun s a7 z8 B9 hO10 hn11 hS => (q_seg tbok hS 3 [1] [] [] [ip0_1] [B9, [(ip0_1, .row [selfP ip0_1 y1, .slice a7 (p0_2 ++ p1_0).length z8] 81 0 true)]] (by kernel_rfl) fun s hS => ?_)
 refine KW.nil (WW.seq ?_)
 refine WW.region (q_seg0 tbok hS 4 [] [4, 5] [.int .i64 (p1_0.length : Int), .nilIface] [] (by kernel_rfl) fun s hS => ?_)
 refine KW.nil (WW.ret ?_)
 replace hS := hS.pull 1
 cases h
 exact fin2 hS (.inr rfl) 4 5 rfl rfl rfl ⟨_, _, _, rfl, rfl, rfl, hO10, hn11⟩
/-! ### formulary/classify.SpacedOf (15) -/
noncomputable def g_classify_SpacedOf.b0 (p0_0 : List UInt8) (p1_2 : List Int) (x8 : Int × Int × Bool × List UInt8) : Option ((Int × Int × Bool × List UInt8) ⊕ (Int × Int × Bool × List UInt8)) :=
  (if (decide (x8.2.1 < (p1_2.length : Int))) then (if 0 ≤ x8.2.1 ∧ x8.2.1 < (p1_2.length : Int) then (if 0 ≤ x8.1 ∧ x8.1 ≤ (gt p1_2 x8.2.1) ∧ (gt p1_2 x8.2.1) ≤ (p0_0.length : Int) then (if (mid p0_0 x8.1 (gt p1_2 x8.2.1)).length + ([32] : List UInt8).length < 1000000000 then Option.bind (g_strings_Builder_WriteString.f x8.2.2.1 x8.2.2.2 ((mid p0_0 x8.1 (gt p1_2 x8.2.1)) ++ [32])) fun y34 => some (.inl ((gt p1_2 x8.2.1), (w64 (x8.2.1 + 1)), y34.2.1, y34.2.2)) else none) else none) else none) else some (.inr (x8.1, x8.2.1, x8.2.2.1, x8.2.2.2)))
noncomputable def g_classify_SpacedOf.f (p0_0 : List UInt8) (p1_0 : Int) (p1_1 : Int) (p1_2 : List Int) : Option (List UInt8 × Int) :=
  Option.bind (g_classify_CheckReading.f p0_0 p1_0 p1_1 p1_2) fun y2 => (if (y2 != 0) then some ([], y2) else Option.bind (iter (g_classify_SpacedOf.b0 p0_0 p1_2) (0, 0, false, ([] : List UInt8))) fun o14 => Option.bind (g_BString.f o14.2.2.2) fun y46 => (if 0 ≤ o14.1 ∧ o14.1 ≤ (p0_0.length : Int) ∧ (p0_0.length : Int) ≤ (p0_0.length : Int) then (if y46.length + (mid p0_0 o14.1 (p0_0.length : Int)).length < 1000000000 then some ((y46 ++ (mid p0_0 o14.1 (p0_0.length : Int))), 0) else none) else none))
set_option maxHeartbeats 4000000 in
theorem g_classify_SpacedOf.ok {ap1_4 : Option Addr} {zp1_5 : Nat} {p0_0 : List UInt8} {p1_0 : Int} {p1_1 : Int} {p1_2 : List Int} {F : FZ} {r : List UInt8 × Int} (h : g_classify_SpacedOf.f p0_0 p1_0 p1_1 p1_2 = some r) (hp1_6 : Frz (elI .i64 3) F ap1_4 zp1_5 p1_2) (hG : Gl F) :
    Cl EV 15 [strV p0_0, .agg #[.int .i64 p1_0, .int .i64 p1_1, .slice ap1_4 p1_2.length zp1_5]] [] F (fun v S' F' => FLe F F' ∧ v = .tuple #[strV r.1, .int .i64 r.2] ∧ S' = []) := by
 refine Cl.of Tryz.func15 rfl (fun _ _ => rfl) (by kernel_rfl) fun s L nx0 hS => ?_
 unfold g_classify_SpacedOf.f at h
 refine WW.seq (WW.region ?_)
 refine q_nw hS (wn rfl) rfl rfl rfl (v := fun i => .pointer (some ⟨i, 0, none⟩)) (b := .row [.int .i64 p1_0, .int .i64 p1_1, .slice ap1_4 p1_2.length zp1_5] 24 0 true) (aop_box (hS.lk rfl) rfl [.int .i64 p1_0, .int .i64 p1_1, .slice ap1_4 p1_2.length zp1_5] rfl) fun s i1 hS => (q_seg0 tbok hS 2 [] [4, 5] [strV ([]), .int .i64 0] [] (by kernel_rfl) fun s hS => ?_)
 refine KW.nil (WW.seq ?_)
 refine WW.seq (WW.region ?_)
 refine q_seg0 tbok hS 2 [0] [11, 12] [strV p0_0, .agg #[.int .i64 p1_0, .int .i64 p1_1, .slice ap1_4 p1_2.length zp1_5]] [i1] (by kernel_rfl) fun s hS => ?_
 obtain ⟨y2, hy2, h⟩ := bind_some h
 refine q_cl hS (wn rfl) (vs := [strV p0_0, .agg #[.int .i64 p1_0, .int .i64 p1_1, .slice ap1_4 p1_2.length zp1_5]]) (ws := [strV p0_0, .agg #[.int .i64 p1_0, .int .i64 p1_1, .slice ap1_4 p1_2.length zp1_5]]) rfl rfl rfl rfl rfl 0 rfl (g_classify_CheckReading.ok hy2 hp1_6 hG) fun s v S' F4 hp3 hF hS => ?_
 obtain ⟨hF5, rfl, rfl⟩ := hp3
 refine q_seg0 tbok hS 1 [] [6] [.int .i64 y2] [] (by kernel_rfl) fun s hS => (KW.nil ?_)
 refine WW.seq (WW.region ?_)
 refine q_seg0 tbok hS 2 [] [15] [.bool (y2 != 0)] [] (by kernel_rfl) fun s hS => (KW.nil ?_)
 refine bc h (fun hc6 h => ?_) fun hc6 h => ?_
 refine WW.condK hS rfl hc6 (WW.seq ?_)
 refine WW.region (q_seg0 tbok hS 3 [] [4, 5] [strV ([]), .int .i64 y2] [] (by kernel_rfl) fun s hS => ?_)
 refine KW.nil (WW.ret ?_)
 replace hS := hS.drop
 cases h
 exact fin2 hS (.inr rfl) 4 5 rfl rfl rfl ⟨(hF5), rfl, rfl⟩
 refine WW.condF hS rfl hc6 (WW.skip ?_)
 refine WW.seq (WW.region ?_)
 refine q_nw hS (wn rfl) rfl rfl rfl (v := fun i => .pointer (some ⟨i, 0, none⟩)) (b := .row [.pointer none, .slice none 0 0] 81 0 true) (aop_alloc t0_81) fun s i7 hS => (KW.nil ?_)
 refine WW.seq (WW.region ?_)
 refine q_seg0 tbok hS 1 [] [8] [.int .i64 0] [] (by kernel_rfl) fun s hS => (KW.nil ?_)
 refine WW.seq (WW.seq ?_)
 refine WW.region (q_seg0 tbok hS 4 [1] [18, 19, 20] [.slice ap1_4 p1_2.length zp1_5, .int .i64 (p1_2.length : Int), .int .i64 0] [i1] (by kernel_rfl) fun s hS => ?_)
 refine KW.nil (WW.block ?_)
 replace hS := hS.gap0
 obtain ⟨o14, ho14, h⟩ := bind_some h
 refine WW.loop (LW.iter ho14 (fun (x8 : Int × Int × Bool × List UInt8) s => ∃ (a9 : Option Addr) (z10 : Nat) (B12 : Seg), Stt EV s [(0, strV p0_0), (4, strV ([])), (5, .int .i64 0), (7, .pointer (some ⟨i7, 0, none⟩)), (8, .int .i64 x8.1), (18, .slice ap1_4 p1_2.length zp1_5), (19, .int .i64 (p1_2.length : Int)), (20, .int .i64 x8.2.1)] [B12, [(i7, .row [selfP i7 x8.2.2.1, .slice a9 x8.2.2.2.length z10] 81 0 true)], [(i1, .row [.int .i64 p1_0, .int .i64 p1_1, .slice ap1_4 p1_2.length zp1_5] 24 0 true)]] F4 L F nx0 ∧ Own (elB 5) F4 a9 z10 x8.2.2.2 B12 ∧ (x8.2.2.2 = [] → a9 = none)) (fun (y15 : Int × Int × Bool × List UInt8) e s => (e = .exit 0 ∧ ∃ (a16 : Option Addr) (z17 : Nat) (B19 : Seg), Stt EV s [(0, strV p0_0), (4, strV ([])), (5, .int .i64 0), (7, .pointer (some ⟨i7, 0, none⟩)), (8, .int .i64 y15.1), (18, .slice ap1_4 p1_2.length zp1_5), (19, .int .i64 (p1_2.length : Int)), (20, .int .i64 y15.2.1)] [B19, [(i7, .row [selfP i7 y15.2.2.1, .slice a16 y15.2.2.2.length z17] 81 0 true)], [(i1, .row [.int .i64 p1_0, .int .i64 p1_1, .slice ap1_4 p1_2.length zp1_5] 24 0 true)]] F4 L F nx0 ∧ Own (elB 5) F4 a16 z17 y15.2.2.2 B19 ∧ (y15.2.2.2 = [] → a16 = none))) ⟨_, _, _, (hS.subR rfl), Own.nil, (fun _ => rfl)⟩ ?_ ?_)
 clear hS
 rintro x8 s ⟨a9, z10, B12, hS, h11, hn13⟩ o14' h21
 unfold g_classify_SpacedOf.b0 at h21
 refine WW.seq (WW.region ?_)
 refine q_seg0 tbok hS 1 [] [21] [.bool (decide (x8.2.1 < (p1_2.length : Int)))] [] (by kernel_rfl) fun s hS => (KW.nil ?_)
 refine WW.seq (bc h21 (fun hc22 h21 => ?_) fun hc22 h21 => ?_)
 refine WW.condK hS rfl hc22 (WW.skip ?_)
 refine WW.seq (WW.block ?_)
 refine WW.seq (WW.region ?_)
 obtain ⟨hk23, h21⟩ := ite_some h21
 obtain ⟨i29, of30, rfl⟩ := Frz.addr hp1_6 (by omega)
 obtain ⟨_, _, _, _, c24, hF31, hR25, hN26, hN27, hT28⟩ := Frz.at (hp1_6.mono hF5) hk23 (m := 1) rfl
 obtain rfl := hR25
 refine q_pu hS (wn rfl) rfl rfl rfl (v := .pointer (some ⟨i29, of30 + (x8.2.1).toNat * 1, none⟩)) (aop_ia (hS.lk rfl) (hS.lk rfl) te22 hk23) fun s hS => (q_ld hS (wn rfl) rfl rfl rfl (hS.fat hF31) tg3 (v := .int .i64 (gt p1_2 x8.2.1)) hN26 fun s hS => ?_)
 refine q_seg0 tbok hS 1 [] [10] [.int .i64 (gt p1_2 x8.2.1)] [] (by kernel_rfl) fun s hS => (KW.nil ?_)
 refine WW.seq (WW.region ?_)
 refine q_seg0 tbok hS 3 [] [24, 25, 26] [strV p0_0, .int .i64 x8.1, .int .i64 (gt p1_2 x8.2.1)] [] (by kernel_rfl) fun s hS => ?_
 obtain ⟨hk32, h21⟩ := ite_some h21
 refine q_pu hS (wn rfl) rfl rfl rfl (v := strV (mid p0_0 x8.1 (gt p1_2 x8.2.1))) (aop_slS tu9 (hS.lk rfl) (i := x8.1) (j := (gt p1_2 x8.2.1)) (bnd_eq hS rfl) (bnd_eq hS rfl) hk32) fun s hS => ?_
 obtain ⟨hk33, h21⟩ := ite_some h21
 refine q_pu hS (wn rfl) rfl rfl rfl (v := strV ((mid p0_0 x8.1 (gt p1_2 x8.2.1)) ++ [32])) (aop_sadd (hS.lk rfl) (hS.lk rfl) hk33) fun s hS => ?_
 obtain ⟨y34, hy34, h21⟩ := bind_some h21
 replace hS := hS.pull 1
 refine q_cK (g_strings_Builder_WriteString.ok hy34 h11 hn13) tbok hS 0 29 2 rfl (by kernel_rfl) fun s v S' F' hp35 hF hS => ?_
 obtain ⟨a36, z37, B39, rfl, rfl, rfl, h38, hn40⟩ := hp35
 refine KW.nil (WW.region ?_)
 refine q_seg0 tbok hS 2 [] [8] [.int .i64 (gt p1_2 x8.2.1)] [] (by kernel_rfl) fun s hS => (KW.nil ?_)
 refine WW.region (q_seg0 tbok hS 2 [] [20] [.int .i64 (w64 (x8.2.1 + 1))] [] (by kernel_rfl) fun s hS => ?_)
 refine KW.nil ?_
 replace hS := hS.pull 2
 replace hS := hS.pull 1
 replace hS := hS.pull 2
 obtain rfl := Option.some.inj h21
 exact ⟨_, rfl, _, _, _, (hS.subR rfl), h38, hn40⟩
 refine WW.condF hS rfl hc22 (WW.exit ?_)
 refine thenQ_exit ?_
 obtain rfl := Option.some.inj h21
 exact ⟨_, rfl, rfl, _, _, _, (hS.subR rfl), h11, hn13⟩
 clear hS
 rintro e s ⟨rfl, a41, z42, B44, hS, h43, hn45⟩
 refine blockQ_exit (WW.seq ?_)
 refine WW.regionD (i := [[], [0], [1, 0], [0], [], [], []]) (by kernel_rfl) ?_
 have hq := RS.start [i7, i1]
 obtain ⟨y46, hy46, h⟩ := bind_some h
 replace hS := hS.pull 1
 refine K.cl hS hq rfl (wn rfl) (vs := [.pointer (some ⟨i7, 0, none⟩)]) (ws := [.pointer (some ⟨i7, 0, none⟩)]) rfl rfl rfl rfl rfl 2 rfl (g_BString.ok hy46 h43 hn45)  [1] rfl rfl (aw_c rfl mm0 aw_n) fun s rs v S' F' hp47 hF hS hq => ?_
 obtain ⟨rfl, rfl, rfl⟩ := hp47
 refine K.seg tbok hS hq 2 [33, 34] [strV p0_0, .int .i64 o14.1] (by kernel_rfl) fun s rs hS hq => ?_
 obtain ⟨hk48, h⟩ := ite_some h
 refine K.pu hS hq rfl (wn rfl) rfl rfl rfl (v := strV (mid p0_0 o14.1 (p0_0.length : Int))) (aop_slS tu9 (hS.lk rfl) (i := o14.1) (j := (p0_0.length : Int)) (bnd_eq hS rfl) rfl hk48) fun s rs hS hq => ?_
 obtain ⟨hk49, h⟩ := ite_some h
 refine K.pu hS hq rfl (wn rfl) rfl rfl rfl (v := strV (y46 ++ (mid p0_0 o14.1 (p0_0.length : Int)))) (aop_sadd (hS.lk rfl) (hS.lk rfl) hk49) fun s rs hS hq => (K.seg tbok hS hq 2 [4, 5] [strV (y46 ++ (mid p0_0 o14.1 (p0_0.length : Int))), .int .i64 0] (by kernel_rfl) fun s rs hS hq => ?_)
 refine KW.nil (WW.ret ?_)
 replace hS := hS.drop
 cases h
 exact fin2 hS (.inr rfl) 4 5 rfl rfl rfl ⟨(hF5), rfl, rfl⟩
/-! ### formulary/classify.RefusalOf$1 (56) -/
noncomputable def g_classify_RefusalOf_1.f (p0_0 : Int) (p1_0 : List UInt8) (p2_1 : List UInt8) (p3_1 : Int) (p4_1 : Int) : Option (Int × Int) :=
  Option.bind (g_classify_newMatch.f p2_1) fun y1 => Option.bind (g_classify_match_word.f y1.1 y1.2.1 y1.2.2.1 y1.2.2.2.1 y1.2.2.2.2 p1_0) fun y13 => (if (y13.2.2 && (decide ((p1_0.length : Int) > p3_1))) then some ((p1_0.length : Int), p0_0) else some (p3_1, p4_1))
set_option maxHeartbeats 4000000 in
theorem g_classify_RefusalOf_1.ok {ip2_1 : Nat} {ip3_1 : Nat} {ip4_1 : Nat} {p0_0 : Int} {p1_0 : List UInt8} {p2_1 : List UInt8} {p3_1 : Int} {p4_1 : Int} {F : FZ} {r : Int × Int} (h : g_classify_RefusalOf_1.f p0_0 p1_0 p2_1 p3_1 p4_1 = some r) (hG : Gl F) :
    Cl EV 56 [.int .i64 p0_0, strV p1_0, .pointer (some ⟨ip2_1, 0, none⟩), .pointer (some ⟨ip3_1, 0, none⟩), .pointer (some ⟨ip4_1, 0, none⟩)] [[(ip2_1, .row [strV p2_1] 9 0 true)], [(ip3_1, .row [.int .i64 p3_1] 3 0 true)], [(ip4_1, .row [.int .i64 p4_1] 3 0 true)]] F (fun v S' F' => FLe F F' ∧ v = .tuple #[] ∧ S' = [[(ip2_1, .row [strV p2_1] 9 0 true)], [(ip3_1, .row [.int .i64 r.1] 3 0 true)], [(ip4_1, .row [.int .i64 r.2] 3 0 true)]]) := by
 refine Cl.of Tryz.func56 rfl (fun _ _ => rfl) (by kernel_rfl) fun s L nx0 hS => ?_
 unfold g_classify_RefusalOf_1.f at h
 refine WW.seq (WW.region ?_)
 refine q_seg0 tbok hS 1 [0] [8] [strV p2_1] [ip2_1] (by kernel_rfl) fun s hS => ?_
 obtain ⟨y1, hy1, h⟩ := bind_some h
 refine q_cl hS (wn rfl) (vs := [strV p2_1]) (ws := [strV p2_1]) rfl rfl rfl rfl rfl 0 rfl (g_classify_newMatch.ok hy1 hG) fun s v S' F3 hp2 hF hS => ?_
 obtain ⟨i4, a5, z6, a8, z9, B11, hF12, rfl, rfl, h7, h10⟩ := hp2
 refine q_seg0 tbok hS 1 [] [7] [.pointer (some ⟨i4, 0, none⟩)] [] (by kernel_rfl) fun s hS => (KW.nil ?_)
 refine WW.seq (WW.region ?_)
 obtain ⟨y13, hy13, h⟩ := bind_some h
 refine q_cK (g_classify_match_word.ok hy13 h7 h10) tbok hS 2 12 2 rfl (by kernel_rfl) fun s v S' F' hp14 hF hS => ?_
 obtain ⟨a15, z16, B18, rfl, rfl, rfl, h17⟩ := hp14
 refine KW.nil (WW.seq ?_)
 refine WW.region (q_seg0 tbok hS 5 [0] [17] [.bool y13.2.2] [i4] (by kernel_rfl) fun s hS => ?_)
 refine q_cut 5 (fun s => Stt EV s [(22, .bool (y13.2.2 && (decide ((p1_0.length : Int) > p3_1)))), (0, .int .i64 p0_0), (1, strV p1_0), (3, .pointer (some ⟨ip3_1, 0, none⟩)), (4, .pointer (some ⟨ip4_1, 0, none⟩))] [[(i4, .row [strV y1.1, .slice a5 y1.2.1.length z6, .int .i64 y13.1, .slice a15 y13.2.1.length z16, .bool y13.2.2] 99 0 true)], B18, [(ip2_1, .row [strV p2_1] 9 0 true)], [(ip3_1, .row [.int .i64 p3_1] 3 0 true)], [(ip4_1, .row [.int .i64 p4_1] 3 0 true)]] F3 L F nx0) ?_ fun s hS => ?_
 rcases bool_cases (y13.2.2) with hcj | hcj
 replace hS := hS.know (t := 17) rfl (congrArg Value.bool hcj)
 refine q_seg0 tbok hS 5 [3] [22] [.bool (decide ((p1_0.length : Int) > p3_1))] [ip3_1] (by kernel_rfl) fun s hS => (KW.nil ?_)
 exact (hS.know (t := 22) (u' := .bool (y13.2.2 && (decide ((p1_0.length : Int) > p3_1)))) rfl (jn_and_t hcj)).subR rfl
 replace hS := hS.know (t := 17) rfl (congrArg Value.bool hcj)
 refine q_seg0 tbok hS 5 [] [22] [.bool false] [] (by kernel_rfl) fun s hS => (KW.nil ?_)
 exact (hS.know (t := 22) (u' := .bool (y13.2.2 && (decide ((p1_0.length : Int) > p3_1)))) rfl (jn_and_f hcj)).subR rfl
 refine KW.nil (bc h (fun hc19 h => ?_) fun hc19 h => ?_)
 refine WW.condK hS rfl hc19 (WW.region ?_)
 refine q_seg tbok hS 5 [4, 3] [] [] [ip4_1, ip3_1] [[(i4, .row [strV y1.1, .slice a5 y1.2.1.length z6, .int .i64 y13.1, .slice a15 y13.2.1.length z16, .bool y13.2.2] 99 0 true)], B18, [(ip2_1, .row [strV p2_1] 9 0 true)], [(ip3_1, .row [.int .i64 (p1_0.length : Int)] 3 0 true)], [(ip4_1, .row [.int .i64 p0_0] 3 0 true)]] (by kernel_rfl) fun s hS => (KW.nil ?_)
 replace hS := hS.drop
 replace hS := hS.drop
 cases h
 exact fin0 hS (.inl rfl) rfl ⟨(hF12), rfl, rfl⟩
 refine WW.condF hS rfl hc19 (WW.skip ?_)
 replace hS := hS.drop
 replace hS := hS.drop
 cases h
 exact fin0 hS (.inl rfl) rfl ⟨(hF12), rfl, rfl⟩
/-! ### formulary/classify.RefusalOf (26) -/
noncomputable def g_classify_RefusalOf.b1 (p0_0 : List UInt8) (x15 : Int × Int × Int) (y30 : List (List UInt8)) (x36 : Int × Int × Int) : Option ((Int × Int × Int) ⊕ (Int × Int × Int)) :=
  (if (decide (x36.1 < (y30.length : Int))) then (if 0 ≤ x36.1 ∧ x36.1 < (y30.length : Int) then Option.bind (g_classify_RefusalOf_1.f x15.1 (gt y30 x36.1) p0_0 x36.2.1 x36.2.2) fun y55 => some (.inl ((w64 (x36.1 + 1)), y55.1, y55.2)) else none) else some (.inr (x36.1, x36.2.1, x36.2.2)))
noncomputable def g_classify_RefusalOf.b0 (p0_0 : List UInt8) (y13 : List (List UInt8)) (x15 : Int × Int × Int) : Option ((Int × Int × Int) ⊕ (Int × Int × Int)) :=
  (if (decide (x15.1 < 44)) then (if 0 ≤ x15.1 ∧ x15.1 < 44 ∧ x15.1 < (y13.length : Int) then Option.bind (g_classify_RefusalOf_1.f x15.1 (gt y13 x15.1) p0_0 x15.2.1 x15.2.2) fun y25 => (if (x15.1 == 28) then Option.bind (g_classify_types.f) fun y30 => Option.bind (iter (g_classify_RefusalOf.b1 p0_0 x15 y30) (0, y25.1, y25.2)) fun o39 => some (.inl ((w64 (x15.1 + 1)), o39.2.1, o39.2.2)) else some (.inl ((w64 (x15.1 + 1)), y25.1, y25.2))) else none) else some (.inr (x15.1, x15.2.1, x15.2.2)))
noncomputable def g_classify_RefusalOf.f (p0_0 : List UInt8) : Option (Int × Int) :=
  Option.bind (g_classify_ReadingsOf.f p0_0) fun y2 => (if ((y2.2 != 0) || (decide ((y2.1.length : Int) > 0))) then some (0, y2.2) else Option.bind (g_classify_words.f) fun y13 => Option.bind (iter (g_classify_RefusalOf.b0 p0_0 y13) (0, 0, (-1))) fun o18 => (if (o18.2.2 == (-1)) then some (o18.2.2, 6) else Option.bind (Option.bind (g_classify_inner.f p0_0) fun y67 => Option.bind ((if ((o18.2.2 == 5) && y67.2) then (if 0 ≤ y67.1 ∧ y67.1 < (p0_0.length : Int) then Option.bind (g_classify_isDigit.f (gt p0_0 y67.1)) fun y74 => some (!y74) else none) else some false)) fun z71 => (if z71 then some 6 else some o18.2.2)) fun z64 => some (z64, 3)))
set_option maxHeartbeats 4000000 in
theorem g_classify_RefusalOf.ok {p0_0 : List UInt8} {F : FZ} {r : Int × Int} (h : g_classify_RefusalOf.f p0_0 = some r) (hG : Gl F) :
    Cl EV 26 [strV p0_0] [] F (fun v S' F' => FLe F F' ∧ v = .tuple #[.int .i64 r.1, .int .i64 r.2] ∧ S' = []) := by
 refine Cl.of Tryz.func26 rfl (fun _ _ => rfl) (by kernel_rfl) fun s L nx0 hS => ?_
 unfold g_classify_RefusalOf.f at h
 refine WW.seq (WW.region ?_)
 refine q_nw hS (wn rfl) rfl rfl rfl (v := fun i => .pointer (some ⟨i, 0, none⟩)) (b := .row [strV p0_0] 9 0 true) (aop_box (hS.lk rfl) rfl [strV p0_0] rfl) fun s i1 hS => (q_seg0 tbok hS 2 [] [2, 3] [.int .i64 0, .int .i64 0] [] (by kernel_rfl) fun s hS => ?_)
 refine KW.nil (WW.seq ?_)
 refine WW.region (q_seg0 tbok hS 1 [0] [16] [strV p0_0] [i1] (by kernel_rfl) fun s hS => ?_)
 obtain ⟨y2, hy2, h⟩ := bind_some h
 refine q_cl hS (wn rfl) (vs := [strV p0_0]) (ws := [strV p0_0]) rfl rfl rfl rfl rfl 0 rfl (g_classify_ReadingsOf.ok hy2 hG) fun s v S' F4 hp3 hF hS => ?_
 obtain ⟨a5, z6, B8, hF9, rfl, rfl, h7⟩ := hp3
 refine q_seg0 tbok hS 5 [] [4, 5] [.slice a5 y2.1.length z6, .int .i64 y2.2] [] (by kernel_rfl) fun s hS => (KW.nil ?_)
 refine WW.seq (WW.seq ?_)
 refine WW.region (q_seg0 tbok hS 3 [] [22] [.bool (y2.2 != 0)] [] (by kernel_rfl) fun s hS => ?_)
 refine q_cut 4 (fun s => Stt EV s [(26, .bool ((y2.2 != 0) || (decide ((y2.1.length : Int) > 0)))), (1, .pointer (some ⟨i1, 0, none⟩)), (2, .int .i64 0), (3, .int .i64 0), (5, .int .i64 y2.2)] [B8, [(i1, .row [strV p0_0] 9 0 true)]] F4 L F nx0) ?_ fun s hS => ?_
 rcases bool_cases ((y2.2 != 0)) with hcj | hcj
 replace hS := hS.know (t := 22) rfl (congrArg Value.bool hcj)
 refine q_seg0 tbok hS 4 [] [26] [.bool true] [] (by kernel_rfl) fun s hS => (KW.nil ?_)
 exact (hS.know (t := 26) (u' := .bool ((y2.2 != 0) || (decide ((y2.1.length : Int) > 0)))) rfl (jn_or_t hcj)).subR rfl
 replace hS := hS.know (t := 22) rfl (congrArg Value.bool hcj)
 refine q_seg0 tbok hS 4 [] [26] [.bool (decide ((y2.1.length : Int) > 0))] [] (by kernel_rfl) fun s hS => (KW.nil ?_)
 exact (hS.know (t := 26) (u' := .bool ((y2.2 != 0) || (decide ((y2.1.length : Int) > 0)))) rfl (jn_or_f hcj)).subR rfl
 refine KW.nil (bc h (fun hc10 h => ?_) fun hc10 h => ?_)
 refine WW.condK hS rfl hc10 (WW.seq ?_)
 refine WW.region (q_seg0 tbok hS 3 [] [2, 3] [.int .i64 0, .int .i64 y2.2] [] (by kernel_rfl) fun s hS => ?_)
 refine KW.nil (WW.ret ?_)
 replace hS := hS.drop
 replace hS := hS.drop
 cases h
 exact fin2 hS (.inr rfl) 2 3 rfl rfl rfl ⟨(hF9), rfl, rfl⟩
 refine WW.condF hS rfl hc10 (WW.skip ?_)
 refine WW.seq (WW.region ?_)
 refine q_nw hS (wn rfl) rfl rfl rfl (v := fun i => .pointer (some ⟨i, 0, none⟩)) (b := .row [.int .i64 0] 3 0 true) (aop_alloc t0_3) fun s i11 hS => (q_nw hS (wn rfl) rfl rfl rfl (v := fun i => .pointer (some ⟨i, 0, none⟩)) (b := .row [.int .i64 0] 3 0 true) (aop_alloc t0_3) fun s i12 hS => ?_)
 refine q_seg tbok hS 2 [1, 0] [] [] [i11, i12] [[(i12, .row [.int .i64 0] 3 0 true)], [(i11, .row [.int .i64 (-1)] 3 0 true)], B8, [(i1, .row [strV p0_0] 9 0 true)]] (by kernel_rfl) fun s hS => (KW.nil ?_)
 refine WW.seq (WW.region ?_)
 refine q_pu hS (wn rfl) rfl rfl rfl (v := .func (.func 56) #[] #[.pointer (some ⟨i1, 0, none⟩), .pointer (some ⟨i12, 0, none⟩), .pointer (some ⟨i11, 0, none⟩)]) (aop_mf (map_lk hS (vs := []) rfl) (map_lk hS (vs := [.pointer (some ⟨i1, 0, none⟩), .pointer (some ⟨i12, 0, none⟩), .pointer (some ⟨i11, 0, none⟩)]) rfl)) fun s hS => (q_seg0 tbok hS 1 [] [8] [.func (.func 56) #[] #[.pointer (some ⟨i1, 0, none⟩), .pointer (some ⟨i12, 0, none⟩), .pointer (some ⟨i11, 0, none⟩)]] [] (by kernel_rfl) fun s hS => ?_)
 refine KW.nil (WW.seq ?_)
 refine WW.seq (WW.region ?_)
 obtain ⟨y13, hy13, h⟩ := bind_some h
 refine q_cR (g_classify_words.ok hy13) tbok hS 0 29 0 rfl (by kernel_rfl) fun s hS => (q_seg0 tbok hS 1 [] [30] [.int .i64 0] [] (by kernel_rfl) fun s hS => ?_)
 refine KW.nil (WW.block ?_)
 obtain ⟨o18, ho18, h⟩ := bind_some h
 refine WW.loop (LW.iter ho18 (fun (x15 : Int × Int × Int) s => ∃ (F16 : FZ), Stt EV s [(1, .pointer (some ⟨i1, 0, none⟩)), (2, .int .i64 0), (3, .int .i64 0), (6, .pointer (some ⟨i11, 0, none⟩)), (8, .func (.func 56) #[] #[.pointer (some ⟨i1, 0, none⟩), .pointer (some ⟨i12, 0, none⟩), .pointer (some ⟨i11, 0, none⟩)]), (29, .agg (List.map strV y13).toArray), (30, .int .i64 x15.1)] [[(i12, .row [.int .i64 x15.2.1] 3 0 true)], [(i11, .row [.int .i64 x15.2.2] 3 0 true)], B8, [(i1, .row [strV p0_0] 9 0 true)]] F16 L F nx0 ∧ FLe F4 F16) (fun (y19 : Int × Int × Int) e s => (e = .exit 0 ∧ ∃ (F20 : FZ), Stt EV s [(1, .pointer (some ⟨i1, 0, none⟩)), (2, .int .i64 0), (3, .int .i64 0), (6, .pointer (some ⟨i11, 0, none⟩)), (8, .func (.func 56) #[] #[.pointer (some ⟨i1, 0, none⟩), .pointer (some ⟨i12, 0, none⟩), .pointer (some ⟨i11, 0, none⟩)]), (29, .agg (List.map strV y13).toArray), (30, .int .i64 y19.1)] [[(i12, .row [.int .i64 y19.2.1] 3 0 true)], [(i11, .row [.int .i64 y19.2.2] 3 0 true)], B8, [(i1, .row [strV p0_0] 9 0 true)]] F20 L F nx0 ∧ FLe F4 F20)) ⟨_, (hS.subR rfl), (FLe.refl _)⟩ ?_ ?_)
 clear hS
 rintro x15 s ⟨F16, hS, hF17⟩ o18' h22
 unfold g_classify_RefusalOf.b0 at h22
 refine WW.seq (WW.region ?_)
 refine q_seg0 tbok hS 1 [] [31] [.bool (decide (x15.1 < 44))] [] (by kernel_rfl) fun s hS => (KW.nil ?_)
 refine WW.seq (bc h22 (fun hc23 h22 => ?_) fun hc23 h22 => ?_)
 refine WW.condK hS rfl hc23 (WW.skip ?_)
 refine WW.seq (WW.block ?_)
 refine WW.seq (WW.region ?_)
 refine q_seg0 tbok hS 1 [] [32] [.int .i64 x15.1] [] (by kernel_rfl) fun s hS => ?_
 obtain ⟨hk24, h22⟩ := ite_some h22
 refine q_pu hS (wn rfl) rfl rfl rfl (v := strV (gt y13 x15.1)) (aop_idxA (f := strV) (l := y13) tv101 ts9 tl9 (fun _ => rfl) (hS.lk rfl) (hS.lk rfl) hk24) fun s hS => (q_seg0 tbok hS 2 [] [9, 10] [.int .i64 x15.1, strV (gt y13 x15.1)] [] (by kernel_rfl) fun s hS => ?_)
 refine KW.nil (WW.seq ?_)
 refine WW.region ?_
 obtain ⟨y25, hy25, h22⟩ := bind_some h22
 replace hS := hS.pull 1
 replace hS := hS.pull 1
 replace hS := hS.pull 3
 refine q_cK (g_classify_RefusalOf_1.ok hy25 (hG.mono (FLe.trans hF9 hF17))) tbok hS 3 37 3 rfl (by kernel_rfl) fun s v S' F27 hp26 hF hS => ?_
 obtain ⟨hF28, rfl, rfl⟩ := hp26
 refine KW.nil (WW.seq ?_)
 refine WW.region (q_seg0 tbok hS 2 [] [39] [.bool (x15.1 == 28)] [] (by kernel_rfl) fun s hS => ?_)
 refine KW.nil (bc h22 (fun hc29 h22 => ?_) fun hc29 h22 => ?_)
 refine WW.condK hS rfl hc29 (WW.seq ?_)
 refine WW.region ?_
 obtain ⟨y30, hy30, h22⟩ := bind_some h22
 refine q_cK (g_classify_types.ok hy30) tbok hS 0 40 0 rfl (by kernel_rfl) fun s v S' F' hp31 hF hS => ?_
 obtain ⟨a32, z33, B35, rfl, rfl, rfl, h34⟩ := hp31
 refine q_seg0 tbok hS 2 [] [41, 42] [.int .i64 (y30.length : Int), .int .i64 0] [] (by kernel_rfl) fun s hS => (KW.nil ?_)
 refine WW.block ?_
 obtain ⟨o39, ho39, h22⟩ := bind_some h22
 refine WW.loop (LW.iter ho39 (fun (x36 : Int × Int × Int) s => ∃ (F37 : FZ), Stt EV s [(1, .pointer (some ⟨i1, 0, none⟩)), (2, .int .i64 0), (3, .int .i64 0), (6, .pointer (some ⟨i11, 0, none⟩)), (8, .func (.func 56) #[] #[.pointer (some ⟨i1, 0, none⟩), .pointer (some ⟨i12, 0, none⟩), .pointer (some ⟨i11, 0, none⟩)]), (9, .int .i64 x15.1), (29, .agg (List.map strV y13).toArray), (30, .int .i64 x15.1), (40, .slice a32 y30.length z33), (41, .int .i64 (y30.length : Int)), (42, .int .i64 x36.1)] [B35, [(i1, .row [strV p0_0] 9 0 true)], [(i12, .row [.int .i64 x36.2.1] 3 0 true)], [(i11, .row [.int .i64 x36.2.2] 3 0 true)], B8] F37 L F nx0 ∧ FLe F27 F37) (fun (y40 : Int × Int × Int) e s => (e = .exit 2 ∧ ∃ (F41 : FZ), Stt EV s [(1, .pointer (some ⟨i1, 0, none⟩)), (2, .int .i64 0), (3, .int .i64 0), (6, .pointer (some ⟨i11, 0, none⟩)), (8, .func (.func 56) #[] #[.pointer (some ⟨i1, 0, none⟩), .pointer (some ⟨i12, 0, none⟩), .pointer (some ⟨i11, 0, none⟩)]), (9, .int .i64 x15.1), (29, .agg (List.map strV y13).toArray), (30, .int .i64 x15.1), (40, .slice a32 y30.length z33), (41, .int .i64 (y30.length : Int)), (42, .int .i64 y40.1)] [B35, [(i1, .row [strV p0_0] 9 0 true)], [(i12, .row [.int .i64 y40.2.1] 3 0 true)], [(i11, .row [.int .i64 y40.2.2] 3 0 true)], B8] F41 L F nx0 ∧ FLe F27 F41)) ⟨_, (hS.subR rfl), (FLe.refl _)⟩ ?_ ?_)
 clear hS
 rintro x36 s ⟨F37, hS, hF38⟩ o39' h43
 unfold g_classify_RefusalOf.b1 at h43
 refine WW.seq (WW.region ?_)
 refine q_seg0 tbok hS 1 [] [43] [.bool (decide (x36.1 < (y30.length : Int)))] [] (by kernel_rfl) fun s hS => (KW.nil ?_)
 refine WW.seq (bc h43 (fun hc44 h43 => ?_) fun hc44 h43 => ?_)
 refine WW.condK hS rfl hc44 (WW.skip ?_)
 refine WW.seq (WW.block ?_)
 refine WW.seq (WW.region ?_)
 obtain ⟨hk45, h43⟩ := ite_some h43
 obtain ⟨i51, cs52, ex53, rfl, rfl, rfl, hC54⟩ := Own.some_ h34 (by omega)
 obtain ⟨c46, hR47, hN49, hN48, hT50⟩ := Cells.loadF (hC54.mono hF38) ex53 hk45 (z := 1) rfl
 obtain rfl := hR47
 refine q_pu hS (wn rfl) rfl rfl rfl (v := .pointer (some ⟨i51, 0 + (x36.1).toNat * 1, none⟩)) (aop_ia (hS.lk rfl) (hS.lk rfl) te103 hk45) fun s hS => (q_ld hS (wn rfl) rfl rfl rfl (hS.at (k := 0) rfl) tg9 (v := strV (gt y30 x36.1)) hN48 fun s hS => ?_)
 refine q_seg0 tbok hS 1 [] [12] [strV (gt y30 x36.1)] [] (by kernel_rfl) fun s hS => (KW.nil ?_)
 refine WW.region ?_
 obtain ⟨y55, hy55, h43⟩ := bind_some h43
 replace hS := hS.pull 3
 replace hS := hS.pull 3
 replace hS := hS.pull 3
 refine q_cK (g_classify_RefusalOf_1.ok hy55 (hG.mono (FLe.trans hF9 (FLe.trans hF17 (FLe.trans hF28 hF38))))) tbok hS 3 49 3 rfl (by kernel_rfl) fun s v S' F57 hp56 hF hS => ?_
 obtain ⟨hF58, rfl, rfl⟩ := hp56
 refine KW.nil (WW.region ?_)
 refine q_seg0 tbok hS 2 [] [42] [.int .i64 (w64 (x36.1 + 1))] [] (by kernel_rfl) fun s hS => (KW.nil ?_)
 replace hS := hS.pull 4
 replace hS := hS.pull 3
 replace hS := hS.pull 3
 replace hS := hS.pull 3
 replace hS := hS.pull 4
 obtain rfl := Option.some.inj h43
 exact ⟨_, rfl, _, (hS.subR rfl), (FLe.trans hF38 hF58)⟩
 refine WW.condF hS rfl hc44 (WW.exit ?_)
 refine thenQ_exit ?_
 obtain rfl := Option.some.inj h43
 exact ⟨_, rfl, rfl, _, (hS.subR rfl), hF38⟩
 clear hS
 rintro e s ⟨rfl, F59, hS, hF60⟩
 refine blockQ_exit (WW.region ?_)
 refine q_seg0 tbok hS 2 [] [30] [.int .i64 (w64 (x15.1 + 1))] [] (by kernel_rfl) fun s hS => (KW.nil ?_)
 replace hS := hS.drop
 replace hS := hS.pull 3
 replace hS := hS.pull 3
 replace hS := hS.pull 3
 obtain rfl := Option.some.inj h22
 exact ⟨_, rfl, _, (hS.subR rfl), (FLe.trans hF17 (FLe.trans hF28 hF60))⟩
 refine WW.condF hS rfl hc29 (WW.skip ?_)
 refine WW.region (q_seg0 tbok hS 2 [] [30] [.int .i64 (w64 (x15.1 + 1))] [] (by kernel_rfl) fun s hS => ?_)
 refine KW.nil ?_
 replace hS := hS.pull 3
 replace hS := hS.pull 3
 replace hS := hS.pull 3
 obtain rfl := Option.some.inj h22
 exact ⟨_, rfl, _, (hS.subR rfl), (FLe.trans hF17 hF28)⟩
 refine WW.condF hS rfl hc23 (WW.exit ?_)
 refine thenQ_exit ?_
 obtain rfl := Option.some.inj h22
 exact ⟨_, rfl, rfl, _, (hS.subR rfl), hF17⟩
 clear hS
 rintro e s ⟨rfl, F61, hS, hF62⟩
 refine blockQ_exit (WW.seq ?_)
 refine WW.seq (WW.region ?_)
 refine q_seg0 tbok hS 2 [1] [53] [.bool (o18.2.2 == (-1))] [i11] (by kernel_rfl) fun s hS => (KW.nil ?_)
 refine bc h (fun hc63 h => ?_) fun hc63 h => ?_
 refine WW.condK hS rfl hc63 (WW.seq ?_)
 refine WW.region (q_seg0 tbok hS 3 [1] [2, 3] [.int .i64 o18.2.2, .int .i64 6] [i11] (by kernel_rfl) fun s hS => ?_)
 refine KW.nil (WW.ret ?_)
 replace hS := hS.drop
 replace hS := hS.drop
 replace hS := hS.drop
 replace hS := hS.drop
 cases h
 exact fin2 hS (.inr rfl) 2 3 rfl rfl rfl ⟨((FLe.trans hF9 hF62)), rfl, rfl⟩
 refine WW.condF hS rfl hc63 (WW.skip ?_)
 obtain ⟨z64, hz64, h⟩ := bind_some h
 refine WW.seqJ (fun s => ∃ (F65 : FZ), Stt EV s [(2, .int .i64 0), (3, .int .i64 0), (6, .pointer (some ⟨i11, 0, none⟩))] [[(i12, .row [.int .i64 o18.2.1] 3 0 true)], [(i11, .row [.int .i64 z64] 3 0 true)], B8, [(i1, .row [strV p0_0] 9 0 true)]] F65 L F nx0 ∧ FLe F61 F65) ?_ ?_
 refine WW.seq (WW.region ?_)
 refine q_seg0 tbok hS 1 [3] [56] [strV p0_0] [i1] (by kernel_rfl) fun s hS => ?_
 obtain ⟨y67, hy67, hz64⟩ := bind_some hz64
 refine q_cl hS (wn rfl) (vs := [strV p0_0]) (ws := [strV p0_0]) rfl rfl rfl rfl rfl 0 rfl (g_classify_inner.ok hy67 (hG.mono (FLe.trans hF9 hF62))) fun s v S' F69 hp68 hF hS => ?_
 obtain ⟨hF70, rfl, rfl⟩ := hp68
 refine q_seg0 tbok hS 5 [] [13, 14] [.int .i64 y67.1, .bool y67.2] [] (by kernel_rfl) fun s hS => (KW.nil ?_)
 refine WW.seq (WW.region ?_)
 refine q_seg0 tbok hS 3 [1] [62] [.bool (o18.2.2 == 5)] [i11] (by kernel_rfl) fun s hS => (q_cut 2 (fun s => Stt EV s [(64, .bool ((o18.2.2 == 5) && y67.2)), (1, .pointer (some ⟨i1, 0, none⟩)), (2, .int .i64 0), (3, .int .i64 0), (6, .pointer (some ⟨i11, 0, none⟩)), (13, .int .i64 y67.1)] [[(i12, .row [.int .i64 o18.2.1] 3 0 true)], [(i11, .row [.int .i64 o18.2.2] 3 0 true)], B8, [(i1, .row [strV p0_0] 9 0 true)]] F69 L F nx0) ?_ fun s hS => ?_)
 rcases bool_cases ((o18.2.2 == 5)) with hcj | hcj
 replace hS := hS.know (t := 62) rfl (congrArg Value.bool hcj)
 refine q_seg0 tbok hS 2 [] [64] [.bool y67.2] [] (by kernel_rfl) fun s hS => (KW.nil ?_)
 exact (hS.know (t := 64) (u' := .bool ((o18.2.2 == 5) && y67.2)) rfl (jn_and_t hcj)).subR rfl
 replace hS := hS.know (t := 62) rfl (congrArg Value.bool hcj)
 refine q_seg0 tbok hS 2 [] [64] [.bool false] [] (by kernel_rfl) fun s hS => (KW.nil ?_)
 exact (hS.know (t := 64) (u' := .bool ((o18.2.2 == 5) && y67.2)) rfl (jn_and_f hcj)).subR rfl
 refine q_seg0 tbok hS 1 [] [65] [.bool ((o18.2.2 == 5) && y67.2)] [] (by kernel_rfl) fun s hS => ?_
 obtain ⟨z71, hz71, hz64⟩ := bind_some hz64
 refine q_cut 6 (fun s => Stt EV s [(71, .bool z71), (2, .int .i64 0), (3, .int .i64 0), (6, .pointer (some ⟨i11, 0, none⟩))] [[(i12, .row [.int .i64 o18.2.1] 3 0 true)], [(i11, .row [.int .i64 o18.2.2] 3 0 true)], B8, [(i1, .row [strV p0_0] 9 0 true)]] F69 L F nx0) ?_ fun s hS => ?_
 refine bc hz71 (fun hc72 hz71 => ?_) fun hc72 hz71 => ?_
 replace hS := hS.kb 64 hc72 rfl
 replace hS := hS.kb 65 hc72 rfl
 refine q_seg0 tbok hS 2 [3] [66, 67] [strV p0_0, .int .i64 y67.1] [i1] (by kernel_rfl) fun s hS => ?_
 obtain ⟨hk73, hz71⟩ := ite_some hz71
 refine q_pu hS (wt hS rfl rfl rfl rfl) rfl rfl rfl (v := vB (gt p0_0 y67.1)) (aop_idxS tu9 (hS.lk rfl) (hS.lk rfl) hk73) fun s hS => ?_
 obtain ⟨y74, hy74, hz71⟩ := bind_some hz71
 refine q_cl hS (wt hS rfl rfl rfl rfl) (vs := [vB (gt p0_0 y67.1)]) (ws := [vB (gt p0_0 y67.1)]) rfl rfl rfl rfl rfl 0 rfl (g_classify_isDigit.ok hy74) fun s v S' F' hp75 hF hS => ?_
 obtain ⟨rfl, rfl, rfl⟩ := hp75
 refine q_seg0 tbok hS 2 [] [71] [.bool (!y74)] [] (by kernel_rfl) fun s hS => (KW.nil ?_)
 obtain rfl := Option.some.inj hz71
 exact hS.subR rfl
 replace hS := hS.kb 64 hc72 rfl
 replace hS := hS.kb 65 hc72 rfl
 refine q_seg0 tbok hS 6 [] [71] [.bool false] [] (by kernel_rfl) fun s hS => (KW.nil ?_)
 obtain rfl := Option.some.inj hz71
 exact hS.subR rfl
 refine KW.nil (bc hz64 (fun hc76 hz64 => ?_) fun hc76 hz64 => ?_)
 refine WW.condK hS rfl hc76 (WW.region ?_)
 refine q_seg tbok hS 1 [1] [] [] [i11] [[(i12, .row [.int .i64 o18.2.1] 3 0 true)], [(i11, .row [.int .i64 6] 3 0 true)], B8, [(i1, .row [strV p0_0] 9 0 true)]] (by kernel_rfl) fun s hS => (KW.nil ?_)
 obtain rfl := Option.some.inj hz64
 exact ⟨_, (hS.subR rfl), hF70⟩
 refine WW.condF hS rfl hc76 (WW.skip ?_)
 obtain rfl := Option.some.inj hz64
 exact ⟨_, (hS.subR rfl), hF70⟩
 rintro s ⟨F65, hS, hF66⟩
 refine WW.seq (WW.region ?_)
 refine q_seg0 tbok hS 3 [1] [2, 3] [.int .i64 z64, .int .i64 3] [i11] (by kernel_rfl) fun s hS => (KW.nil ?_)
 refine WW.ret ?_
 replace hS := hS.drop
 replace hS := hS.drop
 replace hS := hS.drop
 replace hS := hS.drop
 cases h
 exact fin2 hS (.inr rfl) 2 3 rfl rfl rfl ⟨((FLe.trans hF9 (FLe.trans hF62 hF66))), rfl, rfl⟩
/-! ### formulary/formularybase.Before (74) -/
noncomputable def g_base_Before.F (self : (List Int × List Int) → Option (Bool)) (p0_0 : List Int) (p1_0 : List Int) : Option (Bool) :=
  (if (((p0_0.length : Int) == 0) || ((p1_0.length : Int) == 0)) then some (decide ((p0_0.length : Int) < (p1_0.length : Int))) else (if 0 ≤ (0 : Int) ∧ (0 : Int) < (p0_0.length : Int) then (if 0 ≤ (0 : Int) ∧ (0 : Int) < (p1_0.length : Int) then (if (decide ((gt p0_0 (0 : Int)) < (gt p1_0 (0 : Int)))) then some true else (if 0 ≤ (0 : Int) ∧ (0 : Int) < (p0_0.length : Int) then (if 0 ≤ (0 : Int) ∧ (0 : Int) < (p1_0.length : Int) then (if ((gt p0_0 (0 : Int)) == (gt p1_0 (0 : Int))) then (if 0 ≤ (1 : Int) ∧ (1 : Int) ≤ (p0_0.length : Int) ∧ (p0_0.length : Int) ≤ (p0_0.length : Int) then (if 0 ≤ (1 : Int) ∧ (1 : Int) ≤ (p1_0.length : Int) ∧ (p1_0.length : Int) ≤ (p1_0.length : Int) then Option.bind (self ((mid p0_0 (1 : Int) (p0_0.length : Int)), (mid p1_0 (1 : Int) (p1_0.length : Int)))) fun y44 => some y44 else none) else none) else some false) else none) else none)) else none) else none))
noncomputable def g_base_Before.f (p0_0 : List Int) (p1_0 : List Int) : Option (Bool) := fixO (fun self (x : List Int × List Int) => g_base_Before.F self x.1 x.2) (p0_0, p1_0)
set_option maxHeartbeats 4000000 in
theorem g_base_Before.okN (n : Nat) : ∀ {ap0_2 : Option Addr} {zp0_3 : Nat} {ap1_2 : Option Addr} {zp1_3 : Nat} {p0_0 : List Int} {p1_0 : List Int} {F : FZ} {r : Bool} (h : fixN (fun self (x : List Int × List Int) => g_base_Before.F self x.1 x.2) n (p0_0, p1_0) = some r) (hp0_4 : Frz (elI .i64 3) F ap0_2 zp0_3 p0_0) (hp1_4 : Frz (elI .i64 3) F ap1_2 zp1_3 p1_0),
    Cl EV 74 [.slice ap0_2 p0_0.length zp0_3, .slice ap1_2 p1_0.length zp1_3] [] F (fun v S' F' => F = F' ∧ v = .bool r ∧ S' = []) := by
 induction n with
 | zero => intros; rename_i h _; cases ‹fixN _ 0 _ = some _›
 | succ n ih =>
 intro ap0_2 zp0_3 ap1_2 zp1_3 p0_0 p1_0 F r h hp0_4 hp1_4
 refine Cl.of Tryz.func74 rfl (fun _ _ => rfl) (by kernel_rfl) fun s L nx0 hS => ?_
 replace h : g_base_Before.F (fixN (fun self (x : List Int × List Int) => g_base_Before.F self x.1 x.2) n) p0_0 p1_0 = some r := h
 generalize hself : fixN (fun self (x : List Int × List Int) => g_base_Before.F self x.1 x.2) n = self at h ih
 unfold g_base_Before.F at h
 refine WW.seq (WW.region ?_)
 refine q_seg0 tbok hS 1 [] [4] [.bool false] [] (by kernel_rfl) fun s hS => (KW.nil ?_)
 refine WW.seq (WW.seq ?_)
 refine WW.region (q_seg0 tbok hS 4 [] [8] [.bool ((p0_0.length : Int) == 0)] [] (by kernel_rfl) fun s hS => ?_)
 refine q_cut 4 (fun s => Stt EV s [(12, .bool (((p0_0.length : Int) == 0) || ((p1_0.length : Int) == 0))), (0, .slice ap0_2 p0_0.length zp0_3), (1, .slice ap1_2 p1_0.length zp1_3), (4, .bool false)] [] F L F nx0) ?_ fun s hS => ?_
 rcases bool_cases (((p0_0.length : Int) == 0)) with hcj | hcj
 replace hS := hS.know (t := 8) rfl (congrArg Value.bool hcj)
 refine q_seg0 tbok hS 4 [] [12] [.bool true] [] (by kernel_rfl) fun s hS => (KW.nil ?_)
 exact (hS.know (t := 12) (u' := .bool (((p0_0.length : Int) == 0) || ((p1_0.length : Int) == 0))) rfl (jn_or_t hcj)).subR rfl
 replace hS := hS.know (t := 8) rfl (congrArg Value.bool hcj)
 refine q_seg0 tbok hS 4 [] [12] [.bool ((p1_0.length : Int) == 0)] [] (by kernel_rfl) fun s hS => (KW.nil ?_)
 exact (hS.know (t := 12) (u' := .bool (((p0_0.length : Int) == 0) || ((p1_0.length : Int) == 0))) rfl (jn_or_f hcj)).subR rfl
 refine KW.nil (bc h (fun hc1 h => ?_) fun hc1 h => ?_)
 refine WW.condK hS rfl hc1 (WW.seq ?_)
 refine WW.region (q_seg0 tbok hS 6 [] [4] [.bool (decide ((p0_0.length : Int) < (p1_0.length : Int)))] [] (by kernel_rfl) fun s hS => ?_)
 refine KW.nil (WW.ret ?_)
 cases h
 exact fin1 hS (.inr rfl) 4 rfl rfl ⟨rfl, rfl, rfl⟩
 refine WW.condF hS rfl hc1 (WW.skip ?_)
 refine WW.seq (WW.regionD (i := [[], [], [], [2, 1, 0], [2, 1, 0], [2, 1, 0], [], [], [], [], [], [10, 9, 8], [10, 9, 8], [10, 9, 8], [], [], [], [], [17, 16], [17, 16], [], [], [], []]) (by kernel_rfl) ?_)
 have hq := RS.start []
 refine K.seg tbok hS hq 1 [18] [.slice ap0_2 p0_0.length zp0_3] (by kernel_rfl) fun s rs hS hq => ?_
 obtain ⟨hk2, h⟩ := ite_some h
 obtain ⟨i8, of9, rfl⟩ := Frz.addr hp0_4 (by omega)
 obtain ⟨_, _, _, _, c3, hF10, hR4, hN5, hN6, hT7⟩ := Frz.at hp0_4 hk2 (m := 1) rfl
 obtain rfl := hR4
 refine K.pu hS hq rfl (wn rfl) rfl rfl rfl (v := .pointer (some ⟨i8, of9 + ((0 : Int)).toNat * 1, none⟩)) (aop_ia (hS.lk rfl) (hS.lk rfl) te22 hk2) fun s rs hS hq => ?_
 replace hq := hq.more i8 rfl rfl rfl
 refine K.ld hS hq rfl (wn rfl) rfl rfl rfl (hS.fat hF10) tg3 (v := .int .i64 (gt p0_0 (0 : Int))) hN5 0 rfl rfl fun s rs hS hq => (K.seg tbok hS hq 1 [21] [.slice ap1_2 p1_0.length zp1_3] (by kernel_rfl) fun s rs hS hq => ?_)
 obtain ⟨hk11, h⟩ := ite_some h
 obtain ⟨i17, of18, rfl⟩ := Frz.addr hp1_4 (by omega)
 obtain ⟨_, _, _, _, c12, hF19, hR13, hN14, hN15, hT16⟩ := Frz.at hp1_4 hk11 (m := 1) rfl
 obtain rfl := hR13
 refine K.pu hS hq rfl (wn rfl) rfl rfl rfl (v := .pointer (some ⟨i17, of18 + ((0 : Int)).toNat * 1, none⟩)) (aop_ia (hS.lk rfl) (hS.lk rfl) te22 hk11) fun s rs hS hq => ?_
 replace hq := hq.more i17 rfl rfl rfl
 refine K.ld hS hq rfl (wn rfl) rfl rfl rfl (hS.fat hF19) tg3 (v := .int .i64 (gt p1_0 (0 : Int))) hN14 1 rfl rfl fun s rs hS hq => (K.seg tbok hS hq 2 [25] [.bool (decide ((gt p0_0 (0 : Int)) < (gt p1_0 (0 : Int))))] (by kernel_rfl) fun s rs hS hq => ?_)
 refine bc h (fun hc20 h => ?_) fun hc20 h => ?_
 replace hS := hS.kb 25 hc20 rfl
 refine K.seg tbok hS hq 8 [33] [undef] (by kernel_rfl) fun s rs hS hq => (K.no hS hq rfl (wu hS rfl rfl rfl) rfl fun s rs hS hq => ?_)
 refine K.no hS hq rfl (wu hS rfl rfl rfl) rfl fun s rs hS hq => (K.no hS hq rfl (wu hS rfl rfl rfl) rfl fun s rs hS hq => ?_)
 refine K.no hS hq rfl (wu hS rfl rfl rfl) rfl fun s rs hS hq => (K.no hS hq rfl (wu hS rfl rfl rfl) rfl fun s rs hS hq => ?_)
 refine K.seg tbok hS hq 3 [4] [.bool true] (by kernel_rfl) fun s rs hS hq => (KW.nil ?_)
 refine WW.ret ?_
 cases h
 exact fin1 hS (.inr rfl) 4 rfl rfl ⟨rfl, rfl, rfl⟩
 replace hS := hS.kb 25 hc20 rfl
 refine K.seg tbok hS hq 1 [26] [.slice (some ⟨i8, of9, none⟩) p0_0.length zp0_3] (by kernel_rfl) fun s rs hS hq => ?_
 obtain ⟨hk21, h⟩ := ite_some h
 obtain ⟨_, _, _, _, c22, hF27, hR23, hN24, hN25, hT26⟩ := Frz.at hp0_4 hk21 (m := 1) rfl
 obtain rfl := hR23
 refine K.pu hS hq rfl (wt hS rfl rfl rfl rfl) rfl rfl rfl (v := .pointer (some ⟨i8, of9 + ((0 : Int)).toNat * 1, none⟩)) (aop_ia (hS.lk rfl) (hS.lk rfl) te22 hk21) fun s rs hS hq => (K.ld hS hq rfl (wt hS rfl rfl rfl rfl) rfl rfl rfl (hS.fat hF27) tg3 (v := .int .i64 (gt p0_0 (0 : Int))) hN24 0 rfl rfl fun s rs hS hq => ?_)
 refine K.seg tbok hS hq 1 [29] [.slice (some ⟨i17, of18, none⟩) p1_0.length zp1_3] (by kernel_rfl) fun s rs hS hq => ?_
 obtain ⟨hk28, h⟩ := ite_some h
 obtain ⟨_, _, _, _, c29, hF34, hR30, hN31, hN32, hT33⟩ := Frz.at hp1_4 hk28 (m := 1) rfl
 obtain rfl := hR30
 refine K.pu hS hq rfl (wt hS rfl rfl rfl rfl) rfl rfl rfl (v := .pointer (some ⟨i17, of18 + ((0 : Int)).toNat * 1, none⟩)) (aop_ia (hS.lk rfl) (hS.lk rfl) te22 hk28) fun s rs hS hq => (K.ld hS hq rfl (wt hS rfl rfl rfl rfl) rfl rfl rfl (hS.fat hF34) tg3 (v := .int .i64 (gt p1_0 (0 : Int))) hN31 1 rfl rfl fun s rs hS hq => ?_)
 refine K.seg tbok hS hq 2 [33] [.bool ((gt p0_0 (0 : Int)) == (gt p1_0 (0 : Int)))] (by kernel_rfl) fun s rs hS hq => (bc h (fun hc35 h => ?_) fun hc35 h => ?_)
 replace hS := hS.kb 33 hc35 rfl
 refine K.seg tbok hS hq 1 [34] [.slice (some ⟨i8, of9, none⟩) p0_0.length zp0_3] (by kernel_rfl) fun s rs hS hq => ?_
 obtain ⟨hk36, h⟩ := ite_some h
 obtain ⟨a37, he38, hz39⟩ := Frz.slice hp0_4 hk36 (m := 1) rfl
 refine K.pu hS hq rfl (wt hS rfl rfl rfl rfl) rfl rfl rfl (v := .slice a37 (mid p0_0 (1 : Int) (p0_0.length : Int)).length zp0_3) (aop_slSl te22 (hS.lk rfl) (i := (1 : Int)) (h := (p0_0.length : Int)) (bnd_eq hS rfl) rfl he38) fun s rs hS hq => (K.seg tbok hS hq 1 [36] [.slice (some ⟨i17, of18, none⟩) p1_0.length zp1_3] (by kernel_rfl) fun s rs hS hq => ?_)
 obtain ⟨hk40, h⟩ := ite_some h
 obtain ⟨a41, he42, hz43⟩ := Frz.slice hp1_4 hk40 (m := 1) rfl
 refine K.pu hS hq rfl (wt hS rfl rfl rfl rfl) rfl rfl rfl (v := .slice a41 (mid p1_0 (1 : Int) (p1_0.length : Int)).length zp1_3) (aop_slSl te22 (hS.lk rfl) (i := (1 : Int)) (h := (p1_0.length : Int)) (bnd_eq hS rfl) rfl he42) fun s rs hS hq => ?_
 obtain ⟨y44, hy44, h⟩ := bind_some h
 refine K.cl hS hq rfl (wt hS rfl rfl rfl rfl) (vs := [.slice a37 (mid p0_0 (1 : Int) (p0_0.length : Int)).length zp0_3, .slice a41 (mid p1_0 (1 : Int) (p1_0.length : Int)).length zp1_3]) (ws := [.slice a37 (mid p0_0 (1 : Int) (p0_0.length : Int)).length zp0_3, .slice a41 (mid p1_0 (1 : Int) (p1_0.length : Int)).length zp1_3]) rfl rfl rfl rfl rfl 0 rfl (ih hy44 hz39 hz43)  [0, 1] rfl rfl (aw_f rfl hF27 (aw_f rfl hF34 aw_n)) fun s rs v S' F' hp45 hF hS hq => ?_
 obtain ⟨rfl, rfl, rfl⟩ := hp45
 refine K.seg tbok hS hq 3 [4] [.bool y44] (by kernel_rfl) fun s rs hS hq => (KW.nil ?_)
 refine WW.ret ?_
 cases h
 exact fin1 hS (.inr rfl) 4 rfl rfl ⟨rfl, rfl, rfl⟩
 replace hS := hS.kb 33 hc35 rfl
 refine K.seg tbok hS hq 8 [4] [.bool false] (by kernel_rfl) fun s rs hS hq => (KW.nil ?_)
 refine WW.ret ?_
 cases h
 exact fin1 hS (.inr rfl) 4 rfl rfl ⟨rfl, rfl, rfl⟩
theorem g_base_Before.ok {ap0_2 : Option Addr} {zp0_3 : Nat} {ap1_2 : Option Addr} {zp1_3 : Nat} {p0_0 : List Int} {p1_0 : List Int} {F : FZ} {r : Bool} (h : g_base_Before.f p0_0 p1_0 = some r) (hp0_4 : Frz (elI .i64 3) F ap0_2 zp0_3 p0_0) (hp1_4 : Frz (elI .i64 3) F ap1_2 zp1_3 p1_0) :
    Cl EV 74 [.slice ap0_2 p0_0.length zp0_3, .slice ap1_2 p1_0.length zp1_3] [] F (fun v S' F' => F = F' ∧ v = .bool r ∧ S' = []) := by
  obtain ⟨n, hn⟩ := fixO_some h
  exact g_base_Before.okN n hn hp0_4 hp1_4
/-! ### formulary/formularybase.Ints (42) -/
end Go.Proofs.YtcafgoomipkljaaGreatDoorAi
