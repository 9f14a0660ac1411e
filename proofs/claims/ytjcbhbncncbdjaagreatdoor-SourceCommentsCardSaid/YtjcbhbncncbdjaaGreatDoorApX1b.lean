import Derived.Test.YtjcbhbncncbdjaaGreatDoorApX1a
namespace Go.Proofs.YtjcbhbncncbdjaaGreatDoorAi
set_option maxHeartbeats 4000000
open Go Go.RowKit
set_option linter.unusedVariables false
set_option linter.unusedSimpArgs false
set_option maxRecDepth 100000
noncomputable def g_9.f (pA:List UInt8) (pB:Bool) (pC:List (List UInt8)):Option ((List (Int×List UInt8×(List (Int×Int×Int))))×Int×Int) :=
  Option.bind (g_10.f pA pB pC) fun y2=>(qu y2.1 ((if(y2.2.2 != 0) then some (([]:List (Int×List UInt8×(List (Int×Int×Int)))),y2.2.1,y2.2.2) else none)) fun x10=>(if(y2.2.2 != 0) then some (([]:List (Int×List UInt8×(List (Int×Int×Int)))),y2.2.1,y2.2.2) else some (x10.2.2,0,0)))
theorem g_9.ok {aE:Option Addr} {zH:Nat} {pA:List UInt8} {pB:Bool} {pC:List (List UInt8)} {F:FZ} {r:(List (Int×List UInt8×(List (Int×Int×Int))))×Int×Int} (h:g_9.f pA pB pC=some r) (hI:Frz (elS 9) F aE zH pC) :
    Cl EV 17 [.agg #[aa pA,.bool pB,.slice aE pC.length zH]] [] F (fun v S' F'=> ∃(ra1:Option Addr) (rz2:Nat) (rB4:Seg),FLe F F'∧v= .tuple #[.slice ra1 r.1.length rz2,.int .i64 r.2.1,.int .i64 r.2.2]∧S'= [rB4]∧Own cD F' ra1 rz2 r.1 rB4):=by
 refine Cl.of Tryz.func17 rfl (fun _ _=>rfl) (by kernel_rfl) fun s L nx0 hS=>?_
 unfold g_9.f at h
 refine WW.seq (WW.region ?_)
 refine dr hS (wn rfl) rfl rfl rfl (v:=fun i=> .pointer (some ⟨i,0,none⟩)) (b:= .row [aa pA,.bool pB,.slice aE pC.length zH] 38 0 true) (cG (hS.lk rfl) rfl [aa pA,.bool pB,.slice aE pC.length zH] rfl) fun s i1 hS=>(sg0 hS 3 [] [2,3,4] [.slice none 0 0,.int .i64 0,.int .i64 0] [] (by kernel_rfl) fun s hS=>?_)
 refine KW.nil (WW.seq ?_)
 refine WW.region (sg0 hS 1 [0] [9] [.agg #[aa pA,.bool pB,.slice aE pC.length zH]] [i1] (by kernel_rfl) fun s hS=>?_)
 obtain⟨y2,hy2,h⟩:=bind_some h
 refine dJ hS (wn rfl) (vs:=[.agg #[aa pA,.bool pB,.slice aE pC.length zH]]) (ws:=[.agg #[aa pA,.bool pB,.slice aE pC.length zH]]) rfl rfl rfl rfl rfl 0 rfl (g_10.ok hy2 hI) fun s v S' F4 hp3 hF hS=>?_
 obtain⟨v6,S7,hF5,rfl,rfl,ho8⟩:=hp3
 rcases ho8 with⟨hq9,rfl,rfl⟩ | ⟨x10,i11,a12,z13,a15,z16,B18,a19,z20,B22,hq9,rfl,rfl,h14,h17,h21⟩
 rw[hq9] at h; replace h:=mE h
 refine sg0 hS 7 [] [5,6,7] [.pointer none,.int .i64 y2.2.1,.int .i64 y2.2.2] [] (by kernel_rfl) fun s hS=>(KW.nil ?_)
 refine WW.seq (WW.seq ?_)
 refine WW.region (sg0 hS 2 [] [15] [.bool (y2.2.2 != 0)] [] (by kernel_rfl) fun s hS=>?_)
 refine KW.nil (bc h (fun hc23 h=>?_) fun hc23 h=>?_)
 refine WW.condK hS rfl hc23 (WW.seq ?_)
 refine WW.region (sg0 hS 5 [] [2,3,4] [.slice none 0 0,.int .i64 y2.2.1,.int .i64 y2.2.2] [] (by kernel_rfl) fun s hS=>?_)
 refine KW.nil (WW.ret ?_)
 replace hS:=hS.gap0
 have hres:=(aQ hS (t:=2) (v:= .slice none ([]:List (Int×List UInt8×(List (Int×Int×Int)))).length 0) rfl (aQ hS (t:=3) (v:= .int .i64 y2.2.1) rfl (aQ hS (t:=4) (v:= .int .i64 y2.2.2) rfl (bK (E:=EV) (s:=s)))))
 replace hS:=(hS.pull 1).drop
 cases h
 exact fin hS (.inr rfl) hres (v:= .tuple #[.slice none ([]:List (Int×List UInt8×(List (Int×Int×Int)))).length 0,.int .i64 y2.2.1,.int .i64 y2.2.2]) rfl ⟨_,_,_,(hF5),rfl,rfl,Own.nil⟩
 refine WW.condF hS rfl hc23 (WW.skip ?_)
 refine WW.seq (WW.region ?_)
 refine sg0 hS 1 [] [18] [.pointer none] [] (by kernel_rfl) fun s hS=>?_
 exact nomatch h
 rw[hq9] at h; replace h:=mF h
 refine sg0 hS 7 [] [5,6,7] [.pointer (some ⟨i11,0,none⟩),.int .i64 y2.2.1,.int .i64 y2.2.2] [] (by kernel_rfl) fun s hS=>(KW.nil ?_)
 refine WW.seq (WW.seq ?_)
 refine WW.region (sg0 hS 2 [] [15] [.bool (y2.2.2 != 0)] [] (by kernel_rfl) fun s hS=>?_)
 refine KW.nil (bc h (fun hc24 h=>?_) fun hc24 h=>?_)
 refine WW.condK hS rfl hc24 (WW.seq ?_)
 refine WW.region (sg0 hS 5 [] [2,3,4] [.slice none 0 0,.int .i64 y2.2.1,.int .i64 y2.2.2] [] (by kernel_rfl) fun s hS=>?_)
 refine KW.nil (WW.ret ?_)
 replace hS:=hS.gap0
 have hres:=(aQ hS (t:=2) (v:= .slice none ([]:List (Int×List UInt8×(List (Int×Int×Int)))).length 0) rfl (aQ hS (t:=3) (v:= .int .i64 y2.2.1) rfl (aQ hS (t:=4) (v:= .int .i64 y2.2.2) rfl (bK (E:=EV) (s:=s)))))
 replace hS:=(hS.pull 1).drop
 replace hS:=(hS.pull 1).drop
 replace hS:=(hS.pull 1).drop
 replace hS:=(hS.pull 1).drop
 cases h
 exact fin hS (.inr rfl) hres (v:= .tuple #[.slice none ([]:List (Int×List UInt8×(List (Int×Int×Int)))).length 0,.int .i64 y2.2.1,.int .i64 y2.2.2]) rfl ⟨_,_,_,(hF5),rfl,rfl,Own.nil⟩
 refine WW.condF hS rfl hc24 (WW.skip ?_)
 refine WW.seq (WW.region ?_)
 refine sg0 hS 7 [0] [2,3,4] [.slice a19 x10.2.2.length z20,.int .i64 0,.int .i64 0] [i11] (by kernel_rfl) fun s hS=>(KW.nil ?_)
 refine WW.ret ?_
 have hres:=(aQ hS (t:=2) (v:= .slice a19 x10.2.2.length z20) rfl (aQ hS (t:=3) (v:= .int .i64 0) rfl (aQ hS (t:=4) (v:= .int .i64 0) rfl (bK (E:=EV) (s:=s)))))
 replace hS:=hS.drop
 replace hS:=hS.drop
 replace hS:=(hS.pull 1).drop
 cases h
 exact fin hS (.inr rfl) hres (v:= .tuple #[.slice a19 x10.2.2.length z20,.int .i64 0,.int .i64 0]) rfl ⟨_,_,_,(hF5),rfl,rfl,h21⟩
noncomputable def g_0.f (pA:Bool):Option (Int) :=
  (if pA then some 1 else some 0)
theorem g_0.ok {pA:Bool} {F:FZ} {r:Int} (h:g_0.f pA=some r) :
    Cl EV 48 [.bool pA] [] F (fun v S' F'=>F=F'∧v= .int .i64 r∧S'= []):=by
 refine Cl.of Tryz.func48 rfl (fun _ _=>rfl) (by kernel_rfl) fun s L nx0 hS=>?_
 unfold g_0.f at h
 refine WW.seq (WW.region ?_)
 refine sg0 hS 1 [] [2] [.int .i64 0] [] (by kernel_rfl) fun s hS=>(KW.nil ?_)
 refine WW.seq (WW.region ?_)
 refine sg0 hS 1 [] [3] [.int .i64 0] [] (by kernel_rfl) fun s hS=>(KW.nil ?_)
 refine WW.seq (WW.seq ?_)
 refine WW.region (sg0 hS 1 [] [4] [.bool pA] [] (by kernel_rfl) fun s hS=>?_)
 refine KW.nil (bc h (fun hc1 h=>?_) fun hc1 h=>?_)
 refine WW.condK hS rfl hc1 (WW.region ?_)
 refine sg0 hS 1 [] [3] [.int .i64 1] [] (by kernel_rfl) fun s hS=>(KW.nil ?_)
 refine WW.seq (WW.region ?_)
 refine sg0 hS 2 [] [2] [.int .i64 1] [] (by kernel_rfl) fun s hS=>(KW.nil ?_)
 refine WW.ret ?_
 cases h
 exact aL hS (.inr rfl) 2 rfl rfl ⟨rfl,rfl,rfl⟩
 refine WW.condF hS rfl hc1 (WW.skip ?_)
 refine WW.seq (WW.region ?_)
 refine sg0 hS 2 [] [2] [.int .i64 0] [] (by kernel_rfl) fun s hS=>(KW.nil ?_)
 refine WW.ret ?_
 cases h
 exact aL hS (.inr rfl) 2 rfl rfl ⟨rfl,rfl,rfl⟩
noncomputable def g_2.f (pA:Int) (pB:Int):Option (Int) :=
  (if pB≠0 then(if pB≠0 then Option.bind (g_0.f (decide ((Int.tmod pA pB)<0))) fun y3=>some (w64 ((Int.tmod pA pB)+(w64 (pB*y3)))) else none) else none)
theorem g_2.ok {pA:Int} {pB:Int} {F:FZ} {r:Int} (h:g_2.f pA pB=some r) :
    Cl EV 19 [.int .i64 pA,.int .i64 pB] [] F (fun v S' F'=>F=F'∧v= .int .i64 r∧S'= []):=by
 refine Cl.of Tryz.func19 rfl (fun _ _=>rfl) (by kernel_rfl) fun s L nx0 hS=>?_
 unfold g_2.f at h
 refine WW.seq (WW.region ?_)
 refine sg0 hS 1 [] [4] [.int .i64 0] [] (by kernel_rfl) fun s hS=>(KW.nil ?_)
 refine WW.seq (WW.regionD (i:=[[],[0],[],[2,1,0],[3,2,1,0],[4,3,2,1,0],[3,2,1,0],[3,2,1,0],[3,2,1,0],[2,1,0],[],[]]) (by kernel_rfl) ?_)
 have hq:=RS.start []
 refine kg hS hq 2 [5,6] [.int .i64 pA,.int .i64 pB] (by kernel_rfl) fun s rs hS hq=>?_
 obtain⟨hk1,h⟩:=ac h
 refine K.pu hS hq rfl (wn rfl) rfl rfl rfl (v:= .int .i64 (Int.tmod pA pB)) (lA (hS.lk rfl) (hS.lk rfl) hk1) fun s rs hS hq=>(kg hS hq 3 [8,9,10] [.int .i64 pB,.int .i64 pA,.int .i64 pB] (by kernel_rfl) fun s rs hS hq=>?_)
 obtain⟨hk2,h⟩:=ac h
 refine K.pu hS hq rfl (wn rfl) rfl rfl rfl (v:= .int .i64 (Int.tmod pA pB)) (lA (hS.lk rfl) (hS.lk rfl) hk2) fun s rs hS hq=>(kg hS hq 1 [12] [.bool (decide ((Int.tmod pA pB)<0))] (by kernel_rfl) fun s rs hS hq=>?_)
 obtain⟨y3,hy3,h⟩:=bind_some h
 refine K.cl hS hq rfl (wn rfl) (vs:=[.bool (decide ((Int.tmod pA pB)<0))]) (ws:=[.bool (decide ((Int.tmod pA pB)<0))]) rfl rfl rfl rfl rfl 0 rfl (g_0.ok hy3)  [] rfl rfl bj fun s rs v S' F' hp4 hF hS hq=>?_
 obtain⟨rfl,rfl,rfl⟩:=hp4
 refine kg hS hq 3 [4] [.int .i64 (w64 ((Int.tmod pA pB)+(w64 (pB*y3))))] (by kernel_rfl) fun s rs hS hq=>(KW.nil ?_)
 refine WW.ret ?_
 cases h
 exact aL hS (.inr rfl) 4 rfl rfl ⟨rfl,rfl,rfl⟩
noncomputable def g_7.b0 (pA:List (Int×List UInt8×(List (Int×Int×Int)))) (pE:List (Int×List UInt8×(List (Int×Int×Int)))) (x2:Int):Option ((Int)⊕((Int)⊕(Bool))) :=
  (if(decide (x2<(pA.length:Int))) then(if 0≤x2∧x2<(pA.length:Int) then(if 0≤x2∧x2<(pE.length:Int) then(if(((gt pA x2).1) != ((gt pE x2).1)) then some (.inr (.inr false)) else(if 0≤x2∧x2<(pA.length:Int) then(if 0≤x2∧x2<(pE.length:Int) then(if(!decide (((gt pA x2).2.1)=((gt pE x2).2.1))) then some (.inr (.inr false)) else some (.inl (w64 (x2+1)))) else none) else none)) else none) else none) else some (.inr (.inl x2)))
noncomputable def g_7.f (pA:List (Int×List UInt8×(List (Int×Int×Int)))) (pE:List (Int×List UInt8×(List (Int×Int×Int)))):Option (Bool) :=
  (if((pA.length:Int) != (pE.length:Int)) then some false else Option.bind (iter (g_7.b0 pA pE) 0) fun o3=>dB o3 fun y53=>some true)
theorem g_7.ok {aC:Option Addr} {zD:Nat} {aI:Option Addr} {zJ:Nat} {pA:List (Int×List UInt8×(List (Int×Int×Int)))} {pE:List (Int×List UInt8×(List (Int×Int×Int)))} {F:FZ} {r:Bool} (h:g_7.f pA pE=some r) (hE:Frz cD F aC zD pA) (hK:Frz cD F aI zJ pE) :
    Cl EV 21 [.slice aC pA.length zD,.slice aI pE.length zJ] [] F (fun v S' F'=>F=F'∧v= .bool r∧S'= []):=by
 refine Cl.of Tryz.func21 rfl (fun _ _=>rfl) (by kernel_rfl) fun s L nx0 hS=>?_
 unfold g_7.f at h
 refine WW.seq (WW.region ?_)
 refine sg0 hS 1 [] [4] [.bool false] [] (by kernel_rfl) fun s hS=>(KW.nil ?_)
 refine WW.seq (WW.seq ?_)
 refine WW.region (sg0 hS 5 [] [10] [.bool ((pA.length:Int) != (pE.length:Int))] [] (by kernel_rfl) fun s hS=>?_)
 refine KW.nil (bc h (fun hc1 h=>?_) fun hc1 h=>?_)
 refine WW.condK hS rfl hc1 (WW.seq ?_)
 refine WW.region (sg0 hS 1 [] [4] [.bool false] [] (by kernel_rfl) fun s hS=>?_)
 refine KW.nil (WW.ret ?_)
 cases h
 exact aL hS (.inr rfl) 4 rfl rfl ⟨rfl,rfl,rfl⟩
 refine WW.condF hS rfl hc1 (WW.skip ?_)
 refine WW.seq (WW.seq ?_)
 refine WW.region (sg0 hS 1 [] [5] [.int .i64 0] [] (by kernel_rfl) fun s hS=>?_)
 refine KW.nil (WW.block ?_)
 obtain⟨o3,ho3,h⟩:=bind_some h
 refine WW.loop (LW.iterS ho3 (fun(x2:Int) s=>Stt EV s [(0,.slice aC pA.length zD),(1,.slice aI pE.length zJ),(4,.bool false),(5,.int .i64 x2)] [] F L F nx0) 0 (fun r=>fR EV Tryz.f21 L F nx0 (fun v S' F'=>F=F'∧v= .bool r∧S'= [])) (hS.subR rfl) ?_ ?_)
 clear hS
 rintro x2 s hS o3' h5
 unfold g_7.b0 at h5
 refine WW.seq (WW.seq ?_)
 refine WW.region (sg0 hS 4 [] [14] [.bool (decide (x2<(pA.length:Int)))] [] (by kernel_rfl) fun s hS=>?_)
 refine KW.nil (bc h5 (fun hc6 h5=>?_) fun hc6 h5=>?_)
 refine WW.condK hS rfl hc6 (WW.skip ?_)
 refine WW.seq (WW.block ?_)
 refine WW.seq (WW.regionD (i:=[[],[0],[],[],[],[4,3,2,1,0],[5,4,3,2,1,0],[4,3,2,1,0],[4,3,2,1,0],[4,3,2,1,0],[],[],[],[12],[],[],[],[16,15,14,13,12],[17,16,15,14,13,12],[16,15,14,13,12],[16,15,14,13,12],[16,15,14,13,12],[],[]]) (by kernel_rfl) ?_)
 have hq:=RS.start []
 refine kg hS hq 2 [17,18] [.slice aC pA.length zD,.int .i64 x2] (by kernel_rfl) fun s rs hS hq=>?_
 obtain⟨hk7,h5⟩:=ac h5
 obtain⟨i13,of14,rfl⟩:=Frz.addr hE (by omega)
 obtain⟨_,_,_,_,c8,hF15,hR9,hN10,hN11,hT12⟩:=Frz.at hE hk7 (m:=3) rfl
 obtain⟨a16,z17,rfl,hz18⟩:=hR9
 refine K.pu hS hq rfl (wn rfl) rfl rfl rfl (v:= .pointer (some ⟨i13,of14+(x2).toNat*3,none⟩)) (bp (hS.lk rfl) (hS.lk rfl) te40 hk7) fun s rs hS hq=>(K.pu hS hq rfl (wn rfl) rfl rfl rfl (v:= .pointer (some ⟨i13,of14+(x2).toNat*3+0,none⟩)) (cS (hS.lk rfl) qM rfl rfl) fun s rs hS hq=>?_)
 replace hq:=hq.more i13 rfl rfl rfl
 refine K.ld hS hq rfl (wn rfl) rfl rfl rfl (hS.fat hF15) tg3 (v:= .int .i64 ((gt pA x2).1)) (hN11 0 (by decide)) 0 rfl rfl fun s rs hS hq=>(kg hS hq 2 [22,23] [.slice aI pE.length zJ,.int .i64 x2] (by kernel_rfl) fun s rs hS hq=>?_)
 obtain⟨hk19,h5⟩:=ac h5
 obtain⟨i25,of26,rfl⟩:=Frz.addr hK (by omega)
 obtain⟨_,_,_,_,c20,hF27,hR21,hN22,hN23,hT24⟩:=Frz.at hK hk19 (m:=3) rfl
 obtain⟨a28,z29,rfl,hz30⟩:=hR21
 refine K.pu hS hq rfl (wn rfl) rfl rfl rfl (v:= .pointer (some ⟨i25,of26+(x2).toNat*3,none⟩)) (bp (hS.lk rfl) (hS.lk rfl) te40 hk19) fun s rs hS hq=>(K.pu hS hq rfl (wn rfl) rfl rfl rfl (v:= .pointer (some ⟨i25,of26+(x2).toNat*3+0,none⟩)) (cS (hS.lk rfl) qM rfl rfl) fun s rs hS hq=>?_)
 replace hq:=hq.more i25 rfl rfl rfl
 refine K.ld hS hq rfl (wn rfl) rfl rfl rfl (hS.fat hF27) tg3 (v:= .int .i64 ((gt pE x2).1)) (hN23 0 (by decide)) 1 rfl rfl fun s rs hS hq=>(kg hS hq 2 [28] [.bool (((gt pA x2).1) != ((gt pE x2).1))] (by kernel_rfl) fun s rs hS hq=>?_)
 refine bc h5 (fun hc31 h5=>?_) fun hc31 h5=>?_
 replace hS:=hS.kb 28 hc31 rfl
 refine kg hS hq 12 [40] [.bool true] (by kernel_rfl) fun s rs hS hq=>(KW.nil ?_)
 refine WW.condK hS rfl rfl (WW.seq ?_)
 refine WW.region (sg0 hS 1 [] [4] [.bool false] [] (by kernel_rfl) fun s hS=>?_)
 refine KW.nil (WW.ret ?_)
 cases h5
 exact⟨_,rfl,rfl,aL hS (.inr rfl) 4 rfl rfl ⟨rfl,rfl,rfl⟩⟩
 replace hS:=hS.kb 28 hc31 rfl
 refine kg hS hq 2 [29,30] [.slice (some ⟨i13,of14,none⟩) pA.length zD,.int .i64 x2] (by kernel_rfl) fun s rs hS hq=>?_
 obtain⟨hk32,h5⟩:=ac h5
 obtain⟨_,_,_,_,c33,hF38,hR34,hN35,hN36,hT37⟩:=Frz.at hE hk32 (m:=3) rfl
 obtain⟨a39,z40,rfl,hz41⟩:=hR34
 refine K.pu hS hq rfl (wt hS rfl rfl rfl rfl) rfl rfl rfl (v:= .pointer (some ⟨i13,of14+(x2).toNat*3,none⟩)) (bp (hS.lk rfl) (hS.lk rfl) te40 hk32) fun s rs hS hq=>(K.pu hS hq rfl (wt hS rfl rfl rfl rfl) rfl rfl rfl (v:= .pointer (some ⟨i13,of14+(x2).toNat*3+1,none⟩)) (cS (hS.lk rfl) qN rfl rfl) fun s rs hS hq=>?_)
 refine K.ld hS hq rfl (wt hS rfl rfl rfl rfl) rfl rfl rfl (hS.fat hF38) tg9 (v:=aa ((gt pA x2).2.1)) (hN36 1 (by decide)) 0 rfl rfl fun s rs hS hq=>(kg hS hq 2 [34,35] [.slice (some ⟨i25,of26,none⟩) pE.length zJ,.int .i64 x2] (by kernel_rfl) fun s rs hS hq=>?_)
 obtain⟨hk42,h5⟩:=ac h5
 obtain⟨_,_,_,_,c43,hF48,hR44,hN45,hN46,hT47⟩:=Frz.at hK hk42 (m:=3) rfl
 obtain⟨a49,z50,rfl,hz51⟩:=hR44
 refine K.pu hS hq rfl (wt hS rfl rfl rfl rfl) rfl rfl rfl (v:= .pointer (some ⟨i25,of26+(x2).toNat*3,none⟩)) (bp (hS.lk rfl) (hS.lk rfl) te40 hk42) fun s rs hS hq=>(K.pu hS hq rfl (wt hS rfl rfl rfl rfl) rfl rfl rfl (v:= .pointer (some ⟨i25,of26+(x2).toNat*3+1,none⟩)) (cS (hS.lk rfl) qN rfl rfl) fun s rs hS hq=>?_)
 refine K.ld hS hq rfl (wt hS rfl rfl rfl rfl) rfl rfl rfl (hS.fat hF48) tg9 (v:=aa ((gt pE x2).2.1)) (hN46 1 (by decide)) 1 rfl rfl fun s rs hS hq=>(K.pu hS hq rfl (wt hS rfl rfl rfl rfl) rfl rfl rfl (v:= .bool (!decide (((gt pA x2).2.1)=((gt pE x2).2.1)))) (aop_sne (hS.lk rfl) (hS.lk rfl)) fun s rs hS hq=>?_)
 refine kg hS hq 1 [40] [.bool (!decide (((gt pA x2).2.1)=((gt pE x2).2.1)))] (by kernel_rfl) fun s rs hS hq=>(KW.nil ?_)
 refine bc h5 (fun hc52 h5=>?_) fun hc52 h5=>?_
 refine WW.condK hS rfl hc52 (WW.seq ?_)
 refine WW.region (sg0 hS 1 [] [4] [.bool false] [] (by kernel_rfl) fun s hS=>?_)
 refine KW.nil (WW.ret ?_)
 cases h5
 exact⟨_,rfl,rfl,aL hS (.inr rfl) 4 rfl rfl ⟨rfl,rfl,rfl⟩⟩
 refine WW.condF hS rfl hc52 (WW.skip ?_)
 refine WW.region (sg0 hS 3 [] [5] [.int .i64 (w64 (x2+1))] [] (by kernel_rfl) fun s hS=>?_)
 refine KW.nil ?_
 obtain rfl:=Option.some.inj h5
 exact⟨_,rfl,(hS.subR rfl)⟩
 refine WW.condF hS rfl hc6 (WW.exit ?_)
 refine av ?_
 obtain rfl:=Option.some.inj h5
 exact⟨_,rfl,rfl,(hS.subR rfl)⟩
 clear hS
 rcases o3 with y53 | y53
 rintro e s ⟨rfl,hS⟩
 replace h:=bB h
 refine ar (WW.seq ?_)
 refine WW.region (sg0 hS 1 [] [4] [.bool true] [] (by kernel_rfl) fun s hS=>?_)
 refine KW.nil (WW.ret ?_)
 cases h
 exact aL hS (.inr rfl) 4 rfl rfl ⟨rfl,rfl,rfl⟩
 rintro e s ⟨rfl,hfin⟩
 replace h:=bC h
 obtain rfl:=Option.some.inj h
 exact hfin
noncomputable def g_4.f (pA:List UInt8) (pB:Bool) (pC:List (List UInt8)) (pI:Int) (pJ:Bool):Option (Bool) :=
  Option.bind (g_awake.f) fun y2=>(if(!y2) then some false else Option.bind (g_5.f pA pC) fun y5=>(if((!y5)||(decide ((pC.length:Int)≥400))) then some true else Option.bind (g_6.f pA pB pC) fun y8=>Option.bind (g_9.f y8.1 y8.2.1 y8.2.2) fun y17=>(if(y17.2.2 != 0) then some true else Option.bind ((if pJ then some ([32,32,32,32]) else some ([33,32,65,32,67,79,77,77,69,78,84]))) fun z26=>Option.bind (g_2.f pI (w64 ((pC.length:Int)+1))) fun y28=>(if 0≤(0:Int)∧(0:Int)≤y28∧y28≤(pC.length:Int) then Option.bind (g_1.f (mid pC (0:Int) y28)) fun y34=>(if y34.length+([z26]:List (List UInt8)).length<1000000000 then(if 0≤y28∧y28≤(pC.length:Int)∧(pC.length:Int)≤(pC.length:Int) then(if(y34++([z26]:List (List UInt8))).length+(mid pC y28 (pC.length:Int)).length<1000000000 then Option.bind (g_9.f pA pB ((y34++([z26]:List (List UInt8)))++(mid pC y28 (pC.length:Int)))) fun y62=>(if(y62.2.2 != 0) then some (pB&&(y62.2.2==3)) else Option.bind (g_7.f y17.1 y62.1) fun y77=>some y77) else none) else none) else none) else none))))
theorem g_4.ok {aE:Option Addr} {zH:Nat} {pA:List UInt8} {pB:Bool} {pC:List (List UInt8)} {pI:Int} {pJ:Bool} {F:FZ} {r:Bool} (h:g_4.f pA pB pC pI pJ=some r) (hI:Frz (elS 9) F aE zH pC) :
    Cl EV 5 [.agg #[aa pA,.bool pB,.slice aE pC.length zH],.int .i64 pI,.bool pJ] [] F (fun v S' F'=>FLe F F'∧v= .bool r∧S'= []):=by
 refine Cl.of Tryz.func5 rfl (fun _ _=>rfl) (by kernel_rfl) fun s L nx0 hS=>?_
 unfold g_4.f at h
 refine WW.seq (WW.region ?_)
 refine dr hS (wn rfl) rfl rfl rfl (v:=fun i=> .pointer (some ⟨i,0,none⟩)) (b:= .row [aa pA,.bool pB,.slice aE pC.length zH] 38 0 true) (cG (hS.lk rfl) rfl [aa pA,.bool pB,.slice aE pC.length zH] rfl) fun s i1 hS=>(sg0 hS 1 [] [6] [.bool false] [] (by kernel_rfl) fun s hS=>?_)
 refine KW.nil (WW.seq ?_)
 refine WW.seq (WW.region ?_)
 obtain⟨y2,hy2,h⟩:=bind_some h
 refine cR (g_awake.ok hy2) hS 0 16 0 rfl (by kernel_rfl) fun s hS=>(sg0 hS 1 [] [17] [.bool (!y2)] [] (by kernel_rfl) fun s hS=>?_)
 refine KW.nil (bc h (fun hc4 h=>?_) fun hc4 h=>?_)
 refine WW.condK hS rfl hc4 (WW.seq ?_)
 refine WW.region (sg0 hS 1 [] [6] [.bool false] [] (by kernel_rfl) fun s hS=>?_)
 refine KW.nil (WW.ret ?_)
 replace hS:=hS.drop
 cases h
 exact aL hS (.inr rfl) 6 rfl rfl ⟨(FLe.refl _),rfl,rfl⟩
 refine WW.condF hS rfl hc4 (WW.skip ?_)
 refine WW.seq (WW.seq ?_)
 refine WW.region (sg0 hS 1 [0] [18] [.agg #[aa pA,.bool pB,.slice aE pC.length zH]] [i1] (by kernel_rfl) fun s hS=>?_)
 obtain⟨y5,hy5,h⟩:=bind_some h
 refine dJ hS (wn rfl) (vs:=[.agg #[aa pA,.bool pB,.slice aE pC.length zH]]) (ws:=[.agg #[aa pA,.bool pB,.slice aE pC.length zH]]) rfl rfl rfl rfl rfl 0 rfl (g_5.ok hy5 hI) fun s v S' F' hp6 hF hS=>?_
 obtain⟨rfl,rfl,rfl⟩:=hp6
 refine sg0 hS 2 [] [21] [.bool (!y5)] [] (by kernel_rfl) fun s hS=>(bz 5 (fun s=>Stt EV s [(26,.bool ((!y5)||(decide ((pC.length:Int)≥400)))),(1,.int .i64 pI),(2,.bool pJ),(3,.pointer (some ⟨i1,0,none⟩)),(6,.bool false)] [[(i1,.row [aa pA,.bool pB,.slice aE pC.length zH] 38 0 true)]] F L F nx0) ?_ fun s hS=>?_)
 rcases bb ((!y5)) with hcj | hcj
 replace hS:=hS.know (t:=21) rfl (congrArg Value.bool hcj)
 refine sg0 hS 5 [] [26] [.bool true] [] (by kernel_rfl) fun s hS=>(KW.nil ?_)
 exact(hS.know (t:=26) (u':= .bool ((!y5)||(decide ((pC.length:Int)≥400)))) rfl (fV hcj)).subR rfl
 replace hS:=hS.know (t:=21) rfl (congrArg Value.bool hcj)
 refine sg0 hS 5 [0] [26] [.bool (decide ((pC.length:Int)≥400))] [i1] (by kernel_rfl) fun s hS=>(KW.nil ?_)
 exact(hS.know (t:=26) (u':= .bool ((!y5)||(decide ((pC.length:Int)≥400)))) rfl (fW hcj)).subR rfl
 refine KW.nil (bc h (fun hc7 h=>?_) fun hc7 h=>?_)
 refine WW.condK hS rfl hc7 (WW.seq ?_)
 refine WW.region (sg0 hS 1 [] [6] [.bool true] [] (by kernel_rfl) fun s hS=>?_)
 refine KW.nil (WW.ret ?_)
 replace hS:=hS.drop
 cases h
 exact aL hS (.inr rfl) 6 rfl rfl ⟨(FLe.refl _),rfl,rfl⟩
 refine WW.condF hS rfl hc7 (WW.skip ?_)
 refine WW.seq (WW.region ?_)
 refine sg0 hS 1 [0] [28] [.agg #[aa pA,.bool pB,.slice aE pC.length zH]] [i1] (by kernel_rfl) fun s hS=>?_
 obtain⟨y8,hy8,h⟩:=bind_some h
 refine dJ hS (wn rfl) (vs:=[.agg #[aa pA,.bool pB,.slice aE pC.length zH]]) (ws:=[.agg #[aa pA,.bool pB,.slice aE pC.length zH]]) rfl rfl rfl rfl rfl 0 rfl (g_6.ok hy8 hI) fun s v S' F' hp9 hF hS=>?_
 obtain⟨a10,z11,B13,rfl,rfl,rfl,h12⟩:=hp9
 obtain⟨F14,hF15,hS,hz16⟩:=hS.frzO h12
 obtain⟨y17,hy17,h⟩:=bind_some h
 refine cK (g_9.ok hy17 hz16) hS 0 30 0 rfl (by kernel_rfl) fun s v S' F19 hp18 hF hS=>?_
 obtain⟨a20,z21,B23,hF24,rfl,rfl,h22⟩:=hp18
 refine sg0 hS 7 [] [7,9] [.slice a20 y17.1.length z21,.int .i64 y17.2.2] [] (by kernel_rfl) fun s hS=>(KW.nil ?_)
 refine WW.seq (WW.seq ?_)
 refine WW.region (sg0 hS 2 [] [35] [.bool (y17.2.2 != 0)] [] (by kernel_rfl) fun s hS=>?_)
 refine KW.nil (bc h (fun hc25 h=>?_) fun hc25 h=>?_)
 refine WW.condK hS rfl hc25 (WW.seq ?_)
 refine WW.region (sg0 hS 1 [] [6] [.bool true] [] (by kernel_rfl) fun s hS=>?_)
 refine KW.nil (WW.ret ?_)
 replace hS:=hS.drop
 replace hS:=hS.drop
 cases h
 exact aL hS (.inr rfl) 6 rfl rfl ⟨((FLe.trans hF15 hF24)),rfl,rfl⟩
 refine WW.condF hS rfl hc25 (WW.skip ?_)
 refine WW.seq (WW.region ?_)
 refine sg0 hS 1 [] [10] [aa ([33,32,65,32,67,79,77,77,69,78,84])] [] (by kernel_rfl) fun s hS=>(KW.nil ?_)
 obtain⟨z26,hz26,h⟩:=bind_some h
 refine WW.seqJ (fun s=>Stt EV s [(1,.int .i64 pI),(3,.pointer (some ⟨i1,0,none⟩)),(6,.bool false),(7,.slice a20 y17.1.length z21),(10,aa z26)] [B23,[(i1,.row [aa pA,.bool pB,.slice aE pC.length zH] 38 0 true)]] F19 L F nx0) ?_ ?_
 refine WW.seq (WW.region ?_)
 refine sg0 hS 1 [] [36] [.bool pJ] [] (by kernel_rfl) fun s hS=>(KW.nil ?_)
 refine bc hz26 (fun hc27 hz26=>?_) fun hc27 hz26=>?_
 refine WW.condK hS rfl hc27 (WW.region ?_)
 refine sg0 hS 1 [] [10] [aa ([32,32,32,32])] [] (by kernel_rfl) fun s hS=>(KW.nil ?_)
 obtain rfl:=Option.some.inj hz26
 exact(hS.subR rfl)
 refine WW.condF hS rfl hc27 (WW.skip ?_)
 obtain rfl:=Option.some.inj hz26
 exact(hS.subR rfl)
 rintro s hS
 refine WW.seq (WW.region ?_)
 refine sg0 hS 5 [1] [37,41] [.int .i64 pI,.int .i64 (w64 ((pC.length:Int)+1))] [i1] (by kernel_rfl) fun s hS=>?_
 obtain⟨y28,hy28,h⟩:=bind_some h
 refine dJ hS (wn rfl) (vs:=[.int .i64 pI,.int .i64 (w64 ((pC.length:Int)+1))]) (ws:=[.int .i64 pI,.int .i64 (w64 ((pC.length:Int)+1))]) rfl rfl rfl rfl rfl 0 rfl (g_2.ok hy28) fun s v S' F' hp29 hF hS=>?_
 obtain⟨rfl,rfl,rfl⟩:=hp29
 refine sg0 hS 1 [] [11] [.int .i64 y28] [] (by kernel_rfl) fun s hS=>(KW.nil ?_)
 refine WW.seq (WW.regionD (i:=[[],[],[1,0],[1,0],[3,2,1,0],[3,2,1,0],[5,4,3,2,1,0],[3,2,1,0],[3,2,1,0],[8,7,6,5,4,3,2,1,0],[8,7,6,5,4,3,2,1,0],[3,2,1,0],[11,10,9,8,7,6,5,4,3,2,1,0],[11,10,9,8,7,6,5,4,3,2,1,0],[13,12,11,10,9,8,7,6,5,4,3,2,1,0],[11,10,9,8,7,6,5,4,3,2,1,0],[3,2,1,0],[],[17,16,15,14,13,12,11,10,9,8,7,6,5,4,3,2,1,0],[]]) (by kernel_rfl) ?_)
 have hq:=RS.start [i1]
 refine kg hS hq 1 [43] [.pointer (some ⟨i1,0,none⟩)] (by kernel_rfl) fun s rs hS hq=>(K.ld hS hq rfl (wn rfl) rfl rfl rfl (hS.at (k:=1) rfl) tg9 (v:=aa pA) rfl 0 rfl rfl fun s rs hS hq=>?_)
 refine kg hS hq 1 [45] [.pointer (some ⟨i1,1,none⟩)] (by kernel_rfl) fun s rs hS hq=>(K.ld hS hq rfl (wn rfl) rfl rfl rfl (hS.at (k:=1) rfl) tg4 (v:= .bool pB) rfl 0 rfl rfl fun s rs hS hq=>?_)
 refine kg hS hq 1 [47] [.pointer (some ⟨i1,2,none⟩)] (by kernel_rfl) fun s rs hS hq=>(K.ld hS hq rfl (wn rfl) rfl rfl rfl (hS.at (k:=1) rfl) qQ (v:= .slice aE pC.length zH) rfl 0 rfl rfl fun s rs hS hq=>?_)
 refine kg hS hq 1 [49] [.int .i64 y28] (by kernel_rfl) fun s rs hS hq=>?_
 obtain⟨hk30,h⟩:=ac h
 obtain⟨a31,he32,hz33⟩:=Frz.slice (hI.mono (FLe.trans hF15 hF24)) hk30 (m:=1) rfl
 refine K.pu hS hq rfl (wn rfl) rfl rfl rfl (v:= .slice a31 (mid pC (0:Int) y28).length zH) (dK jk (hS.lk rfl) (i:=(0:Int)) (h:=y28) rfl (dm hS rfl) he32) fun s rs hS hq=>?_
 obtain⟨y34,hy34,h⟩:=bind_some h
 refine K.cl hS hq rfl (wn rfl) (vs:=[.slice a31 (mid pC (0:Int) y28).length zH]) (ws:=[.slice a31 (mid pC (0:Int) y28).length zH]) rfl rfl rfl rfl rfl 0 rfl (g_1.ok hy34 hz33)  [0] rfl rfl (aO rfl (mm1 mm0) bj) fun s rs v S' F' hp35 hF hS hq=>?_
 obtain⟨a36,z37,B39,rfl,rfl,rfl,h38⟩:=hp35
 refine kg hS hq 1 [52] [aa z26] (by kernel_rfl) fun s rs hS hq=>(K.nw hS hq rfl (wn rfl) rfl rfl rfl (v:=fun i=> .slice (some ⟨i,0,none⟩) 1 1) (b:= .row [aa z26] 9 1 true) (bL tu36 tz9 t0_9 rfl [(0,aa z26)] (aA hS rfl) rfl) [0] (aO rfl (mm1 (mm1 mm0)) bj) rfl rfl rfl fun s rs i40 hS hq=>?_)
 have hC41:ak (elS 9) F19 ([z26]:List (List UInt8)) [aa z26]:=⟨[aa z26],[],rfl,rfl,rfl⟩
 obtain⟨hk45,h⟩:=ac h
 refine K.app [] hS hq rfl (wn rfl) (dd:=(elS 9)) (lst:=y34) (m:=([z26]:List (List UInt8))) rfl rfl nN rfl rfl h38 (Nat.succ_pos _) hC41 hk45 [0] rfl rfl (aO rfl (mm1 mm0) bj) fun s rs i42 cs43 hC44 hS hq=>(kg hS hq 1 [55] [.pointer (some ⟨i1,2,none⟩)] (by kernel_rfl) fun s rs hS hq=>?_)
 refine K.ld hS hq rfl (wn rfl) rfl rfl rfl (hS.at (k:=2) rfl) qQ (v:= .slice aE pC.length zH) rfl 0 rfl rfl fun s rs hS hq=>(kg hS hq 1 [57] [.int .i64 y28] (by kernel_rfl) fun s rs hS hq=>?_)
 obtain⟨hk46,h⟩:=ac h
 obtain⟨a47,he48,hz49⟩:=Frz.slice (hI.mono (FLe.trans hF15 hF24)) hk46 (m:=1) rfl
 refine K.pu hS hq rfl (wn rfl) rfl rfl rfl (v:= .slice a47 (mid pC y28 (pC.length:Int)).length zH) (dK jk (hS.lk rfl) (i:=y28) (h:=(pC.length:Int)) (dm hS rfl) rfl he48) fun s rs hS hq=>?_
 obtain⟨hk53,h⟩:=ac h
 refine K.apF hS hq rfl (wn rfl) (dd:=(elS 9)) (lst:=(y34++([z26]:List (List UInt8)))) (m:=(mid pC y28 (pC.length:Int))) rfl rfl nN rfl rfl (Own.blk0 hC44) hz49 hk53 [0] rfl rfl (aO rfl (mm1 mm0) bj) fun s rs a54 z55 B56 hO57 hS hq=>(K.pu hS hq rfl (wn rfl) rfl rfl rfl (v:= .agg #[aa pA,.bool pB,.slice a54 ((y34++([z26]:List (List UInt8)))++(mid pC y28 (pC.length:Int))).length z55]) (cW qK tp38 [(0,aa pA),(1,.bool pB),(2,.slice a54 ((y34++([z26]:List (List UInt8)))++(mid pC y28 (pC.length:Int))).length z55)] (aA hS rfl) (cs:=[aa pA,.bool pB,.slice a54 ((y34++([z26]:List (List UInt8)))++(mid pC y28 (pC.length:Int))).length z55]) rfl) fun s rs hS hq=>?_)
 refine K.nw hS hq rfl (wn rfl) rfl rfl rfl (v:=fun i=> .pointer (some ⟨i,0,none⟩)) (b:= .row [aa ([]),.bool false,.slice none 0 0] 38 0 true) (cZ qK) [0] (aO rfl (mm1 (mm1 mm0)) bj) rfl rfl rfl fun s rs i58 hS hq=>(K.sto hS hq rfl (wn rfl) rfl rfl rfl rfl (p:=0) rfl tz38 rfl [aa pA,.bool pB,.slice a54 ((y34++([z26]:List (List UInt8)))++(mid pC y28 (pC.length:Int))).length z55] rfl [0] rfl (aO rfl (mm1 (mm1 mm0)) bj) fun s rs hS hq=>?_)
 refine KW.nil (WW.seq ?_)
 refine WW.region (sg0 hS 1 [0] [62] [.agg #[aa pA,.bool pB,.slice a54 ((y34++([z26]:List (List UInt8)))++(mid pC y28 (pC.length:Int))).length z55]] [i58] (by kernel_rfl) fun s hS=>?_)
 replace hS:=hS.pull 1
 obtain⟨F59,hF60,hS,hz61⟩:=hS.frzO hO57
 obtain⟨y62,hy62,h⟩:=bind_some h
 refine dJ hS (wn rfl) (vs:=[.agg #[aa pA,.bool pB,.slice a54 ((y34++([z26]:List (List UInt8)))++(mid pC y28 (pC.length:Int))).length z55]]) (ws:=[.agg #[aa pA,.bool pB,.slice a54 ((y34++([z26]:List (List UInt8)))++(mid pC y28 (pC.length:Int))).length z55]]) rfl rfl rfl rfl rfl 0 rfl (g_9.ok hy62 hz61) fun s v S' F64 hp63 hF hS=>?_
 obtain⟨a65,z66,B68,hF69,rfl,rfl,h67⟩:=hp63
 refine sg0 hS 7 [] [13,15] [.slice a65 y62.1.length z66,.int .i64 y62.2.2] [] (by kernel_rfl) fun s hS=>(KW.nil ?_)
 refine WW.seq (WW.seq ?_)
 refine WW.region (sg0 hS 2 [] [68] [.bool (y62.2.2 != 0)] [] (by kernel_rfl) fun s hS=>?_)
 refine KW.nil (bc h (fun hc70 h=>?_) fun hc70 h=>?_)
 refine WW.condK hS rfl hc70 (WW.seq ?_)
 refine WW.region (sg0 hS 3 [3] [71] [.bool pB] [i1] (by kernel_rfl) fun s hS=>?_)
 refine bz 3 (fun s=>Stt EV s [(74,.bool (pB&&(y62.2.2==3))),(6,.bool false),(7,.slice a20 y17.1.length z21),(13,.slice a65 y62.1.length z66)] [B68,[(i58,.row [aa pA,.bool pB,.slice a54 ((y34++([z26]:List (List UInt8)))++(mid pC y28 (pC.length:Int))).length z55] 38 0 true)],B23,[(i1,.row [aa pA,.bool pB,.slice aE pC.length zH] 38 0 true)]] F64 L F nx0) ?_ fun s hS=>?_
 rcases bb (pB) with hcj | hcj
 replace hS:=hS.know (t:=46) rfl (congrArg Value.bool hcj)
 replace hS:=hS.know (t:=71) rfl (congrArg Value.bool hcj)
 refine sg0 hS 3 [] [74] [.bool (y62.2.2==3)] [] (by kernel_rfl) fun s hS=>(KW.nil ?_)
 exact(hS.know (t:=74) (u':= .bool (pB&&(y62.2.2==3))) rfl (dL hcj)).subR rfl
 replace hS:=hS.know (t:=46) rfl (congrArg Value.bool hcj)
 replace hS:=hS.know (t:=71) rfl (congrArg Value.bool hcj)
 refine sg0 hS 3 [] [74] [.bool false] [] (by kernel_rfl) fun s hS=>(KW.nil ?_)
 exact(hS.know (t:=74) (u':= .bool (pB&&(y62.2.2==3))) rfl (dM hcj)).subR rfl
 refine sg0 hS 1 [] [6] [.bool (pB&&(y62.2.2==3))] [] (by kernel_rfl) fun s hS=>(KW.nil ?_)
 refine WW.ret ?_
 replace hS:=hS.drop
 replace hS:=hS.drop
 replace hS:=hS.drop
 replace hS:=hS.drop
 cases h
 exact aL hS (.inr rfl) 6 rfl rfl ⟨((FLe.trans hF15 (FLe.trans hF24 (FLe.trans hF60 hF69)))),rfl,rfl⟩
 refine WW.condF hS rfl hc70 (WW.skip ?_)
 refine WW.seq (WW.region ?_)
 replace hS:=hS.pull 2
 obtain⟨F71,hF72,hS,hz73⟩:=hS.frzO (h22.mono (FLe.trans hF60 hF69))
 obtain⟨F74,hF75,hS,hz76⟩:=hS.frzO (h67.mono hF72)
 obtain⟨y77,hy77,h⟩:=bind_some h
 refine cR (g_7.ok hy77 (hz73.mono hF75) hz76) hS 2 77 0 rfl (by kernel_rfl) fun s hS=>(sg0 hS 1 [] [6] [.bool y77] [] (by kernel_rfl) fun s hS=>?_)
 refine KW.nil (WW.ret ?_)
 replace hS:=hS.drop
 replace hS:=hS.drop
 cases h
 exact aL hS (.inr rfl) 6 rfl rfl ⟨((FLe.trans hF15 (FLe.trans hF24 (FLe.trans hF60 (FLe.trans hF69 (FLe.trans hF72 hF75)))))),rfl,rfl⟩
end Go.Proofs.YtjcbhbncncbdjaaGreatDoorAi
