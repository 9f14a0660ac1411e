import Derived.Test.YtcafgoomipkljaaGreatDoorApX1b
namespace Go.Proofs.YtcafgoomipkljaaGreatDoorAi
set_option maxHeartbeats 4000000
open Go Go.RowKit
set_option linter.unusedVariables false
set_option linter.unusedSimpArgs false
set_option maxRecDepth 100000
noncomputable def g_2.b0 (pA:List UInt8) (x4:Int):Option ((Int)⊕((Int)⊕(Bool))) :=
  (if(decide (x4<(pA.length:Int))) then(if 0≤x4∧x4<(pA.length:Int) then Option.bind ((if(decide (((gt pA x4).toNat:Int)≥((97:UInt8).toNat:Int))) then(if 0≤x4∧x4<(pA.length:Int) then some (decide (((gt pA x4).toNat:Int)≤((122:UInt8).toNat:Int))) else none) else some false)) fun z10=>(if z10 then some (.inr (.inr false)) else some (.inl (w64 (x4+1)))) else none) else some (.inr (.inl x4)))
noncomputable def g_2.f (pA:List UInt8):Option (Bool) :=
  Option.bind (g_3.f pA) fun y1=>(if(!y1) then some false else Option.bind (iter (g_2.b0 pA) 0) fun o5=>cu o5 fun y14=>some true)
theorem g_2.ok {pA:List UInt8} {F:FZ} {r:Bool} (h:g_2.f pA=some r) :
    Cl EV 43 [aa pA] [] F (fun v S' F'=>F=F'∧v= .bool r∧S'= []):=by
 refine Cl.of Tryz.func43 rfl (fun _ _=>rfl) (by kernel_rfl) fun s L nx0 hS=>?_
 unfold g_2.f at h
 refine WW.seq (WW.region ?_)
 refine sg0 hS 1 [] [2] [.bool false] [] (by kernel_rfl) fun s hS=>(KW.nil ?_)
 refine WW.seq (WW.seq ?_)
 refine WW.region ?_
 obtain⟨y1,hy1,h⟩:=bind_some h
 refine cR (g_3.ok hy1) hS 1 5 0 rfl (by kernel_rfl) fun s hS=>(sg0 hS 1 [] [6] [.bool (!y1)] [] (by kernel_rfl) fun s hS=>?_)
 refine KW.nil (bc h (fun hc3 h=>?_) fun hc3 h=>?_)
 refine WW.condK hS rfl hc3 (WW.seq ?_)
 refine WW.region (sg0 hS 1 [] [2] [.bool false] [] (by kernel_rfl) fun s hS=>?_)
 refine KW.nil (WW.ret ?_)
 cases h
 exact ax hS (.inr rfl) 2 rfl rfl ⟨rfl,rfl,rfl⟩
 refine WW.condF hS rfl hc3 (WW.skip ?_)
 refine WW.seq (WW.seq ?_)
 refine WW.region (sg0 hS 1 [] [3] [.int .i64 0] [] (by kernel_rfl) fun s hS=>?_)
 refine KW.nil (WW.block ?_)
 obtain⟨o5,ho5,h⟩:=bind_some h
 refine WW.loop (LW.iterS ho5 (fun(x4:Int) s=>Stt EV s [(0,aa pA),(2,.bool false),(3,.int .i64 x4)] [] F L F nx0) 0 (fun r=>ej EV Tryz.f43 L F nx0 (fun v S' F'=>F=F'∧v= .bool r∧S'= [])) (hS.subR rfl) ?_ ?_)
 clear hS
 rintro x4 s hS o5' h7
 unfold g_2.b0 at h7
 refine WW.seq (WW.seq ?_)
 refine WW.region (sg0 hS 4 [] [10] [.bool (decide (x4<(pA.length:Int)))] [] (by kernel_rfl) fun s hS=>?_)
 refine KW.nil (bc h7 (fun hc8 h7=>?_) fun hc8 h7=>?_)
 refine WW.condK hS rfl hc8 (WW.skip ?_)
 refine WW.seq (WW.block ?_)
 refine WW.seq (WW.region ?_)
 refine sg0 hS 2 [] [13,14] [aa pA,.int .i64 x4] [] (by kernel_rfl) fun s hS=>?_
 obtain⟨hk9,h7⟩:=ac h7
 refine aw hS (wn rfl) rfl rfl rfl (v:=vB (gt pA x4)) (au tu9 (hS.lk rfl) (hS.lk rfl) hk9) fun s hS=>(sg0 hS 2 [] [17] [.bool (decide (((gt pA x4).toNat:Int)≥((97:UInt8).toNat:Int)))] [] (by kernel_rfl) fun s hS=>?_)
 obtain⟨z10,hz10,h7⟩:=bind_some h7
 refine ay 5 (fun s=>Stt EV s [(22,.bool z10),(0,aa pA),(2,.bool false),(3,.int .i64 x4)] [] F L F nx0) ?_ fun s hS=>?_
 refine bc hz10 (fun hc11 hz10=>?_) fun hc11 hz10=>?_
 replace hS:=hS.kb 17 hc11 rfl
 refine sg0 hS 2 [] [18,19] [aa pA,.int .i64 x4] [] (by kernel_rfl) fun s hS=>?_
 obtain⟨hk12,hz10⟩:=ac hz10
 refine aw hS (wt hS rfl rfl rfl rfl) rfl rfl rfl (v:=vB (gt pA x4)) (au tu9 (hS.lk rfl) (hS.lk rfl) hk12) fun s hS=>(sg0 hS 2 [] [22] [.bool (decide (((gt pA x4).toNat:Int)≤((122:UInt8).toNat:Int)))] [] (by kernel_rfl) fun s hS=>?_)
 refine KW.nil ?_
 obtain rfl:=Option.some.inj hz10
 exact hS.subR rfl
 replace hS:=hS.kb 17 hc11 rfl
 refine sg0 hS 5 [] [22] [.bool false] [] (by kernel_rfl) fun s hS=>(KW.nil ?_)
 obtain rfl:=Option.some.inj hz10
 exact hS.subR rfl
 refine KW.nil (bc h7 (fun hc13 h7=>?_) fun hc13 h7=>?_)
 refine WW.condK hS rfl hc13 (WW.seq ?_)
 refine WW.region (sg0 hS 1 [] [2] [.bool false] [] (by kernel_rfl) fun s hS=>?_)
 refine KW.nil (WW.ret ?_)
 cases h7
 exact⟨_,rfl,rfl,ax hS (.inr rfl) 2 rfl rfl ⟨rfl,rfl,rfl⟩⟩
 refine WW.condF hS rfl hc13 (WW.skip ?_)
 refine WW.region (sg0 hS 3 [] [3] [.int .i64 (w64 (x4+1))] [] (by kernel_rfl) fun s hS=>?_)
 refine KW.nil ?_
 obtain rfl:=Option.some.inj h7
 exact⟨_,rfl,(hS.subR rfl)⟩
 refine WW.condF hS rfl hc8 (WW.exit ?_)
 refine ae ?_
 obtain rfl:=Option.some.inj h7
 exact⟨_,rfl,rfl,(hS.subR rfl)⟩
 clear hS
 rcases o5 with y14 | y14
 rintro e s ⟨rfl,hS⟩
 replace h:=bp h
 refine af (WW.seq ?_)
 refine WW.region (sg0 hS 1 [] [2] [.bool true] [] (by kernel_rfl) fun s hS=>?_)
 refine KW.nil (WW.ret ?_)
 cases h
 exact ax hS (.inr rfl) 2 rfl rfl ⟨rfl,rfl,rfl⟩
 rintro e s ⟨rfl,hfin⟩
 replace h:=bq h
 obtain rfl:=Option.some.inj h
 exact hfin
noncomputable def g_4.b0 (pA:List UInt8) (x2:Int):Option ((Int)⊕((Int)⊕(Bool))) :=
  (if(decide (x2<(pA.length:Int))) then(if 0≤x2∧x2<(pA.length:Int) then Option.bind (g_5.f (IntKind.i64.wrap ((gt pA x2).toNat:Int)) 32 126) fun y8=>(if(!y8) then some (.inr (.inr false)) else some (.inl (w64 (x2+1)))) else none) else some (.inr (.inl x2)))
noncomputable def g_4.f (pA:List UInt8) (pB:Int):Option (Bool) :=
  (if(decide ((pA.length:Int)>pB)) then some false else Option.bind (iter (g_4.b0 pA) 0) fun o3=>cu o3 fun y11=>some true)
theorem g_4.ok {pA:List UInt8} {pB:Int} {F:FZ} {r:Bool} (h:g_4.f pA pB=some r) :
    Cl EV 100 [aa pA,.int .i64 pB] [] F (fun v S' F'=>F=F'∧v= .bool r∧S'= []):=by
 refine Cl.of Tryz.func100 rfl (fun _ _=>rfl) (by kernel_rfl) fun s L nx0 hS=>?_
 unfold g_4.f at h
 refine WW.seq (WW.region ?_)
 refine sg0 hS 1 [] [4] [.bool false] [] (by kernel_rfl) fun s hS=>(KW.nil ?_)
 refine WW.seq (WW.seq ?_)
 refine WW.region (sg0 hS 4 [] [9] [.bool (decide ((pA.length:Int)>pB))] [] (by kernel_rfl) fun s hS=>?_)
 refine KW.nil (bc h (fun hc1 h=>?_) fun hc1 h=>?_)
 refine WW.condK hS rfl hc1 (WW.seq ?_)
 refine WW.region (sg0 hS 1 [] [4] [.bool false] [] (by kernel_rfl) fun s hS=>?_)
 refine KW.nil (WW.ret ?_)
 cases h
 exact ax hS (.inr rfl) 4 rfl rfl ⟨rfl,rfl,rfl⟩
 refine WW.condF hS rfl hc1 (WW.skip ?_)
 refine WW.seq (WW.seq ?_)
 refine WW.region (sg0 hS 1 [] [5] [.int .i64 0] [] (by kernel_rfl) fun s hS=>?_)
 refine KW.nil (WW.block ?_)
 obtain⟨o3,ho3,h⟩:=bind_some h
 refine WW.loop (LW.iterS ho3 (fun(x2:Int) s=>Stt EV s [(0,aa pA),(4,.bool false),(5,.int .i64 x2)] [] F L F nx0) 0 (fun r=>ej EV Tryz.f100 L F nx0 (fun v S' F'=>F=F'∧v= .bool r∧S'= [])) (hS.subR rfl) ?_ ?_)
 clear hS
 rintro x2 s hS o3' h5
 unfold g_4.b0 at h5
 refine WW.seq (WW.seq ?_)
 refine WW.region (sg0 hS 4 [] [13] [.bool (decide (x2<(pA.length:Int)))] [] (by kernel_rfl) fun s hS=>?_)
 refine KW.nil (bc h5 (fun hc6 h5=>?_) fun hc6 h5=>?_)
 refine WW.condK hS rfl hc6 (WW.skip ?_)
 refine WW.seq (WW.block ?_)
 refine WW.seq (WW.region ?_)
 refine sg0 hS 2 [] [16,17] [aa pA,.int .i64 x2] [] (by kernel_rfl) fun s hS=>?_
 obtain⟨hk7,h5⟩:=ac h5
 refine aw hS (wn rfl) rfl rfl rfl (v:=vB (gt pA x2)) (au tu9 (hS.lk rfl) (hS.lk rfl) hk7) fun s hS=>(aw hS (wn rfl) rfl rfl (kr hS rfl rfl) (v:= .int .i64 (IntKind.i64.wrap ((gt pA x2).toNat:Int))) (gU (hS.lk rfl) tu5 tu3) fun s hS=>?_)
 obtain⟨y8,hy8,h5⟩:=bind_some h5
 refine cR (g_5.ok hy8) hS 0 20 0 rfl (by kernel_rfl) fun s hS=>(sg0 hS 1 [] [21] [.bool (!y8)] [] (by kernel_rfl) fun s hS=>?_)
 refine KW.nil (bc h5 (fun hc10 h5=>?_) fun hc10 h5=>?_)
 refine WW.condK hS rfl hc10 (WW.seq ?_)
 refine WW.region (sg0 hS 1 [] [4] [.bool false] [] (by kernel_rfl) fun s hS=>?_)
 refine KW.nil (WW.ret ?_)
 cases h5
 exact⟨_,rfl,rfl,ax hS (.inr rfl) 4 rfl rfl ⟨rfl,rfl,rfl⟩⟩
 refine WW.condF hS rfl hc10 (WW.skip ?_)
 refine WW.region (sg0 hS 3 [] [5] [.int .i64 (w64 (x2+1))] [] (by kernel_rfl) fun s hS=>?_)
 refine KW.nil ?_
 obtain rfl:=Option.some.inj h5
 exact⟨_,rfl,(hS.subR rfl)⟩
 refine WW.condF hS rfl hc6 (WW.exit ?_)
 refine ae ?_
 obtain rfl:=Option.some.inj h5
 exact⟨_,rfl,rfl,(hS.subR rfl)⟩
 clear hS
 rcases o3 with y11 | y11
 rintro e s ⟨rfl,hS⟩
 replace h:=bp h
 refine af (WW.seq ?_)
 refine WW.region (sg0 hS 1 [] [4] [.bool true] [] (by kernel_rfl) fun s hS=>?_)
 refine KW.nil (WW.ret ?_)
 cases h
 exact ax hS (.inr rfl) 4 rfl rfl ⟨rfl,rfl,rfl⟩
 rintro e s ⟨rfl,hfin⟩
 replace h:=bq h
 obtain rfl:=Option.some.inj h
 exact hfin
noncomputable def g_2f.f (pA:List UInt8):Option (Int) :=
  (if(decide ((pA.length:Int)>1320)) then some 8 else Option.bind (g_4.f pA 1320) fun y2=>(if(!y2) then some 3 else some 0))
theorem g_2f.ok {pA:List UInt8} {F:FZ} {r:Int} (h:g_2f.f pA=some r) :
    Cl EV 76 [aa pA] [] F (fun v S' F'=>F=F'∧v= .int .i64 r∧S'= []):=by
 refine Cl.of Tryz.func76 rfl (fun _ _=>rfl) (by kernel_rfl) fun s L nx0 hS=>?_
 unfold g_2f.f at h
 refine WW.seq (WW.region ?_)
 refine sg0 hS 1 [] [2] [.int .i64 0] [] (by kernel_rfl) fun s hS=>(KW.nil ?_)
 refine WW.seq (WW.seq ?_)
 refine WW.region (sg0 hS 3 [] [5] [.bool (decide ((pA.length:Int)>1320))] [] (by kernel_rfl) fun s hS=>?_)
 refine KW.nil (bc h (fun hc1 h=>?_) fun hc1 h=>?_)
 refine WW.condK hS rfl hc1 (WW.seq ?_)
 refine WW.region (sg0 hS 1 [] [2] [.int .i64 8] [] (by kernel_rfl) fun s hS=>?_)
 refine KW.nil (WW.ret ?_)
 cases h
 exact ax hS (.inr rfl) 2 rfl rfl ⟨rfl,rfl,rfl⟩
 refine WW.condF hS rfl hc1 (WW.skip ?_)
 refine WW.seq (WW.seq ?_)
 refine WW.region ?_
 obtain⟨y2,hy2,h⟩:=bind_some h
 refine cR (g_4.ok hy2) hS 1 7 0 rfl (by kernel_rfl) fun s hS=>(sg0 hS 1 [] [8] [.bool (!y2)] [] (by kernel_rfl) fun s hS=>?_)
 refine KW.nil (bc h (fun hc4 h=>?_) fun hc4 h=>?_)
 refine WW.condK hS rfl hc4 (WW.seq ?_)
 refine WW.region (sg0 hS 1 [] [2] [.int .i64 3] [] (by kernel_rfl) fun s hS=>?_)
 refine KW.nil (WW.ret ?_)
 cases h
 exact ax hS (.inr rfl) 2 rfl rfl ⟨rfl,rfl,rfl⟩
 refine WW.condF hS rfl hc4 (WW.skip ?_)
 refine WW.seq (WW.region ?_)
 refine sg0 hS 1 [] [2] [.int .i64 0] [] (by kernel_rfl) fun s hS=>(KW.nil ?_)
 refine WW.ret ?_
 cases h
 exact ax hS (.inr rfl) 2 rfl rfl ⟨rfl,rfl,rfl⟩
noncomputable def g_2k.f (pA:List UInt8) (pB:List UInt8) (pC:List Int) (pJ:List (Int×Int)) (pP:Int) (pT:UInt8) (pU:Int):Option (List UInt8×List UInt8×List Int×(List (Int×Int))×Int) :=
  (if pA.length+([pT]:List UInt8).length<1000000000 then(if pB.length+([pT]:List UInt8).length<1000000000 then(if pC.length+([pU]:List Int).length<1000000000 then some ((pA++([pT]:List UInt8)),(pB++([pT]:List UInt8)),(pC++([pU]:List Int)),pJ,pP) else none) else none) else none)
theorem g_2k.ok {aE:Option Addr} {zH:Nat} {BJ:Seg} {aM:Option Addr} {zN:Nat} {BP:Seg} {pA:List UInt8} {pB:List UInt8} {pC:List Int} {pJ:List (Int×Int)} {pP:Int} {pT:UInt8} {pU:Int} {F:FZ} {r:List UInt8×List UInt8×List Int×(List (Int×Int))×Int} (h:g_2k.f pA pB pC pJ pP pT pU=some r) (hI:Own (elI .i64 3) F aE zH pC BJ) (hO:Own dk F aM zN pJ BP) :
    Cl EV 78 [.agg #[aa pA,aa pB,.slice aE pC.length zH,.slice aM pJ.length zN,.int .i64 pP],vB pT,.int .i64 pU] [BJ,BP] F (fun v S' F'=> ∃(ra1:Option Addr) (rz2:Nat) (rB4:Seg) (ra5:Option Addr) (rz6:Nat) (rB8:Seg),F=F'∧v= .agg #[aa r.1,aa r.2.1,.slice ra1 r.2.2.1.length rz2,.slice ra5 r.2.2.2.1.length rz6,.int .i64 r.2.2.2.2]∧S'= [rB4,rB8]∧Own (elI .i64 3) F' ra1 rz2 r.2.2.1 rB4∧Own dk F' ra5 rz6 r.2.2.2.1 rB8):=by
 refine Cl.of Tryz.func78 rfl (fun _ _=>rfl) (by kernel_rfl) fun s L nx0 hS=>?_
 unfold g_2k.f at h
 refine WW.seq (WW.region ?_)
 refine bA hS (wn rfl) rfl rfl rfl (v:=fun i=> .pointer (some ⟨i,0,none⟩)) (b:= .row [aa pA,aa pB,.slice aE pC.length zH,.slice aM pJ.length zN,.int .i64 pP] 73 0 true) (co (hS.lk rfl) rfl [aa pA,aa pB,.slice aE pC.length zH,.slice aM pJ.length zN,.int .i64 pP] rfl) fun s i1 hS=>(bA hS (wn rfl) rfl rfl rfl (v:=fun i=> .pointer (some ⟨i,0,none⟩)) (b:= .row [aa ([]),aa ([]),.slice none 0 0,.slice none 0 0,.int .i64 0] 73 0 true) (bf jb) fun s i2 hS=>?_)
 refine KW.nil (WW.seq ?_)
 refine WW.regionD (i:=[[],[],[1,0],[1,0],[1,0],[],[5,4,3,2,1,0],[5,4,3,2,1,0],[7,6,5,4,3,2,1,0],[7,6,5,4,3,2,1,0],[7,6,5,4,3,2,1,0],[5,4,3,2,1,0],[11,10,9,8,7,6,5,4,3,2,1,0],[11,10,9,8,7,6,5,4,3,2,1,0],[13,12,11,10,9,8,7,6,5,4,3,2,1,0],[13,12,11,10,9,8,7,6,5,4,3,2,1,0],[11,10,9,8,7,6,5,4,3,2,1,0],[16,15,14,11,10,9,8],[11,10,9,8],[],[],[],[]]) (by kernel_rfl) ?_
 have hq:=RS.start [i2,i1]
 refine kg hS hq 1 [7] [.pointer (some ⟨i1,0,none⟩)] (by kernel_rfl) fun s rs hS hq=>(K.ld hS hq rfl (wn rfl) rfl rfl rfl (hS.at (k:=1) rfl) tg9 (v:=aa pA) rfl 1 rfl rfl fun s rs hS hq=>?_)
 refine kg hS hq 1 [9] [vB pT] (by kernel_rfl) fun s rs hS hq=>(K.nw hS hq rfl (wn rfl) rfl rfl rfl (v:=fun i=> .slice (some ⟨i,0,none⟩) 1 1) (b:= .row [vB pT] 5 1 true) (aW jq tz5 t0_5 rfl [(0,vB pT)] (av hS rfl) rfl) [0,1] (aP rfl mm0 (aP rfl (mm1 mm0) bn)) rfl rfl rfl fun s rs i3 hS hq=>?_)
 have hC4:ai (elB 5) F ([pT]:List UInt8) [vB pT]:=⟨[vB pT],[],rfl,rfl,rfl⟩
 refine K.rd hS hq rfl (wn rfl) rfl rfl (pY hS rfl) (hS.at (k:=0) rfl) (v:=aa ([pT]:List UInt8)) (cv1c jq tb5 tu9 (hS.lk rfl) hC4) 2 rfl rfl fun s rs hS hq=>?_
 obtain⟨hk5,h⟩:=ac h
 refine K.pu hS hq rfl (wn rfl) rfl rfl rfl (v:=aa (pA++([pT]:List UInt8))) (bS (hS.lk rfl) (hS.lk rfl) hk5) fun s rs hS hq=>(kg hS hq 1 [13] [.pointer (some ⟨i1,1,none⟩)] (by kernel_rfl) fun s rs hS hq=>?_)
 refine K.ld hS hq rfl (wn rfl) rfl rfl rfl (hS.at (k:=2) rfl) tg9 (v:=aa pB) rfl 1 rfl rfl fun s rs hS hq=>(kg hS hq 1 [15] [vB pT] (by kernel_rfl) fun s rs hS hq=>?_)
 refine K.nw hS hq rfl (wn rfl) rfl rfl rfl (v:=fun i=> .slice (some ⟨i,0,none⟩) 1 1) (b:= .row [vB pT] 5 1 true) (aW jq tz5 t0_5 rfl [(0,vB pT)] (av hS rfl) rfl) [0,1,2] (aP rfl (mm1 mm0) (aP rfl (mm1 (mm1 mm0)) (aP rfl mm0 bn))) rfl rfl rfl fun s rs i6 hS hq=>?_
 have hC7:ai (elB 5) F ([pT]:List UInt8) [vB pT]:=⟨[vB pT],[],rfl,rfl,rfl⟩
 replace hq:=hq.apart 3 2 3 rfl rfl rfl (hS.ne (p:=1) (q:=0) rfl rfl rfl)
 refine K.rd hS hq rfl (wn rfl) rfl rfl (pY hS rfl) (hS.at (k:=0) rfl) (v:=aa ([pT]:List UInt8)) (cv1c jq tb5 tu9 (hS.lk rfl) hC7) 3 rfl rfl fun s rs hS hq=>?_
 obtain⟨hk8,h⟩:=ac h
 refine K.pu hS hq rfl (wn rfl) rfl rfl rfl (v:=aa (pB++([pT]:List UInt8))) (bS (hS.lk rfl) (hS.lk rfl) hk8) fun s rs hS hq=>(kg hS hq 1 [19] [.pointer (some ⟨i1,2,none⟩)] (by kernel_rfl) fun s rs hS hq=>?_)
 refine K.ld hS hq rfl (wn rfl) rfl rfl rfl (hS.at (k:=3) rfl) fL (v:= .slice aE pC.length zH) rfl 1 rfl rfl fun s rs hS hq=>(kg hS hq 1 [21] [.int .i64 pU] (by kernel_rfl) fun s rs hS hq=>?_)
 refine K.nw hS hq rfl (wn rfl) rfl rfl rfl (v:=fun i=> .slice (some ⟨i,0,none⟩) 1 1) (b:= .row [.int .i64 pU] 3 1 true) (aW iM tz3 gp rfl [(0,.int .i64 pU)] (av hS rfl) rfl) [0,1,2,3] (aP rfl (mm1 (mm1 mm0)) (aP rfl (mm1 (mm1 (mm1 mm0))) (aP rfl (mm1 mm0) (aP rfl mm0 bn)))) rfl rfl rfl fun s rs i9 hS hq=>?_
 have hC10:ai (elI .i64 3) F ([pU]:List Int) [.int .i64 pU]:=⟨[.int .i64 pU],[],rfl,rfl,rfl⟩
 obtain⟨hk14,h⟩:=ac h
 replace hS:=hS.pull 5
 replace hS:=hS.pull 1
 replace hS:=hS.pull 3
 replace hS:=hS.pull 3
 refine K.app [(i6,.row [vB pT] 5 1 true),(i3,.row [vB pT] 5 1 true)] hS hq rfl (wn rfl) (dd:=(elI .i64 3)) (lst:=pC) (m:=([pU]:List Int)) rfl rfl dl rfl rfl hI (Nat.succ_pos _) hC10 hk14 [0,1,2,3] rfl rfl (aP rfl (mm1 (mm1 mm0)) (aP rfl (mm1 (mm1 (mm1 mm0))) (aP rfl (mm1 mm0) (aP rfl mm0 bn)))) fun s rs i11 cs12 hC13 hS hq=>(kg hS hq 1 [24] [.pointer (some ⟨i1,0,none⟩)] (by kernel_rfl) fun s rs hS hq=>?_)
 refine K.sto hS hq rfl (wn rfl) rfl rfl rfl rfl (p:=4) rfl tz9 rfl [aa (pA++([pT]:List UInt8)),aa pB,.slice aE pC.length zH,.slice aM pJ.length zN,.int .i64 pP] rfl [0,2,3] rfl (aP rfl (mm1 (mm1 (mm1 mm0))) (aP rfl (mm1 mm0) (aP rfl mm0 bn))) fun s rs hS hq=>(kg hS hq 1 [25] [.pointer (some ⟨i1,1,none⟩)] (by kernel_rfl) fun s rs hS hq=>?_)
 refine K.sto hS hq rfl (wn rfl) rfl rfl rfl rfl (p:=4) rfl tz9 rfl [aa (pA++([pT]:List UInt8)),aa (pB++([pT]:List UInt8)),.slice aE pC.length zH,.slice aM pJ.length zN,.int .i64 pP] rfl [0,2,3] rfl (aP rfl (mm1 (mm1 (mm1 mm0))) (aP rfl (mm1 mm0) (aP rfl mm0 bn))) fun s rs hS hq=>(kg hS hq 1 [26] [.pointer (some ⟨i1,2,none⟩)] (by kernel_rfl) fun s rs hS hq=>?_)
 refine K.sto hS hq rfl (wn rfl) rfl rfl rfl rfl (p:=4) rfl tz22 rfl [aa (pA++([pT]:List UInt8)),aa (pB++([pT]:List UInt8)),.slice (some ⟨i11,0,none⟩) (pC++([pU]:List Int)).length 1,.slice aM pJ.length zN,.int .i64 pP] rfl [0,2,3] rfl (aP rfl (mm1 (mm1 (mm1 mm0))) (aP rfl (mm1 mm0) (aP rfl mm0 bn))) fun s rs hS hq=>(KW.nil ?_)
 refine WW.seq (WW.region ?_)
 refine sg hS 2 [4,3] [] [] [i1,i2] [[(i6,.row [vB pT] 5 1 true)],[(i3,.row [vB pT] 5 1 true)],[(i11,.row cs12 3 1 true)],[(i2,.row [aa (pA++([pT]:List UInt8)),aa (pB++([pT]:List UInt8)),.slice (some ⟨i11,0,none⟩) (pC++([pU]:List Int)).length 1,.slice aM pJ.length zN,.int .i64 pP] 73 0 true)],[(i1,.row [aa (pA++([pT]:List UInt8)),aa (pB++([pT]:List UInt8)),.slice (some ⟨i11,0,none⟩) (pC++([pU]:List Int)).length 1,.slice aM pJ.length zN,.int .i64 pP] 73 0 true)],BP] (by kernel_rfl) fun s hS=>(KW.nil ?_)
 refine WW.ret ?_
 have hres:=(bE hS (t:=6) (ty:=73) rfl (p:=3) rfl kZ iN (ws:=[aa (pA++([pT]:List UInt8)),aa (pB++([pT]:List UInt8)),.slice (some ⟨i11,0,none⟩) (pC++([pU]:List Int)).length 1,.slice aM pJ.length zN,.int .i64 pP]) rfl (aY (E:=EV) (s:=s)))
 replace hS:=hS.drop
 replace hS:=hS.drop
 replace hS:=(hS.pull 1).drop
 replace hS:=(hS.pull 1).drop
 cases h
 exact fin hS (.inr rfl) hres (v:= .agg #[aa (pA++([pT]:List UInt8)),aa (pB++([pT]:List UInt8)),.slice (some ⟨i11,0,none⟩) (pC++([pU]:List Int)).length 1,.slice aM pJ.length zN,.int .i64 pP]) rfl ⟨_,_,_,_,_,_,rfl,rfl,rfl,(Own.blk0 hC13),hO⟩
noncomputable def g_2g.f (pA:List UInt8) (pB:List UInt8) (pC:List Int) (pJ:List (Int×Int)) (pP:Int):Option (List UInt8×List UInt8×List Int×(List (Int×Int))×Int) :=
  (if 0≤(0:Int)∧(0:Int)≤(w64 ((pB.length:Int)-1))∧(w64 ((pB.length:Int)-1))≤(pB.length:Int) then(if(mid pB (0:Int) (w64 ((pB.length:Int)-1))).length+([34]:List UInt8).length<1000000000 then some (pA,((mid pB (0:Int) (w64 ((pB.length:Int)-1)))++ [34]),pC,pJ,pP) else none) else none)
theorem g_2g.ok {aE:Option Addr} {zH:Nat} {BJ:Seg} {aM:Option Addr} {zN:Nat} {BP:Seg} {pA:List UInt8} {pB:List UInt8} {pC:List Int} {pJ:List (Int×Int)} {pP:Int} {F:FZ} {r:List UInt8×List UInt8×List Int×(List (Int×Int))×Int} (h:g_2g.f pA pB pC pJ pP=some r) (hI:Own (elI .i64 3) F aE zH pC BJ) (hO:Own dk F aM zN pJ BP) :
    Cl EV 77 [.agg #[aa pA,aa pB,.slice aE pC.length zH,.slice aM pJ.length zN,.int .i64 pP]] [BJ,BP] F (fun v S' F'=> ∃(ra1:Option Addr) (rz2:Nat) (rB4:Seg) (ra5:Option Addr) (rz6:Nat) (rB8:Seg),F=F'∧v= .agg #[aa r.1,aa r.2.1,.slice ra1 r.2.2.1.length rz2,.slice ra5 r.2.2.2.1.length rz6,.int .i64 r.2.2.2.2]∧S'= [rB4,rB8]∧Own (elI .i64 3) F' ra1 rz2 r.2.2.1 rB4∧Own dk F' ra5 rz6 r.2.2.2.1 rB8):=by
 refine Cl.of Tryz.func77 rfl (fun _ _=>rfl) (by kernel_rfl) fun s L nx0 hS=>?_
 unfold g_2g.f at h
 refine WW.seq (WW.region ?_)
 refine bA hS (wn rfl) rfl rfl rfl (v:=fun i=> .pointer (some ⟨i,0,none⟩)) (b:= .row [aa pA,aa pB,.slice aE pC.length zH,.slice aM pJ.length zN,.int .i64 pP] 73 0 true) (co (hS.lk rfl) rfl [aa pA,aa pB,.slice aE pC.length zH,.slice aM pJ.length zN,.int .i64 pP] rfl) fun s i1 hS=>(bA hS (wn rfl) rfl rfl rfl (v:=fun i=> .pointer (some ⟨i,0,none⟩)) (b:= .row [aa ([]),aa ([]),.slice none 0 0,.slice none 0 0,.int .i64 0] 73 0 true) (bf jb) fun s i2 hS=>?_)
 refine KW.nil (WW.seq ?_)
 refine WW.region (sg0 hS 6 [1,1] [4,8] [aa pB,.int .i64 (w64 ((pB.length:Int)-1))] [i1,i1] (by kernel_rfl) fun s hS=>?_)
 obtain⟨hk3,h⟩:=ac h
 refine aw hS (wn rfl) rfl rfl rfl (v:=aa (mid pB (0:Int) (w64 ((pB.length:Int)-1)))) (cU tu9 (hS.lk rfl) (i:=(0:Int)) (j:=(w64 ((pB.length:Int)-1))) rfl (bF hS rfl) hk3) fun s hS=>?_
 obtain⟨hk4,h⟩:=ac h
 refine aw hS (wn rfl) rfl rfl rfl (v:=aa ((mid pB (0:Int) (w64 ((pB.length:Int)-1)))++ [34])) (bS (hS.lk rfl) (hS.lk rfl) hk4) fun s hS=>(sg hS 2 [1] [] [] [i1] [[(i2,.row [aa ([]),aa ([]),.slice none 0 0,.slice none 0 0,.int .i64 0] 73 0 true)],[(i1,.row [aa pA,aa ((mid pB (0:Int) (w64 ((pB.length:Int)-1)))++ [34]),.slice aE pC.length zH,.slice aM pJ.length zN,.int .i64 pP] 73 0 true)],BJ,BP] (by kernel_rfl) fun s hS=>?_)
 refine KW.nil (WW.seq ?_)
 refine WW.region (sg hS 2 [1,0] [] [] [i1,i2] [[(i2,.row [aa pA,aa ((mid pB (0:Int) (w64 ((pB.length:Int)-1)))++ [34]),.slice aE pC.length zH,.slice aM pJ.length zN,.int .i64 pP] 73 0 true)],[(i1,.row [aa pA,aa ((mid pB (0:Int) (w64 ((pB.length:Int)-1)))++ [34]),.slice aE pC.length zH,.slice aM pJ.length zN,.int .i64 pP] 73 0 true)],BJ,BP] (by kernel_rfl) fun s hS=>?_)
 refine KW.nil (WW.ret ?_)
 have hres:=(bE hS (t:=2) (ty:=73) rfl (p:=0) rfl kZ iN (ws:=[aa pA,aa ((mid pB (0:Int) (w64 ((pB.length:Int)-1)))++ [34]),.slice aE pC.length zH,.slice aM pJ.length zN,.int .i64 pP]) rfl (aY (E:=EV) (s:=s)))
 replace hS:=hS.drop
 replace hS:=hS.drop
 cases h
 exact fin hS (.inr rfl) hres (v:= .agg #[aa pA,aa ((mid pB (0:Int) (w64 ((pB.length:Int)-1)))++ [34]),.slice aE pC.length zH,.slice aM pJ.length zN,.int .i64 pP]) rfl ⟨_,_,_,_,_,_,rfl,rfl,rfl,hI,hO⟩
noncomputable def g_2i.f (pA:UInt8):Option (Bool) :=
  some ((decide ((pA.toNat:Int)≥((48:UInt8).toNat:Int)))&&(decide ((pA.toNat:Int)≤((57:UInt8).toNat:Int))))
theorem g_2i.ok {pA:UInt8} {F:FZ} {r:Bool} (h:g_2i.f pA=some r) :
    Cl EV 101 [vB pA] [] F (fun v S' F'=>F=F'∧v= .bool r∧S'= []):=by
 refine Cl.of Tryz.func101 rfl (fun _ _=>rfl) (by kernel_rfl) fun s L nx0 hS=>?_
 unfold g_2i.f at h
 refine WW.seq (WW.region ?_)
 refine sg0 hS 1 [] [2] [.bool false] [] (by kernel_rfl) fun s hS=>(KW.nil ?_)
 refine WW.seq (WW.region ?_)
 refine sg0 hS 3 [] [5] [.bool (decide ((pA.toNat:Int)≥((48:UInt8).toNat:Int)))] [] (by kernel_rfl) fun s hS=>(ay 3 (fun s=>Stt EV s [(8,.bool ((decide ((pA.toNat:Int)≥((48:UInt8).toNat:Int)))&&(decide ((pA.toNat:Int)≤((57:UInt8).toNat:Int))))),(2,.bool false)] [] F L F nx0) ?_ fun s hS=>?_)
 rcases aj ((decide ((pA.toNat:Int)≥((48:UInt8).toNat:Int)))) with hcj | hcj
 replace hS:=hS.know (t:=5) rfl (congrArg Value.bool hcj)
 refine sg0 hS 3 [] [8] [.bool (decide ((pA.toNat:Int)≤((57:UInt8).toNat:Int)))] [] (by kernel_rfl) fun s hS=>(KW.nil ?_)
 exact(hS.know (t:=8) (u':= .bool ((decide ((pA.toNat:Int)≥((48:UInt8).toNat:Int)))&&(decide ((pA.toNat:Int)≤((57:UInt8).toNat:Int))))) rfl (aJ hcj)).subR rfl
 replace hS:=hS.know (t:=5) rfl (congrArg Value.bool hcj)
 refine sg0 hS 3 [] [8] [.bool false] [] (by kernel_rfl) fun s hS=>(KW.nil ?_)
 exact(hS.know (t:=8) (u':= .bool ((decide ((pA.toNat:Int)≥((48:UInt8).toNat:Int)))&&(decide ((pA.toNat:Int)≤((57:UInt8).toNat:Int))))) rfl (aL hcj)).subR rfl
 refine sg0 hS 1 [] [2] [.bool ((decide ((pA.toNat:Int)≥((48:UInt8).toNat:Int)))&&(decide ((pA.toNat:Int)≤((57:UInt8).toNat:Int))))] [] (by kernel_rfl) fun s hS=>(KW.nil ?_)
 refine WW.ret ?_
 cases h
 exact ax hS (.inr rfl) 2 rfl rfl ⟨rfl,rfl,rfl⟩
noncomputable def g_2h.b0 (pA:List UInt8) (x1:Int):Option ((Int)⊕(Int)) :=
  Option.bind ((if(decide (x1>0)) then(if 0≤(w64 (x1-1))∧(w64 (x1-1))<(pA.length:Int) then Option.bind (g_2i.f (gt pA (w64 (x1-1)))) fun y8=>some y8 else none) else some false)) fun z5=>(if z5 then some (.inl (w64 (x1-1))) else some (.inr x1))
noncomputable def g_2h.b1 (pA:List UInt8) (x15:Int):Option ((Int)⊕(Int)) :=
  Option.bind ((if(decide (x15>0)) then(if 0≤(w64 (x15-1))∧(w64 (x15-1))<(pA.length:Int) then Option.bind (g_2i.f (gt pA (w64 (x15-1)))) fun y22=>some y22 else none) else some false)) fun z19=>(if z19 then some (.inl (w64 (x15-1))) else some (.inr x15))
noncomputable def g_2h.f (pA:List UInt8):Option (Int) :=
  Option.bind (iter (g_2h.b0 pA) (pA.length:Int)) fun o2=>Option.bind ((if((decide ((w64 ((pA.length:Int)-o2))>0))&&(decide (o2>0))) then(if 0≤(w64 (o2-1))∧(w64 (o2-1))<(pA.length:Int) then some (((gt pA (w64 (o2-1))).toNat:Int)==((42:UInt8).toNat:Int)) else none) else some false)) fun z11=>(if z11 then Option.bind (iter (g_2h.b1 pA) (w64 (o2-1))) fun o16=>(if(o16==(w64 (o2-1))) then some 0 else Option.bind ((if(o16==0) then some true else(if 0≤(w64 (o16-1))∧(w64 (o16-1))<(pA.length:Int) then Option.bind ((if(((gt pA (w64 (o16-1))).toNat:Int) != ((40:UInt8).toNat:Int)) then(if 0≤(w64 (o16-1))∧(w64 (o16-1))<(pA.length:Int) then some (((gt pA (w64 (o16-1))).toNat:Int) != ((44:UInt8).toNat:Int)) else none) else some false)) fun z29=>Option.bind ((if z29 then(if 0≤(w64 (o16-1))∧(w64 (o16-1))<(pA.length:Int) then some (((gt pA (w64 (o16-1))).toNat:Int) != ((47:UInt8).toNat:Int)) else none) else some false)) fun z32=>Option.bind ((if z32 then(if 0≤(w64 (o16-1))∧(w64 (o16-1))<(pA.length:Int) then some (((gt pA (w64 (o16-1))).toNat:Int) != ((61:UInt8).toNat:Int)) else none) else some false)) fun z35=>some z35 else none))) fun z26=>(if z26 then some 0 else some (w64 ((pA.length:Int)-o2)))) else Option.bind ((if(o2==0) then some true else(if 0≤(w64 (o2-1))∧(w64 (o2-1))<(pA.length:Int) then Option.bind ((if(((gt pA (w64 (o2-1))).toNat:Int) != ((40:UInt8).toNat:Int)) then(if 0≤(w64 (o2-1))∧(w64 (o2-1))<(pA.length:Int) then some (((gt pA (w64 (o2-1))).toNat:Int) != ((44:UInt8).toNat:Int)) else none) else some false)) fun z42=>Option.bind ((if z42 then(if 0≤(w64 (o2-1))∧(w64 (o2-1))<(pA.length:Int) then some (((gt pA (w64 (o2-1))).toNat:Int) != ((47:UInt8).toNat:Int)) else none) else some false)) fun z45=>Option.bind ((if z45 then(if 0≤(w64 (o2-1))∧(w64 (o2-1))<(pA.length:Int) then some (((gt pA (w64 (o2-1))).toNat:Int) != ((61:UInt8).toNat:Int)) else none) else some false)) fun z48=>some z48 else none))) fun z39=>(if z39 then some 0 else some (w64 ((pA.length:Int)-o2))))
theorem g_2h.ok {pA:List UInt8} {F:FZ} {r:Int} (h:g_2h.f pA=some r) :
    Cl EV 79 [aa pA] [] F (fun v S' F'=>F=F'∧v= .int .i64 r∧S'= []):=by
 refine Cl.of Tryz.func79 rfl (fun _ _=>rfl) (by kernel_rfl) fun s L nx0 hS=>?_
 unfold g_2h.f at h
 refine WW.seq (WW.region ?_)
 refine sg0 hS 1 [] [2] [.int .i64 0] [] (by kernel_rfl) fun s hS=>(KW.nil ?_)
 refine WW.seq (WW.region ?_)
 refine sg0 hS 3 [] [3] [.int .i64 (pA.length:Int)] [] (by kernel_rfl) fun s hS=>(KW.nil ?_)
 refine WW.seq (WW.block ?_)
 obtain⟨o2,ho2,h⟩:=bind_some h
 refine WW.loop (LW.iterE ho2 (fun(x1:Int) s=>Stt EV s [(0,aa pA),(2,.int .i64 0),(3,.int .i64 x1)] [] F L F nx0) 0 (hS.subR rfl) ?_ ?_)
 clear hS
 rintro x1 s hS o2' h4
 unfold g_2h.b0 at h4
 refine WW.seq (WW.seq ?_)
 refine WW.region (sg0 hS 3 [] [10] [.bool (decide (x1>0))] [] (by kernel_rfl) fun s hS=>?_)
 obtain⟨z5,hz5,h4⟩:=bind_some h4
 refine ay 6 (fun s=>Stt EV s [(16,.bool z5),(0,aa pA),(2,.int .i64 0),(3,.int .i64 x1)] [] F L F nx0) ?_ fun s hS=>?_
 refine bc hz5 (fun hc6 hz5=>?_) fun hc6 hz5=>?_
 replace hS:=hS.kb 10 hc6 rfl
 refine sg0 hS 3 [] [11,13] [aa pA,.int .i64 (w64 (x1-1))] [] (by kernel_rfl) fun s hS=>?_
 obtain⟨hk7,hz5⟩:=ac hz5
 refine aw hS (wt hS rfl rfl rfl rfl) rfl rfl rfl (v:=vB (gt pA (w64 (x1-1)))) (au tu9 (hS.lk rfl) (hS.lk rfl) hk7) fun s hS=>?_
 obtain⟨y8,hy8,hz5⟩:=bind_some hz5
 refine bu hS (wt hS rfl rfl rfl rfl) (vs:=[vB (gt pA (w64 (x1-1)))]) (ws:=[vB (gt pA (w64 (x1-1)))]) rfl rfl rfl rfl rfl 0 rfl (g_2i.ok hy8) fun s v S' F' hp9 hF hS=>?_
 obtain⟨rfl,rfl,rfl⟩:=hp9
 refine sg0 hS 1 [] [16] [.bool y8] [] (by kernel_rfl) fun s hS=>(KW.nil ?_)
 obtain rfl:=Option.some.inj hz5
 exact hS.subR rfl
 replace hS:=hS.kb 10 hc6 rfl
 refine sg0 hS 6 [] [16] [.bool false] [] (by kernel_rfl) fun s hS=>(KW.nil ?_)
 obtain rfl:=Option.some.inj hz5
 exact hS.subR rfl
 refine KW.nil (bc h4 (fun hc10 h4=>?_) fun hc10 h4=>?_)
 refine WW.condK hS rfl hc10 (WW.skip ?_)
 refine WW.block (WW.region ?_)
 refine sg0 hS 3 [] [3] [.int .i64 (w64 (x1-1))] [] (by kernel_rfl) fun s hS=>(KW.nil ?_)
 obtain rfl:=Option.some.inj h4
 exact⟨_,rfl,(hS.subR rfl)⟩
 refine WW.condF hS rfl hc10 (WW.exit ?_)
 refine ae ?_
 obtain rfl:=Option.some.inj h4
 exact⟨_,rfl,rfl,(hS.subR rfl)⟩
 clear hS
 rintro e s ⟨rfl,hS⟩
 refine af (WW.seq ?_)
 refine WW.region (sg0 hS 5 [] [4] [.int .i64 (w64 ((pA.length:Int)-o2))] [] (by kernel_rfl) fun s hS=>?_)
 refine KW.nil (WW.seq ?_)
 refine WW.seq (WW.region ?_)
 refine sg0 hS 3 [] [25] [.bool (decide ((w64 ((pA.length:Int)-o2))>0))] [] (by kernel_rfl) fun s hS=>(ay 3 (fun s=>Stt EV s [(28,.bool ((decide ((w64 ((pA.length:Int)-o2))>0))&&(decide (o2>0)))),(0,aa pA),(2,.int .i64 0),(3,.int .i64 o2),(4,.int .i64 (w64 ((pA.length:Int)-o2)))] [] F L F nx0) ?_ fun s hS=>?_)
 rcases aj ((decide ((w64 ((pA.length:Int)-o2))>0))) with hcj | hcj
 replace hS:=hS.know (t:=25) rfl (congrArg Value.bool hcj)
 refine sg0 hS 3 [] [28] [.bool (decide (o2>0))] [] (by kernel_rfl) fun s hS=>(KW.nil ?_)
 exact(hS.know (t:=28) (u':= .bool ((decide ((w64 ((pA.length:Int)-o2))>0))&&(decide (o2>0)))) rfl (aJ hcj)).subR rfl
 replace hS:=hS.know (t:=25) rfl (congrArg Value.bool hcj)
 refine sg0 hS 3 [] [28] [.bool false] [] (by kernel_rfl) fun s hS=>(KW.nil ?_)
 exact(hS.know (t:=28) (u':= .bool ((decide ((w64 ((pA.length:Int)-o2))>0))&&(decide (o2>0)))) rfl (aL hcj)).subR rfl
 refine sg0 hS 1 [] [29] [.bool ((decide ((w64 ((pA.length:Int)-o2))>0))&&(decide (o2>0)))] [] (by kernel_rfl) fun s hS=>?_
 obtain⟨z11,hz11,h⟩:=bind_some h
 refine ay 6 (fun s=>Stt EV s [(35,.bool z11),(0,aa pA),(2,.int .i64 0),(3,.int .i64 o2),(4,.int .i64 (w64 ((pA.length:Int)-o2)))] [] F L F nx0) ?_ fun s hS=>?_
 refine bc hz11 (fun hc12 hz11=>?_) fun hc12 hz11=>?_
 replace hS:=hS.kb 28 hc12 rfl
 replace hS:=hS.kb 29 hc12 rfl
 refine sg0 hS 3 [] [30,32] [aa pA,.int .i64 (w64 (o2-1))] [] (by kernel_rfl) fun s hS=>?_
 obtain⟨hk13,hz11⟩:=ac hz11
 refine aw hS (wt hS rfl rfl rfl rfl) rfl rfl rfl (v:=vB (gt pA (w64 (o2-1)))) (au tu9 (hS.lk rfl) (hS.lk rfl) hk13) fun s hS=>(sg0 hS 2 [] [35] [.bool (((gt pA (w64 (o2-1))).toNat:Int)==((42:UInt8).toNat:Int))] [] (by kernel_rfl) fun s hS=>?_)
 refine KW.nil ?_
 obtain rfl:=Option.some.inj hz11
 exact hS.subR rfl
 replace hS:=hS.kb 28 hc12 rfl
 replace hS:=hS.kb 29 hc12 rfl
 refine sg0 hS 6 [] [35] [.bool false] [] (by kernel_rfl) fun s hS=>(KW.nil ?_)
 obtain rfl:=Option.some.inj hz11
 exact hS.subR rfl
 refine KW.nil (bc h (fun hc14 h=>?_) fun hc14 h=>?_)
 refine WW.condK hS rfl hc14 (WW.seq ?_)
 refine WW.region (sg0 hS 3 [] [5] [.int .i64 (w64 (o2-1))] [] (by kernel_rfl) fun s hS=>?_)
 refine KW.nil (WW.seq ?_)
 refine WW.block ?_
 obtain⟨o16,ho16,h⟩:=bind_some h
 refine WW.loop (LW.iterE ho16 (fun(x15:Int) s=>Stt EV s [(0,aa pA),(2,.int .i64 0),(3,.int .i64 o2),(4,.int .i64 (w64 ((pA.length:Int)-o2))),(5,.int .i64 x15)] [] F L F nx0) 2 (hS.subR rfl) ?_ ?_)
 clear hS
 rintro x15 s hS o16' h18
 unfold g_2h.b1 at h18
 refine WW.seq (WW.seq ?_)
 refine WW.region (sg0 hS 3 [] [40] [.bool (decide (x15>0))] [] (by kernel_rfl) fun s hS=>?_)
 obtain⟨z19,hz19,h18⟩:=bind_some h18
 refine ay 6 (fun s=>Stt EV s [(46,.bool z19),(0,aa pA),(2,.int .i64 0),(3,.int .i64 o2),(4,.int .i64 (w64 ((pA.length:Int)-o2))),(5,.int .i64 x15)] [] F L F nx0) ?_ fun s hS=>?_
 refine bc hz19 (fun hc20 hz19=>?_) fun hc20 hz19=>?_
 replace hS:=hS.kb 40 hc20 rfl
 refine sg0 hS 3 [] [41,43] [aa pA,.int .i64 (w64 (x15-1))] [] (by kernel_rfl) fun s hS=>?_
 obtain⟨hk21,hz19⟩:=ac hz19
 refine aw hS (wt hS rfl rfl rfl rfl) rfl rfl rfl (v:=vB (gt pA (w64 (x15-1)))) (au tu9 (hS.lk rfl) (hS.lk rfl) hk21) fun s hS=>?_
 obtain⟨y22,hy22,hz19⟩:=bind_some hz19
 refine bu hS (wt hS rfl rfl rfl rfl) (vs:=[vB (gt pA (w64 (x15-1)))]) (ws:=[vB (gt pA (w64 (x15-1)))]) rfl rfl rfl rfl rfl 0 rfl (g_2i.ok hy22) fun s v S' F' hp23 hF hS=>?_
 obtain⟨rfl,rfl,rfl⟩:=hp23
 refine sg0 hS 1 [] [46] [.bool y22] [] (by kernel_rfl) fun s hS=>(KW.nil ?_)
 obtain rfl:=Option.some.inj hz19
 exact hS.subR rfl
 replace hS:=hS.kb 40 hc20 rfl
 refine sg0 hS 6 [] [46] [.bool false] [] (by kernel_rfl) fun s hS=>(KW.nil ?_)
 obtain rfl:=Option.some.inj hz19
 exact hS.subR rfl
 refine KW.nil (bc h18 (fun hc24 h18=>?_) fun hc24 h18=>?_)
 refine WW.condK hS rfl hc24 (WW.skip ?_)
 refine WW.block (WW.region ?_)
 refine sg0 hS 3 [] [5] [.int .i64 (w64 (x15-1))] [] (by kernel_rfl) fun s hS=>(KW.nil ?_)
 obtain rfl:=Option.some.inj h18
 exact⟨_,rfl,(hS.subR rfl)⟩
 refine WW.condF hS rfl hc24 (WW.exit ?_)
 refine ae ?_
 obtain rfl:=Option.some.inj h18
 exact⟨_,rfl,rfl,(hS.subR rfl)⟩
 clear hS
 rintro e s ⟨rfl,hS⟩
 refine af (WW.seq ?_)
 refine WW.seq (WW.region ?_)
 refine sg0 hS 4 [] [52] [.bool (o16==(w64 (o2-1)))] [] (by kernel_rfl) fun s hS=>(KW.nil ?_)
 refine bc h (fun hc25 h=>?_) fun hc25 h=>?_
 refine WW.condK hS rfl hc25 (WW.seq ?_)
 refine WW.region (sg0 hS 1 [] [2] [.int .i64 0] [] (by kernel_rfl) fun s hS=>?_)
 refine KW.nil (WW.ret ?_)
 cases h
 exact ax hS (.inr rfl) 2 rfl rfl ⟨rfl,rfl,rfl⟩
 refine WW.condF hS rfl hc25 (WW.skip ?_)
 refine WW.region (sg0 hS 2 [] [3] [.int .i64 o16] [] (by kernel_rfl) fun s hS=>?_)
 refine KW.nil (WW.seq ?_)
 refine WW.seq (WW.region ?_)
 refine sg0 hS 3 [] [56] [.bool (o16==0)] [] (by kernel_rfl) fun s hS=>?_
 obtain⟨z26,hz26,h⟩:=bind_some h
 refine ay 27 (fun s=>Stt EV s [(83,.bool z26),(2,.int .i64 0),(4,.int .i64 (w64 ((pA.length:Int)-o2)))] [] F L F nx0) ?_ fun s hS=>?_
 refine bc hz26 (fun hc27 hz26=>?_) fun hc27 hz26=>?_
 replace hS:=hS.kb 56 hc27 rfl
 refine sg0 hS 6 [] [62] [undef] [] (by kernel_rfl) fun s hS=>(cE hS (wu hS rfl rfl rfl) rfl fun s hS=>?_)
 refine cE hS (wu hS rfl rfl rfl) rfl fun s hS=>(cE hS (wu hS rfl rfl rfl) rfl fun s hS=>?_)
 refine cE hS (wu hS rfl rfl rfl) rfl fun s hS=>(cE hS (wu hS rfl rfl rfl) rfl fun s hS=>?_)
 refine sg0 hS 2 [] [69] [undef] [] (by kernel_rfl) fun s hS=>(cE hS (wu hS rfl rfl rfl) rfl fun s hS=>?_)
 refine cE hS (wu hS rfl rfl rfl) rfl fun s hS=>(cE hS (wu hS rfl rfl rfl) rfl fun s hS=>?_)
 refine cE hS (wu hS rfl rfl rfl) rfl fun s hS=>(cE hS (wu hS rfl rfl rfl) rfl fun s hS=>?_)
 refine sg0 hS 2 [] [76] [undef] [] (by kernel_rfl) fun s hS=>(cE hS (wu hS rfl rfl rfl) rfl fun s hS=>?_)
 refine cE hS (wu hS rfl rfl rfl) rfl fun s hS=>(cE hS (wu hS rfl rfl rfl) rfl fun s hS=>?_)
 refine cE hS (wu hS rfl rfl rfl) rfl fun s hS=>(cE hS (wu hS rfl rfl rfl) rfl fun s hS=>?_)
 refine sg0 hS 2 [] [83] [.bool true] [] (by kernel_rfl) fun s hS=>(KW.nil ?_)
 obtain rfl:=Option.some.inj hz26
 exact hS.subR rfl
 replace hS:=hS.kb 56 hc27 rfl
 refine sg0 hS 3 [] [57,59] [aa pA,.int .i64 (w64 (o16-1))] [] (by kernel_rfl) fun s hS=>?_
 obtain⟨hk28,hz26⟩:=ac hz26
 refine aw hS (wt hS rfl rfl rfl rfl) rfl rfl rfl (v:=vB (gt pA (w64 (o16-1)))) (au tu9 (hS.lk rfl) (hS.lk rfl) hk28) fun s hS=>(sg0 hS 2 [] [62] [.bool (((gt pA (w64 (o16-1))).toNat:Int) != ((40:UInt8).toNat:Int))] [] (by kernel_rfl) fun s hS=>?_)
 obtain⟨z29,hz29,hz26⟩:=bind_some hz26
 refine ay 6 (fun s=>Stt EV s [(68,.bool z29),(0,aa pA),(2,.int .i64 0),(3,.int .i64 o16),(4,.int .i64 (w64 ((pA.length:Int)-o2))),(56,.bool false)] [] F L F nx0) ?_ fun s hS=>?_
 refine bc hz29 (fun hc30 hz29=>?_) fun hc30 hz29=>?_
 replace hS:=hS.kb 62 hc30 rfl
 refine sg0 hS 3 [] [63,65] [aa pA,.int .i64 (w64 (o16-1))] [] (by kernel_rfl) fun s hS=>?_
 obtain⟨hk31,hz29⟩:=ac hz29
 refine aw hS (wt hS rfl rfl rfl rfl) rfl rfl rfl (v:=vB (gt pA (w64 (o16-1)))) (au tu9 (hS.lk rfl) (hS.lk rfl) hk31) fun s hS=>(sg0 hS 2 [] [68] [.bool (((gt pA (w64 (o16-1))).toNat:Int) != ((44:UInt8).toNat:Int))] [] (by kernel_rfl) fun s hS=>?_)
 refine KW.nil ?_
 obtain rfl:=Option.some.inj hz29
 exact hS.subR rfl
 replace hS:=hS.kb 62 hc30 rfl
 refine sg0 hS 6 [] [68] [.bool false] [] (by kernel_rfl) fun s hS=>(KW.nil ?_)
 obtain rfl:=Option.some.inj hz29
 exact hS.subR rfl
 refine sg0 hS 1 [] [69] [.bool z29] [] (by kernel_rfl) fun s hS=>?_
 obtain⟨z32,hz32,hz26⟩:=bind_some hz26
 refine ay 6 (fun s=>Stt EV s [(75,.bool z32),(0,aa pA),(2,.int .i64 0),(3,.int .i64 o16),(4,.int .i64 (w64 ((pA.length:Int)-o2))),(56,.bool false)] [] F L F nx0) ?_ fun s hS=>?_
 refine bc hz32 (fun hc33 hz32=>?_) fun hc33 hz32=>?_
 replace hS:=hS.kb 68 hc33 rfl
 replace hS:=hS.kb 69 hc33 rfl
 refine sg0 hS 3 [] [70,72] [aa pA,.int .i64 (w64 (o16-1))] [] (by kernel_rfl) fun s hS=>?_
 obtain⟨hk34,hz32⟩:=ac hz32
 refine aw hS (wt hS rfl rfl rfl rfl) rfl rfl rfl (v:=vB (gt pA (w64 (o16-1)))) (au tu9 (hS.lk rfl) (hS.lk rfl) hk34) fun s hS=>(sg0 hS 2 [] [75] [.bool (((gt pA (w64 (o16-1))).toNat:Int) != ((47:UInt8).toNat:Int))] [] (by kernel_rfl) fun s hS=>?_)
 refine KW.nil ?_
 obtain rfl:=Option.some.inj hz32
 exact hS.subR rfl
 replace hS:=hS.kb 68 hc33 rfl
 replace hS:=hS.kb 69 hc33 rfl
 refine sg0 hS 6 [] [75] [.bool false] [] (by kernel_rfl) fun s hS=>(KW.nil ?_)
 obtain rfl:=Option.some.inj hz32
 exact hS.subR rfl
 refine sg0 hS 1 [] [76] [.bool z32] [] (by kernel_rfl) fun s hS=>?_
 obtain⟨z35,hz35,hz26⟩:=bind_some hz26
 refine ay 6 (fun s=>Stt EV s [(82,.bool z35),(2,.int .i64 0),(4,.int .i64 (w64 ((pA.length:Int)-o2))),(56,.bool false)] [] F L F nx0) ?_ fun s hS=>?_
 refine bc hz35 (fun hc36 hz35=>?_) fun hc36 hz35=>?_
 replace hS:=hS.kb 75 hc36 rfl
 replace hS:=hS.kb 76 hc36 rfl
 refine sg0 hS 3 [] [77,79] [aa pA,.int .i64 (w64 (o16-1))] [] (by kernel_rfl) fun s hS=>?_
 obtain⟨hk37,hz35⟩:=ac hz35
 refine aw hS (wt hS rfl rfl rfl rfl) rfl rfl rfl (v:=vB (gt pA (w64 (o16-1)))) (au tu9 (hS.lk rfl) (hS.lk rfl) hk37) fun s hS=>(sg0 hS 2 [] [82] [.bool (((gt pA (w64 (o16-1))).toNat:Int) != ((61:UInt8).toNat:Int))] [] (by kernel_rfl) fun s hS=>?_)
 refine KW.nil ?_
 obtain rfl:=Option.some.inj hz35
 exact hS.subR rfl
 replace hS:=hS.kb 75 hc36 rfl
 replace hS:=hS.kb 76 hc36 rfl
 refine sg0 hS 6 [] [82] [.bool false] [] (by kernel_rfl) fun s hS=>(KW.nil ?_)
 obtain rfl:=Option.some.inj hz35
 exact hS.subR rfl
 refine sg0 hS 1 [] [83] [.bool z35] [] (by kernel_rfl) fun s hS=>(KW.nil ?_)
 obtain rfl:=Option.some.inj hz26
 exact hS.subR rfl
 refine KW.nil (bc h (fun hc38 h=>?_) fun hc38 h=>?_)
 refine WW.condK hS rfl hc38 (WW.seq ?_)
 refine WW.region (sg0 hS 1 [] [2] [.int .i64 0] [] (by kernel_rfl) fun s hS=>?_)
 refine KW.nil (WW.ret ?_)
 cases h
 exact ax hS (.inr rfl) 2 rfl rfl ⟨rfl,rfl,rfl⟩
 refine WW.condF hS rfl hc38 (WW.skip ?_)
 refine WW.seq (WW.region ?_)
 refine sg0 hS 2 [] [2] [.int .i64 (w64 ((pA.length:Int)-o2))] [] (by kernel_rfl) fun s hS=>(KW.nil ?_)
 refine WW.ret ?_
 cases h
 exact ax hS (.inr rfl) 2 rfl rfl ⟨rfl,rfl,rfl⟩
 refine WW.condF hS rfl hc14 (WW.skip ?_)
 refine WW.seq (WW.seq ?_)
 refine WW.region (sg0 hS 3 [] [56] [.bool (o2==0)] [] (by kernel_rfl) fun s hS=>?_)
 obtain⟨z39,hz39,h⟩:=bind_some h
 refine ay 27 (fun s=>Stt EV s [(83,.bool z39),(2,.int .i64 0),(4,.int .i64 (w64 ((pA.length:Int)-o2)))] [] F L F nx0) ?_ fun s hS=>?_
 refine bc hz39 (fun hc40 hz39=>?_) fun hc40 hz39=>?_
 replace hS:=hS.kb 56 hc40 rfl
 refine sg0 hS 6 [] [62] [undef] [] (by kernel_rfl) fun s hS=>(cE hS (wu hS rfl rfl rfl) rfl fun s hS=>?_)
 refine cE hS (wu hS rfl rfl rfl) rfl fun s hS=>(cE hS (wu hS rfl rfl rfl) rfl fun s hS=>?_)
 refine cE hS (wu hS rfl rfl rfl) rfl fun s hS=>(cE hS (wu hS rfl rfl rfl) rfl fun s hS=>?_)
 refine sg0 hS 2 [] [69] [undef] [] (by kernel_rfl) fun s hS=>(cE hS (wu hS rfl rfl rfl) rfl fun s hS=>?_)
 refine cE hS (wu hS rfl rfl rfl) rfl fun s hS=>(cE hS (wu hS rfl rfl rfl) rfl fun s hS=>?_)
 refine cE hS (wu hS rfl rfl rfl) rfl fun s hS=>(cE hS (wu hS rfl rfl rfl) rfl fun s hS=>?_)
 refine sg0 hS 2 [] [76] [undef] [] (by kernel_rfl) fun s hS=>(cE hS (wu hS rfl rfl rfl) rfl fun s hS=>?_)
 refine cE hS (wu hS rfl rfl rfl) rfl fun s hS=>(cE hS (wu hS rfl rfl rfl) rfl fun s hS=>?_)
 refine cE hS (wu hS rfl rfl rfl) rfl fun s hS=>(cE hS (wu hS rfl rfl rfl) rfl fun s hS=>?_)
 refine sg0 hS 2 [] [83] [.bool true] [] (by kernel_rfl) fun s hS=>(KW.nil ?_)
 obtain rfl:=Option.some.inj hz39
 exact hS.subR rfl
 replace hS:=hS.kb 56 hc40 rfl
 refine sg0 hS 3 [] [57,59] [aa pA,.int .i64 (w64 (o2-1))] [] (by kernel_rfl) fun s hS=>?_
 obtain⟨hk41,hz39⟩:=ac hz39
 refine aw hS (wt hS rfl rfl rfl rfl) rfl rfl rfl (v:=vB (gt pA (w64 (o2-1)))) (au tu9 (hS.lk rfl) (hS.lk rfl) hk41) fun s hS=>(sg0 hS 2 [] [62] [.bool (((gt pA (w64 (o2-1))).toNat:Int) != ((40:UInt8).toNat:Int))] [] (by kernel_rfl) fun s hS=>?_)
 obtain⟨z42,hz42,hz39⟩:=bind_some hz39
 refine ay 6 (fun s=>Stt EV s [(68,.bool z42),(0,aa pA),(2,.int .i64 0),(3,.int .i64 o2),(4,.int .i64 (w64 ((pA.length:Int)-o2))),(56,.bool false)] [] F L F nx0) ?_ fun s hS=>?_
 refine bc hz42 (fun hc43 hz42=>?_) fun hc43 hz42=>?_
 replace hS:=hS.kb 62 hc43 rfl
 refine sg0 hS 3 [] [63,65] [aa pA,.int .i64 (w64 (o2-1))] [] (by kernel_rfl) fun s hS=>?_
 obtain⟨hk44,hz42⟩:=ac hz42
 refine aw hS (wt hS rfl rfl rfl rfl) rfl rfl rfl (v:=vB (gt pA (w64 (o2-1)))) (au tu9 (hS.lk rfl) (hS.lk rfl) hk44) fun s hS=>(sg0 hS 2 [] [68] [.bool (((gt pA (w64 (o2-1))).toNat:Int) != ((44:UInt8).toNat:Int))] [] (by kernel_rfl) fun s hS=>?_)
 refine KW.nil ?_
 obtain rfl:=Option.some.inj hz42
 exact hS.subR rfl
 replace hS:=hS.kb 62 hc43 rfl
 refine sg0 hS 6 [] [68] [.bool false] [] (by kernel_rfl) fun s hS=>(KW.nil ?_)
 obtain rfl:=Option.some.inj hz42
 exact hS.subR rfl
 refine sg0 hS 1 [] [69] [.bool z42] [] (by kernel_rfl) fun s hS=>?_
 obtain⟨z45,hz45,hz39⟩:=bind_some hz39
 refine ay 6 (fun s=>Stt EV s [(75,.bool z45),(0,aa pA),(2,.int .i64 0),(3,.int .i64 o2),(4,.int .i64 (w64 ((pA.length:Int)-o2))),(56,.bool false)] [] F L F nx0) ?_ fun s hS=>?_
 refine bc hz45 (fun hc46 hz45=>?_) fun hc46 hz45=>?_
 replace hS:=hS.kb 68 hc46 rfl
 replace hS:=hS.kb 69 hc46 rfl
 refine sg0 hS 3 [] [70,72] [aa pA,.int .i64 (w64 (o2-1))] [] (by kernel_rfl) fun s hS=>?_
 obtain⟨hk47,hz45⟩:=ac hz45
 refine aw hS (wt hS rfl rfl rfl rfl) rfl rfl rfl (v:=vB (gt pA (w64 (o2-1)))) (au tu9 (hS.lk rfl) (hS.lk rfl) hk47) fun s hS=>(sg0 hS 2 [] [75] [.bool (((gt pA (w64 (o2-1))).toNat:Int) != ((47:UInt8).toNat:Int))] [] (by kernel_rfl) fun s hS=>?_)
 refine KW.nil ?_
 obtain rfl:=Option.some.inj hz45
 exact hS.subR rfl
 replace hS:=hS.kb 68 hc46 rfl
 replace hS:=hS.kb 69 hc46 rfl
 refine sg0 hS 6 [] [75] [.bool false] [] (by kernel_rfl) fun s hS=>(KW.nil ?_)
 obtain rfl:=Option.some.inj hz45
 exact hS.subR rfl
 refine sg0 hS 1 [] [76] [.bool z45] [] (by kernel_rfl) fun s hS=>?_
 obtain⟨z48,hz48,hz39⟩:=bind_some hz39
 refine ay 6 (fun s=>Stt EV s [(82,.bool z48),(2,.int .i64 0),(4,.int .i64 (w64 ((pA.length:Int)-o2))),(56,.bool false)] [] F L F nx0) ?_ fun s hS=>?_
 refine bc hz48 (fun hc49 hz48=>?_) fun hc49 hz48=>?_
 replace hS:=hS.kb 75 hc49 rfl
 replace hS:=hS.kb 76 hc49 rfl
 refine sg0 hS 3 [] [77,79] [aa pA,.int .i64 (w64 (o2-1))] [] (by kernel_rfl) fun s hS=>?_
 obtain⟨hk50,hz48⟩:=ac hz48
 refine aw hS (wt hS rfl rfl rfl rfl) rfl rfl rfl (v:=vB (gt pA (w64 (o2-1)))) (au tu9 (hS.lk rfl) (hS.lk rfl) hk50) fun s hS=>(sg0 hS 2 [] [82] [.bool (((gt pA (w64 (o2-1))).toNat:Int) != ((61:UInt8).toNat:Int))] [] (by kernel_rfl) fun s hS=>?_)
 refine KW.nil ?_
 obtain rfl:=Option.some.inj hz48
 exact hS.subR rfl
 replace hS:=hS.kb 75 hc49 rfl
 replace hS:=hS.kb 76 hc49 rfl
 refine sg0 hS 6 [] [82] [.bool false] [] (by kernel_rfl) fun s hS=>(KW.nil ?_)
 obtain rfl:=Option.some.inj hz48
 exact hS.subR rfl
 refine sg0 hS 1 [] [83] [.bool z48] [] (by kernel_rfl) fun s hS=>(KW.nil ?_)
 obtain rfl:=Option.some.inj hz39
 exact hS.subR rfl
 refine KW.nil (bc h (fun hc51 h=>?_) fun hc51 h=>?_)
 refine WW.condK hS rfl hc51 (WW.seq ?_)
 refine WW.region (sg0 hS 1 [] [2] [.int .i64 0] [] (by kernel_rfl) fun s hS=>?_)
 refine KW.nil (WW.ret ?_)
 cases h
 exact ax hS (.inr rfl) 2 rfl rfl ⟨rfl,rfl,rfl⟩
 refine WW.condF hS rfl hc51 (WW.skip ?_)
 refine WW.seq (WW.region ?_)
 refine sg0 hS 2 [] [2] [.int .i64 (w64 ((pA.length:Int)-o2))] [] (by kernel_rfl) fun s hS=>(KW.nil ?_)
 refine WW.ret ?_
 cases h
 exact ax hS (.inr rfl) 2 rfl rfl ⟨rfl,rfl,rfl⟩
noncomputable def g_2j.b0 (pA:List UInt8) (x1:List UInt8×Int):Option ((List UInt8×Int)⊕(List UInt8×Int)) :=
  (if(decide (x1.2<(pA.length:Int))) then(if 0≤x1.2∧x1.2<(pA.length:Int) then Option.bind ((if((decide (((gt pA x1.2).toNat:Int)≥((97:UInt8).toNat:Int)))&&(decide (((gt pA x1.2).toNat:Int)≤((122:UInt8).toNat:Int)))) then some ((gt pA x1.2)-32) else some (gt pA x1.2))) fun z7=>(if x1.1.length+([z7]:List UInt8).length<1000000000 then some (.inl ((x1.1++([z7]:List UInt8)),(w64 (x1.2+1)))) else none) else none) else some (.inr (x1.1,x1.2)))
noncomputable def g_2j.f (pA:List UInt8):Option (List UInt8) :=
  Option.bind (iter (g_2j.b0 pA) ([],0)) fun o2=>some o2.1
theorem g_2j.ok {pA:List UInt8} {F:FZ} {r:List UInt8} (h:g_2j.f pA=some r) :
    Cl EV 80 [aa pA] [] F (fun v S' F'=>F=F'∧v=aa r∧S'= []):=by
 refine Cl.of Tryz.func80 rfl (fun _ _=>rfl) (by kernel_rfl) fun s L nx0 hS=>?_
 unfold g_2j.f at h
 refine WW.seq (WW.region ?_)
 refine sg0 hS 1 [] [2] [aa ([])] [] (by kernel_rfl) fun s hS=>(KW.nil ?_)
 refine WW.seq (WW.region ?_)
 refine sg0 hS 1 [] [3] [aa ([])] [] (by kernel_rfl) fun s hS=>(KW.nil ?_)
 refine WW.seq (WW.seq ?_)
 refine WW.region (sg0 hS 1 [] [4] [.int .i64 0] [] (by kernel_rfl) fun s hS=>?_)
 refine KW.nil (WW.block ?_)
 obtain⟨o2,ho2,h⟩:=bind_some h
 refine WW.loop (LW.iterE ho2 (fun(x1:List UInt8×Int) s=>Stt EV s [(0,aa pA),(2,aa ([])),(3,aa x1.1),(4,.int .i64 x1.2)] [] F L F nx0) 0 (hS.subR rfl) ?_ ?_)
 clear hS
 rintro x1 s hS o2' h4
 unfold g_2j.b0 at h4
 refine WW.seq (WW.seq ?_)
 refine WW.region (sg0 hS 4 [] [9] [.bool (decide (x1.2<(pA.length:Int)))] [] (by kernel_rfl) fun s hS=>?_)
 refine KW.nil (bc h4 (fun hc5 h4=>?_) fun hc5 h4=>?_)
 refine WW.condK hS rfl hc5 (WW.skip ?_)
 refine WW.seq (WW.block ?_)
 refine WW.seq (WW.region ?_)
 refine sg0 hS 2 [] [12,13] [aa pA,.int .i64 x1.2] [] (by kernel_rfl) fun s hS=>?_
 obtain⟨hk6,h4⟩:=ac h4
 refine aw hS (wn rfl) rfl rfl rfl (v:=vB (gt pA x1.2)) (au tu9 (hS.lk rfl) (hS.lk rfl) hk6) fun s hS=>(sg0 hS 1 [] [5] [vB (gt pA x1.2)] [] (by kernel_rfl) fun s hS=>?_)
 refine KW.nil ?_
 obtain⟨z7,hz7,h4⟩:=bind_some h4
 refine WW.seqJ (fun s=>Stt EV s [(0,aa pA),(2,aa ([])),(3,aa x1.1),(4,.int .i64 x1.2),(5,vB z7)] [] F L F nx0) ?_ ?_
 refine WW.seq (WW.region ?_)
 refine sg0 hS 3 [] [17] [.bool (decide (((gt pA x1.2).toNat:Int)≥((97:UInt8).toNat:Int)))] [] (by kernel_rfl) fun s hS=>(ay 3 (fun s=>Stt EV s [(20,.bool ((decide (((gt pA x1.2).toNat:Int)≥((97:UInt8).toNat:Int)))&&(decide (((gt pA x1.2).toNat:Int)≤((122:UInt8).toNat:Int))))),(0,aa pA),(2,aa ([])),(3,aa x1.1),(4,.int .i64 x1.2),(5,vB (gt pA x1.2))] [] F L F nx0) ?_ fun s hS=>?_)
 rcases aj ((decide (((gt pA x1.2).toNat:Int)≥((97:UInt8).toNat:Int)))) with hcj | hcj
 replace hS:=hS.know (t:=17) rfl (congrArg Value.bool hcj)
 refine sg0 hS 3 [] [20] [.bool (decide (((gt pA x1.2).toNat:Int)≤((122:UInt8).toNat:Int)))] [] (by kernel_rfl) fun s hS=>(KW.nil ?_)
 exact(hS.know (t:=20) (u':= .bool ((decide (((gt pA x1.2).toNat:Int)≥((97:UInt8).toNat:Int)))&&(decide (((gt pA x1.2).toNat:Int)≤((122:UInt8).toNat:Int))))) rfl (aJ hcj)).subR rfl
 replace hS:=hS.know (t:=17) rfl (congrArg Value.bool hcj)
 refine sg0 hS 3 [] [20] [.bool false] [] (by kernel_rfl) fun s hS=>(KW.nil ?_)
 exact(hS.know (t:=20) (u':= .bool ((decide (((gt pA x1.2).toNat:Int)≥((97:UInt8).toNat:Int)))&&(decide (((gt pA x1.2).toNat:Int)≤((122:UInt8).toNat:Int))))) rfl (aL hcj)).subR rfl
 refine KW.nil (bc hz7 (fun hc8 hz7=>?_) fun hc8 hz7=>?_)
 refine WW.condK hS rfl hc8 (WW.region ?_)
 refine sg0 hS 1 [] [21] [vB (gt pA x1.2)] [] (by kernel_rfl) fun s hS=>(aw hS (wn rfl) rfl rfl rfl (v:=vB ((gt pA x1.2)-32)) (iG (hS.lk rfl) (hS.lk rfl)) fun s hS=>?_)
 refine sg0 hS 1 [] [5] [vB ((gt pA x1.2)-32)] [] (by kernel_rfl) fun s hS=>(KW.nil ?_)
 obtain rfl:=Option.some.inj hz7
 exact(hS.subR rfl)
 refine WW.condF hS rfl hc8 (WW.skip ?_)
 obtain rfl:=Option.some.inj hz7
 exact(hS.subR rfl)
 rintro s hS
 refine WW.region (sg0 hS 2 [] [23,24] [aa x1.1,vB z7] [] (by kernel_rfl) fun s hS=>?_)
 refine bA hS (wn rfl) rfl rfl rfl (v:=fun i=> .slice (some ⟨i,0,none⟩) 1 1) (b:= .row [vB z7] 5 1 true) (aW jq tz5 t0_5 rfl [(0,vB z7)] (av hS rfl) rfl) fun s i9 hS=>?_
 have hC10:ai (elB 5) F ([z7]:List UInt8) [vB z7]:=⟨[vB z7],[],rfl,rfl,rfl⟩
 refine q_cvO hS (wn rfl) rfl rfl (lst:=([z7]:List UInt8)) rfl (Own.blk0 hC10) (p:=0) rfl (cv0 jq tb5 tu9) (cv1 jq tb5 tu9) fun s hS=>?_
 obtain⟨hk11,h4⟩:=ac h4
 refine aw hS (wn rfl) rfl rfl rfl (v:=aa (x1.1++([z7]:List UInt8))) (bS (hS.lk rfl) (hS.lk rfl) hk11) fun s hS=>(sg0 hS 1 [] [3] [aa (x1.1++([z7]:List UInt8))] [] (by kernel_rfl) fun s hS=>?_)
 refine KW.nil (WW.region ?_)
 refine sg0 hS 3 [] [4] [.int .i64 (w64 (x1.2+1))] [] (by kernel_rfl) fun s hS=>(KW.nil ?_)
 replace hS:=hS.drop
 obtain rfl:=Option.some.inj h4
 exact⟨_,rfl,(hS.subR rfl)⟩
 refine WW.condF hS rfl hc5 (WW.exit ?_)
 refine ae ?_
 obtain rfl:=Option.some.inj h4
 exact⟨_,rfl,rfl,(hS.subR rfl)⟩
 clear hS
 rintro e s ⟨rfl,hS⟩
 refine af (WW.seq ?_)
 refine WW.region (sg0 hS 2 [] [2] [aa o2.1] [] (by kernel_rfl) fun s hS=>?_)
 refine KW.nil (WW.ret ?_)
 cases h
 exact ax hS (.inr rfl) 2 rfl rfl ⟨rfl,rfl,rfl⟩
noncomputable def g_2e.b1 (pA:List UInt8) (x6:Int×List UInt8×List UInt8×List Int×(List (Int×Int))×Int) (x30:Int):Option ((Int)⊕(Int)) :=
  Option.bind ((if(decide (x30<(pA.length:Int))) then(if 0≤x30∧x30<(pA.length:Int) then some (((gt pA x30).toNat:Int) != ((gt pA x6.1).toNat:Int)) else none) else some false)) fun z34=>(if z34 then some (.inl (w64 (x30+1))) else some (.inr x30))
noncomputable def g_2e.b2 (pA:List UInt8) (o31:Int) (x45:Int×List UInt8×List UInt8×List Int×(List (Int×Int))×Int):Option ((Int×List UInt8×List UInt8×List Int×(List (Int×Int))×Int)⊕(Int×List UInt8×List UInt8×List Int×(List (Int×Int))×Int)) :=
  (if(decide (x45.1≤o31)) then(if 0≤x45.1∧x45.1<(pA.length:Int) then Option.bind (g_2k.f x45.2.1 x45.2.2.1 x45.2.2.2.1 x45.2.2.2.2.1 x45.2.2.2.2.2 (gt pA x45.1) x45.1) fun y67=>Option.bind (g_2g.f y67.1 y67.2.1 y67.2.2.1 y67.2.2.2.1 y67.2.2.2.2) fun y77=>some (.inl ((w64 (x45.1+1)),y77.1,y77.2.1,y77.2.2.1,y77.2.2.2.1,y77.2.2.2.2)) else none) else some (.inr (x45.1,x45.2.1,x45.2.2.1,x45.2.2.2.1,x45.2.2.2.2.1,x45.2.2.2.2.2)))
noncomputable def g_2e.b3 (x6:Int×List UInt8×List UInt8×List Int×(List (Int×Int))×Int) (x102:Int×Int):Option ((Int×Int)⊕(Int×Int)) :=
  (if(decide (x102.2<(x6.2.1.length:Int))) then(if 0≤x102.2∧x102.2<(x6.2.1.length:Int) then some (.inl ((if(10000:Int)<(w64 ((w64 (10*x102.1))+(IntKind.i64.wrap (((gt x6.2.1 x102.2)-48).toNat:Int)))) then 10000 else(w64 ((w64 (10*x102.1))+(IntKind.i64.wrap (((gt x6.2.1 x102.2)-48).toNat:Int))))),(w64 (x102.2+1)))) else none) else some (.inr (x102.1,x102.2)))
noncomputable def g_2e.b4 (pA:List UInt8) (x6:Int×List UInt8×List UInt8×List Int×(List (Int×Int))×Int) (o103:Int×Int) (x146:Int×List UInt8×List UInt8×List Int×(List (Int×Int))×Int):Option ((Int×List UInt8×List UInt8×List Int×(List (Int×Int))×Int)⊕(Int×List UInt8×List UInt8×List Int×(List (Int×Int))×Int)) :=
  (if(decide (x146.1≤(w64 (x6.1+o103.1)))) then(if 0≤x146.1∧x146.1<(pA.length:Int) then Option.bind (g_2k.f x146.2.1 x146.2.2.1 x146.2.2.2.1 x146.2.2.2.2.1 x146.2.2.2.2.2 (gt pA x146.1) x146.1) fun y168=>Option.bind (g_2g.f y168.1 y168.2.1 y168.2.2.1 y168.2.2.2.1 y168.2.2.2.2) fun y178=>some (.inl ((w64 (x146.1+1)),y178.1,y178.2.1,y178.2.2.1,y178.2.2.2.1,y178.2.2.2.2)) else none) else some (.inr (x146.1,x146.2.1,x146.2.2.1,x146.2.2.2.1,x146.2.2.2.2.1,x146.2.2.2.2.2)))
noncomputable def g_2e.b0 (pA:List UInt8) (x6:Int×List UInt8×List UInt8×List Int×(List (Int×Int))×Int):Option ((Int×List UInt8×List UInt8×List Int×(List (Int×Int))×Int)⊕((Int×List UInt8×List UInt8×List Int×(List (Int×Int))×Int)⊕(List UInt8×List UInt8×List Int×(List (Int×Int))×Int))) :=
  (if(decide (x6.1<(pA.length:Int))) then(if 0≤x6.1∧x6.1<(pA.length:Int) then(if(((gt pA x6.1).toNat:Int)==((32:UInt8).toNat:Int)) then some (.inl ((w64 (x6.1+1)),x6.2.1,x6.2.2.1,x6.2.2.2.1,x6.2.2.2.2.1,x6.2.2.2.2.2)) else(if((((gt pA x6.1).toNat:Int)==((39:UInt8).toNat:Int))||(((gt pA x6.1).toNat:Int)==((34:UInt8).toNat:Int))) then Option.bind (iter (g_2e.b1 pA x6) (w64 (x6.1+1))) fun o31=>(if(o31==(pA.length:Int)) then some (.inr (.inr ([],[],([]:List Int),([]:List (Int×Int)),21))) else(if x6.2.2.2.2.1.length+([(x6.1,(w64 (o31+1)))]:List (Int×Int)).length<1000000000 then Option.bind (iter (g_2e.b2 pA o31) (x6.1,x6.2.1,x6.2.2.1,x6.2.2.2.1,(x6.2.2.2.2.1++([(x6.1,(w64 (o31+1)))]:List (Int×Int))),x6.2.2.2.2.2)) fun o54=>some (.inl (o54.1,o54.2.1,o54.2.2.1,o54.2.2.2.1,o54.2.2.2.2.1,o54.2.2.2.2.2)) else none)) else Option.bind ((if((((gt pA x6.1).toNat:Int)==((72:UInt8).toNat:Int))||(((gt pA x6.1).toNat:Int)==((104:UInt8).toNat:Int))) then Option.bind (g_2h.f x6.2.2.1) fun y97=>some (decide (y97>0)) else some false)) fun z95=>(if z95 then Option.bind (g_2h.f x6.2.2.1) fun y100=>Option.bind (iter (g_2e.b3 x6) (0,(w64 ((x6.2.1.length:Int)-y100)))) fun o103=>(if(o103.1==0) then some (.inr (.inr ([],[],([]:List Int),([]:List (Int×Int)),11))) else(if(decide ((w64 (x6.1+o103.1))≥(pA.length:Int))) then some (.inr (.inr ([],[],([]:List Int),([]:List (Int×Int)),21))) else(if 0≤(w64 ((x6.2.2.2.1.length:Int)-y100))∧(w64 ((x6.2.2.2.1.length:Int)-y100))<(x6.2.2.2.1.length:Int) then(if x6.2.2.2.2.1.length+([((gt x6.2.2.2.1 (w64 ((x6.2.2.2.1.length:Int)-y100))),(w64 ((w64 (x6.1+o103.1))+1)))]:List (Int×Int)).length<1000000000 then Option.bind (g_2k.f x6.2.1 x6.2.2.1 x6.2.2.2.1 (x6.2.2.2.2.1++([((gt x6.2.2.2.1 (w64 ((x6.2.2.2.1.length:Int)-y100))),(w64 ((w64 (x6.1+o103.1))+1)))]:List (Int×Int))) x6.2.2.2.2.2 72 x6.1) fun y126=>Option.bind (g_2g.f y126.1 y126.2.1 y126.2.2.1 y126.2.2.2.1 y126.2.2.2.2) fun y136=>Option.bind (iter (g_2e.b4 pA x6 o103) ((w64 (x6.1+1)),y136.1,y136.2.1,y136.2.2.1,y136.2.2.2.1,y136.2.2.2.2)) fun o155=>some (.inl ((w64 ((w64 (x6.1+o103.1))+1)),o155.2.1,o155.2.2.1,o155.2.2.2.1,o155.2.2.2.2.1,o155.2.2.2.2.2)) else none) else none))) else(if 0≤x6.1∧x6.1≤(w64 (x6.1+1))∧(w64 (x6.1+1))≤(pA.length:Int) then Option.bind (g_2j.f (mid pA x6.1 (w64 (x6.1+1)))) fun y197=>(if 0≤(0:Int)∧(0:Int)<(y197.length:Int) then Option.bind (g_2k.f x6.2.1 x6.2.2.1 x6.2.2.2.1 x6.2.2.2.2.1 x6.2.2.2.2.2 (gt y197 (0:Int)) x6.1) fun y200=>some (.inl ((w64 (x6.1+1)),y200.1,y200.2.1,y200.2.2.1,y200.2.2.2.1,y200.2.2.2.2)) else none) else none)))) else none) else some (.inr (.inl (x6.1,x6.2.1,x6.2.2.1,x6.2.2.2.1,x6.2.2.2.2.1,x6.2.2.2.2.2))))
noncomputable def g_2e.f (pA:List UInt8):Option (List UInt8×List UInt8×List Int×(List (Int×Int))×Int) :=
  Option.bind (g_2f.f pA) fun y2=>(if(y2 != 0) then some ([],[],([]:List Int),([]:List (Int×Int)),y2) else Option.bind (iter (g_2e.b0 pA) (0,[],[],([]:List Int),([]:List (Int×Int)),0)) fun o15=>cu o15 fun y210=>some (y210.2.1,y210.2.2.1,y210.2.2.2.1,y210.2.2.2.2.1,y210.2.2.2.2.2))
theorem g_2e.ok {pA:List UInt8} {F:FZ} {r:List UInt8×List UInt8×List Int×(List (Int×Int))×Int} (h:g_2e.f pA=some r) :
    Cl EV 44 [aa pA] [] F (fun v S' F'=> ∃(ra1:Option Addr) (rz2:Nat) (rB4:Seg) (ra5:Option Addr) (rz6:Nat) (rB8:Seg),F=F'∧v= .agg #[aa r.1,aa r.2.1,.slice ra1 r.2.2.1.length rz2,.slice ra5 r.2.2.2.1.length rz6,.int .i64 r.2.2.2.2]∧S'= [rB4,rB8]∧Own (elI .i64 3) F' ra1 rz2 r.2.2.1 rB4∧Own dk F' ra5 rz6 r.2.2.2.1 rB8):=by
 refine Cl.of Tryz.func44 rfl (fun _ _=>rfl) (by kernel_rfl) fun s L nx0 hS=>?_
 unfold g_2e.f at h
 refine WW.seq (WW.region ?_)
 refine bA hS (wn rfl) rfl rfl rfl (v:=fun i=> .pointer (some ⟨i,0,none⟩)) (b:= .row [aa ([]),aa ([]),.slice none 0 0,.slice none 0 0,.int .i64 0] 73 0 true) (bf jb) fun s i1 hS=>(KW.nil ?_)
 refine WW.seq (WW.seq ?_)
 refine WW.region ?_
 obtain⟨y2,hy2,h⟩:=bind_some h
 refine cR (g_2f.ok hy2) hS 1 13 0 rfl (by kernel_rfl) fun s hS=>(sg0 hS 1 [] [3] [.int .i64 y2] [] (by kernel_rfl) fun s hS=>?_)
 refine KW.nil (WW.seq ?_)
 refine WW.region (sg0 hS 2 [] [15] [.bool (y2 != 0)] [] (by kernel_rfl) fun s hS=>?_)
 refine KW.nil (bc h (fun hc4 h=>?_) fun hc4 h=>?_)
 refine WW.condK hS rfl hc4 (WW.seq ?_)
 refine WW.region (sg0 hS 1 [] [16] [.int .i64 y2] [] (by kernel_rfl) fun s hS=>?_)
 refine aw hS (wn rfl) rfl rfl rfl (v:= .agg #[aa ([]),aa ([]),.slice none 0 0,.slice none 0 0,.int .i64 y2]) (cn jb tp73 [(4,.int .i64 y2)] (av hS rfl) (cs:=[aa ([]),aa ([]),.slice none 0 0,.slice none 0 0,.int .i64 y2]) rfl) fun s hS=>(sg hS 1 [0] [] [] [i1] [[(i1,.row [aa ([]),aa ([]),.slice none 0 0,.slice none 0 0,.int .i64 y2] 73 0 true)]] (by kernel_rfl) fun s hS=>?_)
 refine KW.nil (WW.ret ?_)
 replace hS:=hS.gap0
 replace hS:=hS.gap0
 have hres:=(bE hS (t:=2) (ty:=73) rfl (p:=2) rfl kZ iN (ws:=[aa ([]),aa ([]),.slice none ([]:List Int).length 0,.slice none ([]:List (Int×Int)).length 0,.int .i64 y2]) rfl (aY (E:=EV) (s:=s)))
 replace hS:=(hS.pull 2).drop
 replace hS:=hS.pull 1
 cases h
 exact fin hS (.inr rfl) hres (v:= .agg #[aa ([]),aa ([]),.slice none ([]:List Int).length 0,.slice none ([]:List (Int×Int)).length 0,.int .i64 y2]) rfl ⟨_,_,_,_,_,_,rfl,rfl,rfl,Own.nil,Own.nil⟩
 refine WW.condF hS rfl hc4 (WW.skip ?_)
 refine WW.seq (WW.region ?_)
 refine bA hS (wn rfl) rfl rfl rfl (v:=fun i=> .pointer (some ⟨i,0,none⟩)) (b:= .row [aa ([]),aa ([]),.slice none 0 0,.slice none 0 0,.int .i64 0] 73 0 true) (bf jb) fun s i5 hS=>(KW.nil ?_)
 refine WW.seq (WW.seq ?_)
 refine WW.region (sg0 hS 1 [] [5] [.int .i64 0] [] (by kernel_rfl) fun s hS=>?_)
 refine KW.nil (WW.block ?_)
 replace hS:=hS.gap0
 replace hS:=hS.gap0
 obtain⟨o15,ho15,h⟩:=bind_some h
 refine WW.loop (LW.iterS ho15 (fun(x6:Int×List UInt8×List UInt8×List Int×(List (Int×Int))×Int) s=> ∃(a7:Option Addr) (z8:Nat) (B10:Seg) (a11:Option Addr) (z12:Nat) (B14:Seg),Stt EV s [(0,aa pA),(2,.pointer (some ⟨i1,0,none⟩)),(4,.pointer (some ⟨i5,0,none⟩)),(5,.int .i64 x6.1)] [B14,B10,[(i5,.row [aa x6.2.1,aa x6.2.2.1,.slice a7 x6.2.2.2.1.length z8,.slice a11 x6.2.2.2.2.1.length z12,.int .i64 x6.2.2.2.2.2] 73 0 true)],[(i1,.row [aa ([]),aa ([]),.slice none 0 0,.slice none 0 0,.int .i64 0] 73 0 true)]] F L F nx0∧Own (elI .i64 3) F a7 z8 x6.2.2.2.1 B10∧Own dk F a11 z12 x6.2.2.2.2.1 B14) 0 (fun r=>ej EV Tryz.f44 L F nx0 (fun v S' F'=> ∃(ra1:Option Addr) (rz2:Nat) (rB4:Seg) (ra5:Option Addr) (rz6:Nat) (rB8:Seg),F=F'∧v= .agg #[aa r.1,aa r.2.1,.slice ra1 r.2.2.1.length rz2,.slice ra5 r.2.2.2.1.length rz6,.int .i64 r.2.2.2.2]∧S'= [rB4,rB8]∧Own (elI .i64 3) F' ra1 rz2 r.2.2.1 rB4∧Own dk F' ra5 rz6 r.2.2.2.1 rB8)) ⟨_,_,_,_,_,_,(hS.subR rfl),Own.nil,Own.nil⟩ ?_ ?_)
 clear hS
 rintro x6 s ⟨a7,z8,B10,a11,z12,B14,hS,h9,h13⟩ o15' h25
 unfold g_2e.b0 at h25
 refine WW.seq (WW.seq ?_)
 refine WW.region (sg0 hS 4 [] [21] [.bool (decide (x6.1<(pA.length:Int)))] [] (by kernel_rfl) fun s hS=>?_)
 refine KW.nil (bc h25 (fun hc26 h25=>?_) fun hc26 h25=>?_)
 refine WW.condK hS rfl hc26 (WW.skip ?_)
 refine WW.block (WW.seq ?_)
 refine WW.region (sg0 hS 2 [] [22,23] [aa pA,.int .i64 x6.1] [] (by kernel_rfl) fun s hS=>?_)
 obtain⟨hk27,h25⟩:=ac h25
 refine aw hS (wn rfl) rfl rfl rfl (v:=vB (gt pA x6.1)) (au tu9 (hS.lk rfl) (hS.lk rfl) hk27) fun s hS=>(sg0 hS 1 [] [6] [vB (gt pA x6.1)] [] (by kernel_rfl) fun s hS=>?_)
 refine KW.nil (WW.seq ?_)
 refine WW.seq (WW.region ?_)
 refine sg0 hS 2 [] [26] [.bool (((gt pA x6.1).toNat:Int)==((32:UInt8).toNat:Int))] [] (by kernel_rfl) fun s hS=>(KW.nil ?_)
 refine bc h25 (fun hc28 h25=>?_) fun hc28 h25=>?_
 refine WW.condK hS rfl hc28 (WW.seq ?_)
 refine WW.region (sg0 hS 3 [] [5] [.int .i64 (w64 (x6.1+1))] [] (by kernel_rfl) fun s hS=>?_)
 refine KW.nil (WW.exit ?_)
 refine ae (af ?_)
 obtain rfl:=Option.some.inj h25
 exact⟨_,rfl,_,_,_,_,_,_,(hS.subR rfl),h9,h13⟩
 refine WW.condF hS rfl hc28 (WW.skip ?_)
 refine WW.seq (WW.seq ?_)
 refine WW.region (sg0 hS 3 [] [31] [.bool (((gt pA x6.1).toNat:Int)==((39:UInt8).toNat:Int))] [] (by kernel_rfl) fun s hS=>?_)
 refine ay 3 (fun s=>Stt EV s [(34,.bool ((((gt pA x6.1).toNat:Int)==((39:UInt8).toNat:Int))||(((gt pA x6.1).toNat:Int)==((34:UInt8).toNat:Int)))),(0,aa pA),(2,.pointer (some ⟨i1,0,none⟩)),(4,.pointer (some ⟨i5,0,none⟩)),(5,.int .i64 x6.1),(6,vB (gt pA x6.1))] [B14,B10,[(i5,.row [aa x6.2.1,aa x6.2.2.1,.slice a7 x6.2.2.2.1.length z8,.slice a11 x6.2.2.2.2.1.length z12,.int .i64 x6.2.2.2.2.2] 73 0 true)],[(i1,.row [aa ([]),aa ([]),.slice none 0 0,.slice none 0 0,.int .i64 0] 73 0 true)]] F L F nx0) ?_ fun s hS=>?_
 rcases aj ((((gt pA x6.1).toNat:Int)==((39:UInt8).toNat:Int))) with hcj | hcj
 replace hS:=hS.know (t:=31) rfl (congrArg Value.bool hcj)
 refine sg0 hS 3 [] [34] [.bool true] [] (by kernel_rfl) fun s hS=>(KW.nil ?_)
 exact(hS.know (t:=34) (u':= .bool ((((gt pA x6.1).toNat:Int)==((39:UInt8).toNat:Int))||(((gt pA x6.1).toNat:Int)==((34:UInt8).toNat:Int)))) rfl (bH hcj)).subR rfl
 replace hS:=hS.know (t:=31) rfl (congrArg Value.bool hcj)
 refine sg0 hS 3 [] [34] [.bool (((gt pA x6.1).toNat:Int)==((34:UInt8).toNat:Int))] [] (by kernel_rfl) fun s hS=>(KW.nil ?_)
 exact(hS.know (t:=34) (u':= .bool ((((gt pA x6.1).toNat:Int)==((39:UInt8).toNat:Int))||(((gt pA x6.1).toNat:Int)==((34:UInt8).toNat:Int)))) rfl (bI hcj)).subR rfl
 refine KW.nil (bc h25 (fun hc29 h25=>?_) fun hc29 h25=>?_)
 refine WW.condK hS rfl hc29 (WW.seq ?_)
 refine WW.region (sg0 hS 3 [] [7] [.int .i64 (w64 (x6.1+1))] [] (by kernel_rfl) fun s hS=>?_)
 refine KW.nil (WW.seq ?_)
 refine WW.block ?_
 obtain⟨o31,ho31,h25⟩:=bind_some h25
 refine WW.loop (LW.iterE ho31 (fun(x30:Int) s=>Stt EV s [(0,aa pA),(2,.pointer (some ⟨i1,0,none⟩)),(4,.pointer (some ⟨i5,0,none⟩)),(5,.int .i64 x6.1),(6,vB (gt pA x6.1)),(7,.int .i64 x30)] [B14,B10,[(i5,.row [aa x6.2.1,aa x6.2.2.1,.slice a7 x6.2.2.2.1.length z8,.slice a11 x6.2.2.2.2.1.length z12,.int .i64 x6.2.2.2.2.2] 73 0 true)],[(i1,.row [aa ([]),aa ([]),.slice none 0 0,.slice none 0 0,.int .i64 0] 73 0 true)]] F L F nx0) 2 (hS.subR rfl) ?_ ?_)
 clear hS
 rintro x30 s hS o31' h33
 unfold g_2e.b1 at h33
 refine WW.seq (WW.seq ?_)
 refine WW.region (sg0 hS 5 [] [41] [.bool (decide (x30<(pA.length:Int)))] [] (by kernel_rfl) fun s hS=>?_)
 obtain⟨z34,hz34,h33⟩:=bind_some h33
 refine ay 6 (fun s=>Stt EV s [(47,.bool z34),(0,aa pA),(2,.pointer (some ⟨i1,0,none⟩)),(4,.pointer (some ⟨i5,0,none⟩)),(5,.int .i64 x6.1),(6,vB (gt pA x6.1)),(7,.int .i64 x30)] [B14,B10,[(i5,.row [aa x6.2.1,aa x6.2.2.1,.slice a7 x6.2.2.2.1.length z8,.slice a11 x6.2.2.2.2.1.length z12,.int .i64 x6.2.2.2.2.2] 73 0 true)],[(i1,.row [aa ([]),aa ([]),.slice none 0 0,.slice none 0 0,.int .i64 0] 73 0 true)]] F L F nx0) ?_ fun s hS=>?_
 refine bc hz34 (fun hc35 hz34=>?_) fun hc35 hz34=>?_
 replace hS:=hS.kb 41 hc35 rfl
 refine sg0 hS 2 [] [42,43] [aa pA,.int .i64 x30] [] (by kernel_rfl) fun s hS=>?_
 obtain⟨hk36,hz34⟩:=ac hz34
 refine aw hS (wt hS rfl rfl rfl rfl) rfl rfl rfl (v:=vB (gt pA x30)) (au tu9 (hS.lk rfl) (hS.lk rfl) hk36) fun s hS=>(sg0 hS 3 [] [47] [.bool (((gt pA x30).toNat:Int) != ((gt pA x6.1).toNat:Int))] [] (by kernel_rfl) fun s hS=>?_)
 refine KW.nil ?_
 obtain rfl:=Option.some.inj hz34
 exact hS.subR rfl
 replace hS:=hS.kb 41 hc35 rfl
 refine sg0 hS 6 [] [47] [.bool false] [] (by kernel_rfl) fun s hS=>(KW.nil ?_)
 obtain rfl:=Option.some.inj hz34
 exact hS.subR rfl
 refine KW.nil (bc h33 (fun hc37 h33=>?_) fun hc37 h33=>?_)
 refine WW.condK hS rfl hc37 (WW.skip ?_)
 refine WW.block (WW.region ?_)
 refine sg0 hS 3 [] [7] [.int .i64 (w64 (x30+1))] [] (by kernel_rfl) fun s hS=>(KW.nil ?_)
 obtain rfl:=Option.some.inj h33
 exact⟨_,rfl,(hS.subR rfl)⟩
 refine WW.condF hS rfl hc37 (WW.exit ?_)
 refine ae ?_
 obtain rfl:=Option.some.inj h33
 exact⟨_,rfl,rfl,(hS.subR rfl)⟩
 clear hS
 rintro e s ⟨rfl,hS⟩
 refine af (WW.seq ?_)
 refine WW.seq (WW.region ?_)
 refine sg0 hS 4 [] [53] [.bool (o31==(pA.length:Int))] [] (by kernel_rfl) fun s hS=>(KW.nil ?_)
 refine bc h25 (fun hc38 h25=>?_) fun hc38 h25=>?_
 refine WW.condK hS rfl hc38 (WW.seq ?_)
 refine WW.region (aw hS (wn rfl) rfl rfl rfl (v:= .agg #[aa ([]),aa ([]),.slice none 0 0,.slice none 0 0,.int .i64 21]) (cn jb tp73 [(4,.int .i64 21)] (av hS rfl) (cs:=[aa ([]),aa ([]),.slice none 0 0,.slice none 0 0,.int .i64 21]) rfl) fun s hS=>?_)
 refine sg hS 1 [3] [] [] [i1] [B14,B10,[(i5,.row [aa x6.2.1,aa x6.2.2.1,.slice a7 x6.2.2.2.1.length z8,.slice a11 x6.2.2.2.2.1.length z12,.int .i64 x6.2.2.2.2.2] 73 0 true)],[(i1,.row [aa ([]),aa ([]),.slice none 0 0,.slice none 0 0,.int .i64 21] 73 0 true)]] (by kernel_rfl) fun s hS=>(KW.nil ?_)
 refine WW.ret ?_
 replace hS:=hS.gap0
 replace hS:=hS.gap0
 have hres:=(bE hS (t:=2) (ty:=73) rfl (p:=5) rfl kZ iN (ws:=[aa ([]),aa ([]),.slice none ([]:List Int).length 0,.slice none ([]:List (Int×Int)).length 0,.int .i64 21]) rfl (aY (E:=EV) (s:=s)))
 replace hS:=(hS.pull 2).drop
 replace hS:=(hS.pull 2).drop
 replace hS:=(hS.pull 2).drop
 replace hS:=(hS.pull 2).drop
 replace hS:=hS.pull 1
 cases h25
 exact⟨_,rfl,rfl,fin hS (.inr rfl) hres (v:= .agg #[aa ([]),aa ([]),.slice none ([]:List Int).length 0,.slice none ([]:List (Int×Int)).length 0,.int .i64 21]) rfl ⟨_,_,_,_,_,_,rfl,rfl,rfl,Own.nil,Own.nil⟩⟩
 refine WW.condF hS rfl hc38 (WW.skip ?_)
 refine WW.seq (WW.region ?_)
 refine sg0 hS 5 [2] [56,57,59] [.slice a11 x6.2.2.2.2.1.length z12,.int .i64 x6.1,.int .i64 (w64 (o31+1))] [i5] (by kernel_rfl) fun s hS=>(aw hS (wn rfl) rfl rfl rfl (v:= .agg #[.int .i64 x6.1,.int .i64 (w64 (o31+1))]) (eq fV tf tz3 [(0,.int .i64 x6.1),(1,.int .i64 (w64 (o31+1)))] (av hS rfl) (cs:=[.int .i64 x6.1,.int .i64 (w64 (o31+1))]) rfl) fun s hS=>?_)
 refine bA hS (wn rfl) rfl rfl rfl (v:=fun i=> .slice (some ⟨i,0,none⟩) 1 2) (b:= .row [.int .i64 x6.1,.int .i64 (w64 (o31+1))] 50 2 true) (aW tu46 ro fV rfl [(0,.agg #[.int .i64 x6.1,.int .i64 (w64 (o31+1))])] (av hS rfl) rfl) fun s i39 hS=>?_
 have hC40:ai dk F ([(x6.1,(w64 (o31+1)))]:List (Int×Int)) [.int .i64 x6.1,.int .i64 (w64 (o31+1))]:=⟨[.int .i64 x6.1,.int .i64 (w64 (o31+1))],[],rfl,rfl,rfl⟩
 obtain⟨hk44,h25⟩:=ac h25
 refine fU hS (wn rfl) (dd:=dk) (lst:=x6.2.2.2.2.1) (m:=([(x6.1,(w64 (o31+1)))]:List (Int×Int))) rfl rfl jw rfl rfl h13 (Nat.succ_pos _) hC40 hk44 fun s i41 cs42 hC43 hS=>(sg hS 2 [2] [] [] [i5] [[(i41,.row cs42 50 2 true)],B10,[(i5,.row [aa x6.2.1,aa x6.2.2.1,.slice a7 x6.2.2.2.1.length z8,.slice (some ⟨i41,0,none⟩) (x6.2.2.2.2.1++([(x6.1,(w64 (o31+1)))]:List (Int×Int))).length 2,.int .i64 x6.2.2.2.2.2] 73 0 true)],[(i1,.row [aa ([]),aa ([]),.slice none 0 0,.slice none 0 0,.int .i64 0] 73 0 true)]] (by kernel_rfl) fun s hS=>?_)
 refine KW.nil (WW.seq ?_)
 refine WW.block ?_
 obtain⟨o54,ho54,h25⟩:=bind_some h25
 refine WW.loop (LW.iterE ho54 (fun(x45:Int×List UInt8×List UInt8×List Int×(List (Int×Int))×Int) s=> ∃(a46:Option Addr) (z47:Nat) (B49:Seg) (a50:Option Addr) (z51:Nat) (B53:Seg),Stt EV s [(0,aa pA),(2,.pointer (some ⟨i1,0,none⟩)),(4,.pointer (some ⟨i5,0,none⟩)),(5,.int .i64 x45.1),(6,vB (gt pA x6.1)),(7,.int .i64 o31)] [B53,B49,[(i5,.row [aa x45.2.1,aa x45.2.2.1,.slice a46 x45.2.2.2.1.length z47,.slice a50 x45.2.2.2.2.1.length z51,.int .i64 x45.2.2.2.2.2] 73 0 true)],[(i1,.row [aa ([]),aa ([]),.slice none 0 0,.slice none 0 0,.int .i64 0] 73 0 true)]] F L F nx0∧Own (elI .i64 3) F a46 z47 x45.2.2.2.1 B49∧Own dk F a50 z51 x45.2.2.2.2.1 B53) 4 ⟨_,_,_,_,_,_,(hS.subR rfl),h9,(Own.blk0 hC43)⟩ ?_ ?_)
 clear hS
 rintro x45 s ⟨a46,z47,B49,a50,z51,B53,hS,h48,h52⟩ o54' h64
 unfold g_2e.b2 at h64
 refine WW.seq (WW.seq ?_)
 refine WW.region (sg0 hS 3 [] [66] [.bool (decide (x45.1≤o31))] [] (by kernel_rfl) fun s hS=>?_)
 refine KW.nil (bc h64 (fun hc65 h64=>?_) fun hc65 h64=>?_)
 refine WW.condK hS rfl hc65 (WW.skip ?_)
 refine WW.seq (WW.block ?_)
 refine WW.regionD (i:=[[],[0],[1,0],[0],[3,2,1,0],[],[],[]]) (by kernel_rfl) ?_
 have hq:=RS.start [i5,i1]
 refine K.ldA hS hq rfl (wn rfl) rfl rfl rfl (hS.at (k:=2) rfl) kZ iN (vs:=[aa x45.2.1,aa x45.2.2.1,.slice a46 x45.2.2.2.1.length z47,.slice a50 x45.2.2.2.2.1.length z51,.int .i64 x45.2.2.2.2.2]) rfl 0 rfl rfl fun s rs hS hq=>(kg hS hq 2 [70,71] [aa pA,.int .i64 x45.1] (by kernel_rfl) fun s rs hS hq=>?_)
 obtain⟨hk66,h64⟩:=ac h64
 refine K.pu hS hq rfl (wn rfl) rfl rfl rfl (v:=vB (gt pA x45.1)) (au tu9 (hS.lk rfl) (hS.lk rfl) hk66) fun s rs hS hq=>(kg hS hq 1 [73] [.int .i64 x45.1] (by kernel_rfl) fun s rs hS hq=>?_)
 obtain⟨y67,hy67,h64⟩:=bind_some h64
 replace hS:=hS.pull 1
 refine K.cl hS hq rfl (wn rfl) (vs:=[.agg #[aa x45.2.1,aa x45.2.2.1,.slice a46 x45.2.2.2.1.length z47,.slice a50 x45.2.2.2.2.1.length z51,.int .i64 x45.2.2.2.2.2],vB (gt pA x45.1),.int .i64 x45.1]) (ws:=[.agg #[aa x45.2.1,aa x45.2.2.1,.slice a46 x45.2.2.2.1.length z47,.slice a50 x45.2.2.2.2.1.length z51,.int .i64 x45.2.2.2.2.2],vB (gt pA x45.1),.int .i64 x45.1]) rfl rfl rfl rfl rfl 2 rfl (g_2k.ok hy67 h48 h52)  [0,1] rfl rfl (aP rfl mm0 (aP rfl (mm1 mm0) bn)) fun s rs v S' F' hp68 hF hS hq=>?_
 obtain⟨a69,z70,B72,a73,z74,B76,rfl,rfl,rfl,h71,h75⟩:=hp68
 obtain⟨y77,hy77,h64⟩:=bind_some h64
 refine K.cl hS hq rfl (wn rfl) (vs:=[.agg #[aa y67.1,aa y67.2.1,.slice a69 y67.2.2.1.length z70,.slice a73 y67.2.2.2.1.length z74,.int .i64 y67.2.2.2.2]]) (ws:=[.agg #[aa y67.1,aa y67.2.1,.slice a69 y67.2.2.1.length z70,.slice a73 y67.2.2.2.1.length z74,.int .i64 y67.2.2.2.2]]) rfl rfl rfl rfl rfl 2 rfl (g_2g.ok hy77 h71 h75)  [0,1] rfl rfl (aP rfl mm0 (aP rfl (mm1 mm0) bn)) fun s rs v S' F' hp78 hF hS hq=>?_
 obtain⟨a79,z80,B82,a83,z84,B86,rfl,rfl,rfl,h81,h85⟩:=hp78
 refine K.sto hS hq rfl (wn rfl) rfl rfl rfl rfl (p:=2) rfl iN rfl [aa y77.1,aa y77.2.1,.slice a79 y77.2.2.1.length z80,.slice a83 y77.2.2.2.1.length z84,.int .i64 y77.2.2.2.2] rfl [1] rfl (aP rfl (mm1 (mm1 mm0)) bn) fun s rs hS hq=>(KW.nil ?_)
 refine WW.region (sg0 hS 3 [] [5] [.int .i64 (w64 (x45.1+1))] [] (by kernel_rfl) fun s hS=>?_)
 refine KW.nil ?_
 replace hS:=hS.pull 3
 replace hS:=hS.pull 3
 replace hS:=hS.pull 2
 replace hS:=hS.pull 3
 obtain rfl:=Option.some.inj h64
 exact⟨_,rfl,_,_,_,_,_,_,(hS.subR rfl),h81,h85⟩
 refine WW.condF hS rfl hc65 (WW.exit ?_)
 refine ae ?_
 obtain rfl:=Option.some.inj h64
 exact⟨_,rfl,rfl,_,_,_,_,_,_,(hS.subR rfl),h48,h52⟩
 clear hS
 rintro e s ⟨rfl,a87,z88,B90,a91,z92,B94,hS,h89,h93⟩
 refine af (WW.exit ?_)
 refine ae (af ?_)
 obtain rfl:=Option.some.inj h25
 exact⟨_,rfl,_,_,_,_,_,_,(hS.subR rfl),h89,h93⟩
 refine WW.condF hS rfl hc29 (WW.skip ?_)
 refine WW.seq (WW.seq ?_)
 refine WW.region (sg0 hS 3 [] [78] [.bool (((gt pA x6.1).toNat:Int)==((72:UInt8).toNat:Int))] [] (by kernel_rfl) fun s hS=>?_)
 refine ay 3 (fun s=>Stt EV s [(81,.bool ((((gt pA x6.1).toNat:Int)==((72:UInt8).toNat:Int))||(((gt pA x6.1).toNat:Int)==((104:UInt8).toNat:Int)))),(0,aa pA),(2,.pointer (some ⟨i1,0,none⟩)),(4,.pointer (some ⟨i5,0,none⟩)),(5,.int .i64 x6.1)] [B14,B10,[(i5,.row [aa x6.2.1,aa x6.2.2.1,.slice a7 x6.2.2.2.1.length z8,.slice a11 x6.2.2.2.2.1.length z12,.int .i64 x6.2.2.2.2.2] 73 0 true)],[(i1,.row [aa ([]),aa ([]),.slice none 0 0,.slice none 0 0,.int .i64 0] 73 0 true)]] F L F nx0) ?_ fun s hS=>?_
 rcases aj ((((gt pA x6.1).toNat:Int)==((72:UInt8).toNat:Int))) with hcj | hcj
 replace hS:=hS.know (t:=78) rfl (congrArg Value.bool hcj)
 refine sg0 hS 3 [] [81] [.bool true] [] (by kernel_rfl) fun s hS=>(KW.nil ?_)
 exact(hS.know (t:=81) (u':= .bool ((((gt pA x6.1).toNat:Int)==((72:UInt8).toNat:Int))||(((gt pA x6.1).toNat:Int)==((104:UInt8).toNat:Int)))) rfl (bH hcj)).subR rfl
 replace hS:=hS.know (t:=78) rfl (congrArg Value.bool hcj)
 refine sg0 hS 3 [] [81] [.bool (((gt pA x6.1).toNat:Int)==((104:UInt8).toNat:Int))] [] (by kernel_rfl) fun s hS=>(KW.nil ?_)
 exact(hS.know (t:=81) (u':= .bool ((((gt pA x6.1).toNat:Int)==((72:UInt8).toNat:Int))||(((gt pA x6.1).toNat:Int)==((104:UInt8).toNat:Int)))) rfl (bI hcj)).subR rfl
 refine sg0 hS 1 [] [82] [.bool ((((gt pA x6.1).toNat:Int)==((72:UInt8).toNat:Int))||(((gt pA x6.1).toNat:Int)==((104:UInt8).toNat:Int)))] [] (by kernel_rfl) fun s hS=>?_
 obtain⟨z95,hz95,h25⟩:=bind_some h25
 refine ay 5 (fun s=>Stt EV s [(87,.bool z95),(0,aa pA),(2,.pointer (some ⟨i1,0,none⟩)),(4,.pointer (some ⟨i5,0,none⟩)),(5,.int .i64 x6.1)] [B14,B10,[(i5,.row [aa x6.2.1,aa x6.2.2.1,.slice a7 x6.2.2.2.1.length z8,.slice a11 x6.2.2.2.2.1.length z12,.int .i64 x6.2.2.2.2.2] 73 0 true)],[(i1,.row [aa ([]),aa ([]),.slice none 0 0,.slice none 0 0,.int .i64 0] 73 0 true)]] F L F nx0) ?_ fun s hS=>?_
 refine bc hz95 (fun hc96 hz95=>?_) fun hc96 hz95=>?_
 replace hS:=hS.kb 81 hc96 rfl
 replace hS:=hS.kb 82 hc96 rfl
 refine sg0 hS 2 [2] [84] [aa x6.2.2.1] [i5] (by kernel_rfl) fun s hS=>?_
 obtain⟨y97,hy97,hz95⟩:=bind_some hz95
 refine bu hS (wt hS rfl rfl rfl rfl) (vs:=[aa x6.2.2.1]) (ws:=[aa x6.2.2.1]) rfl rfl rfl rfl rfl 0 rfl (g_2h.ok hy97) fun s v S' F' hp98 hF hS=>?_
 obtain⟨rfl,rfl,rfl⟩:=hp98
 refine sg0 hS 2 [] [87] [.bool (decide (y97>0))] [] (by kernel_rfl) fun s hS=>(KW.nil ?_)
 obtain rfl:=Option.some.inj hz95
 exact hS.subR rfl
 replace hS:=hS.kb 81 hc96 rfl
 replace hS:=hS.kb 82 hc96 rfl
 refine sg0 hS 5 [] [87] [.bool false] [] (by kernel_rfl) fun s hS=>(KW.nil ?_)
 obtain rfl:=Option.some.inj hz95
 exact hS.subR rfl
 refine KW.nil (bc h25 (fun hc99 h25=>?_) fun hc99 h25=>?_)
 refine WW.condK hS rfl hc99 (WW.seq ?_)
 refine WW.region (sg0 hS 2 [2] [89] [aa x6.2.2.1] [i5] (by kernel_rfl) fun s hS=>?_)
 obtain⟨y100,hy100,h25⟩:=bind_some h25
 refine bu hS (wn rfl) (vs:=[aa x6.2.2.1]) (ws:=[aa x6.2.2.1]) rfl rfl rfl rfl rfl 0 rfl (g_2h.ok hy100) fun s v S' F' hp101 hF hS=>?_
 obtain⟨rfl,rfl,rfl⟩:=hp101
 refine sg0 hS 1 [] [8] [.int .i64 y100] [] (by kernel_rfl) fun s hS=>(KW.nil ?_)
 refine WW.seq (WW.region ?_)
 refine sg0 hS 1 [] [9] [.int .i64 0] [] (by kernel_rfl) fun s hS=>(KW.nil ?_)
 refine WW.seq (WW.seq ?_)
 refine WW.region (sg0 hS 6 [2] [10] [.int .i64 (w64 ((x6.2.1.length:Int)-y100))] [i5] (by kernel_rfl) fun s hS=>?_)
 refine KW.nil (WW.block ?_)
 obtain⟨o103,ho103,h25⟩:=bind_some h25
 refine WW.loop (LW.iterE ho103 (fun(x102:Int×Int) s=>Stt EV s [(0,aa pA),(2,.pointer (some ⟨i1,0,none⟩)),(4,.pointer (some ⟨i5,0,none⟩)),(5,.int .i64 x6.1),(8,.int .i64 y100),(9,.int .i64 x102.1),(10,.int .i64 x102.2)] [B14,B10,[(i5,.row [aa x6.2.1,aa x6.2.2.1,.slice a7 x6.2.2.2.1.length z8,.slice a11 x6.2.2.2.2.1.length z12,.int .i64 x6.2.2.2.2.2] 73 0 true)],[(i1,.row [aa ([]),aa ([]),.slice none 0 0,.slice none 0 0,.int .i64 0] 73 0 true)]] F L F nx0) 6 (hS.subR rfl) ?_ ?_)
 clear hS
 rintro x102 s hS o103' h105
 unfold g_2e.b3 at h105
 refine WW.seq (WW.seq ?_)
 refine WW.region (sg0 hS 5 [2] [100] [.bool (decide (x102.2<(x6.2.1.length:Int)))] [i5] (by kernel_rfl) fun s hS=>?_)
 refine KW.nil (bc h105 (fun hc106 h105=>?_) fun hc106 h105=>?_)
 refine WW.condK hS rfl hc106 (WW.skip ?_)
 refine WW.seq (WW.block ?_)
 refine WW.region (sg0 hS 5 [2] [104,106,107] [.int .i64 (w64 (10*x102.1)),aa x6.2.1,.int .i64 x102.2] [i5] (by kernel_rfl) fun s hS=>?_)
 obtain⟨hk107,h105⟩:=ac h105
 refine aw hS (wn rfl) rfl rfl rfl (v:=vB (gt x6.2.1 x102.2)) (au tu9 (hS.lk rfl) (hS.lk rfl) hk107) fun s hS=>(aw hS (wn rfl) rfl rfl rfl (v:=vB ((gt x6.2.1 x102.2)-48)) (iG (hS.lk rfl) (hS.lk rfl)) fun s hS=>?_)
 refine aw hS (wn rfl) rfl rfl (kr hS rfl rfl) (v:= .int .i64 (IntKind.i64.wrap (((gt x6.2.1 x102.2)-48).toNat:Int))) (gU (hS.lk rfl) tu5 tu3) fun s hS=>(sg0 hS 1 [] [111] [.int .i64 (w64 ((w64 (10*x102.1))+(IntKind.i64.wrap (((gt x6.2.1 x102.2)-48).toNat:Int))))] [] (by kernel_rfl) fun s hS=>?_)
 refine aw hS (wn rfl) rfl rfl rfl (v:= .int .i64 (if(10000:Int)<(w64 ((w64 (10*x102.1))+(IntKind.i64.wrap (((gt x6.2.1 x102.2)-48).toNat:Int)))) then 10000 else(w64 ((w64 (10*x102.1))+(IntKind.i64.wrap (((gt x6.2.1 x102.2)-48).toNat:Int)))))) (pZ rfl (hS.lk rfl) (hS.lk rfl)) fun s hS=>(sg0 hS 1 [] [9] [.int .i64 (if(10000:Int)<(w64 ((w64 (10*x102.1))+(IntKind.i64.wrap (((gt x6.2.1 x102.2)-48).toNat:Int)))) then 10000 else(w64 ((w64 (10*x102.1))+(IntKind.i64.wrap (((gt x6.2.1 x102.2)-48).toNat:Int)))))] [] (by kernel_rfl) fun s hS=>?_)
 refine KW.nil (WW.region ?_)
 refine sg0 hS 3 [] [10] [.int .i64 (w64 (x102.2+1))] [] (by kernel_rfl) fun s hS=>(KW.nil ?_)
 obtain rfl:=Option.some.inj h105
 exact⟨_,rfl,(hS.subR rfl)⟩
 refine WW.condF hS rfl hc106 (WW.exit ?_)
 refine ae ?_
 obtain rfl:=Option.some.inj h105
 exact⟨_,rfl,rfl,(hS.subR rfl)⟩
 clear hS
 rintro e s ⟨rfl,hS⟩
 refine af (WW.seq ?_)
 refine WW.seq (WW.region ?_)
 refine sg0 hS 2 [] [114] [.bool (o103.1==0)] [] (by kernel_rfl) fun s hS=>(KW.nil ?_)
 refine bc h25 (fun hc108 h25=>?_) fun hc108 h25=>?_
 refine WW.condK hS rfl hc108 (WW.seq ?_)
 refine WW.region (aw hS (wn rfl) rfl rfl rfl (v:= .agg #[aa ([]),aa ([]),.slice none 0 0,.slice none 0 0,.int .i64 11]) (cn jb tp73 [(4,.int .i64 11)] (av hS rfl) (cs:=[aa ([]),aa ([]),.slice none 0 0,.slice none 0 0,.int .i64 11]) rfl) fun s hS=>?_)
 refine sg hS 1 [3] [] [] [i1] [B14,B10,[(i5,.row [aa x6.2.1,aa x6.2.2.1,.slice a7 x6.2.2.2.1.length z8,.slice a11 x6.2.2.2.2.1.length z12,.int .i64 x6.2.2.2.2.2] 73 0 true)],[(i1,.row [aa ([]),aa ([]),.slice none 0 0,.slice none 0 0,.int .i64 11] 73 0 true)]] (by kernel_rfl) fun s hS=>(KW.nil ?_)
 refine WW.ret ?_
 replace hS:=hS.gap0
 replace hS:=hS.gap0
 have hres:=(bE hS (t:=2) (ty:=73) rfl (p:=5) rfl kZ iN (ws:=[aa ([]),aa ([]),.slice none ([]:List Int).length 0,.slice none ([]:List (Int×Int)).length 0,.int .i64 11]) rfl (aY (E:=EV) (s:=s)))
 replace hS:=(hS.pull 2).drop
 replace hS:=(hS.pull 2).drop
 replace hS:=(hS.pull 2).drop
 replace hS:=(hS.pull 2).drop
 replace hS:=hS.pull 1
 cases h25
 exact⟨_,rfl,rfl,fin hS (.inr rfl) hres (v:= .agg #[aa ([]),aa ([]),.slice none ([]:List Int).length 0,.slice none ([]:List (Int×Int)).length 0,.int .i64 11]) rfl ⟨_,_,_,_,_,_,rfl,rfl,rfl,Own.nil,Own.nil⟩⟩
 refine WW.condF hS rfl hc108 (WW.skip ?_)
 refine WW.seq (WW.seq ?_)
 refine WW.region (sg0 hS 6 [] [121] [.bool (decide ((w64 (x6.1+o103.1))≥(pA.length:Int)))] [] (by kernel_rfl) fun s hS=>?_)
 refine KW.nil (bc h25 (fun hc109 h25=>?_) fun hc109 h25=>?_)
 refine WW.condK hS rfl hc109 (WW.seq ?_)
 refine WW.region (aw hS (wn rfl) rfl rfl rfl (v:= .agg #[aa ([]),aa ([]),.slice none 0 0,.slice none 0 0,.int .i64 21]) (cn jb tp73 [(4,.int .i64 21)] (av hS rfl) (cs:=[aa ([]),aa ([]),.slice none 0 0,.slice none 0 0,.int .i64 21]) rfl) fun s hS=>?_)
 refine sg hS 1 [3] [] [] [i1] [B14,B10,[(i5,.row [aa x6.2.1,aa x6.2.2.1,.slice a7 x6.2.2.2.1.length z8,.slice a11 x6.2.2.2.2.1.length z12,.int .i64 x6.2.2.2.2.2] 73 0 true)],[(i1,.row [aa ([]),aa ([]),.slice none 0 0,.slice none 0 0,.int .i64 21] 73 0 true)]] (by kernel_rfl) fun s hS=>(KW.nil ?_)
 refine WW.ret ?_
 replace hS:=hS.gap0
 replace hS:=hS.gap0
 have hres:=(bE hS (t:=2) (ty:=73) rfl (p:=5) rfl kZ iN (ws:=[aa ([]),aa ([]),.slice none ([]:List Int).length 0,.slice none ([]:List (Int×Int)).length 0,.int .i64 21]) rfl (aY (E:=EV) (s:=s)))
 replace hS:=(hS.pull 2).drop
 replace hS:=(hS.pull 2).drop
 replace hS:=(hS.pull 2).drop
 replace hS:=(hS.pull 2).drop
 replace hS:=hS.pull 1
 cases h25
 exact⟨_,rfl,rfl,fin hS (.inr rfl) hres (v:= .agg #[aa ([]),aa ([]),.slice none ([]:List Int).length 0,.slice none ([]:List (Int×Int)).length 0,.int .i64 21]) rfl ⟨_,_,_,_,_,_,rfl,rfl,rfl,Own.nil,Own.nil⟩⟩
 refine WW.condF hS rfl hc109 (WW.skip ?_)
 refine WW.seq (WW.regionD (i:=[[],[],[1,0],[1,0],[3,2,1,0],[3,2,1,0],[3,2,1,0],[6,5,4,3,2,1,0],[3,2,1,0],[1,0],[1,0],[10,9,8,7,6,5,4,3,2,1,0],[11,10,9,8,7,6,5,4,3,2,1,0],[10,9,8,7,6,5,4,3,2,1,0],[10,9,8,7,6,5,4,3,2,1,0],[1,0],[1,0],[],[],[]]) (by kernel_rfl) ?_)
 have hq:=RS.start [i5,i1]
 refine kg hS hq 1 [123] [.pointer (some ⟨i5,3,none⟩)] (by kernel_rfl) fun s rs hS hq=>(K.ld hS hq rfl (wn rfl) rfl rfl rfl (hS.at (k:=2) rfl) tg46 (v:= .slice a11 x6.2.2.2.2.1.length z12) rfl 0 rfl rfl fun s rs hS hq=>?_)
 refine kg hS hq 1 [125] [.pointer (some ⟨i5,2,none⟩)] (by kernel_rfl) fun s rs hS hq=>(K.ld hS hq rfl (wn rfl) rfl rfl rfl (hS.at (k:=2) rfl) fL (v:= .slice a7 x6.2.2.2.1.length z8) rfl 0 rfl rfl fun s rs hS hq=>?_)
 refine kg hS hq 1 [127] [.pointer (some ⟨i5,2,none⟩)] (by kernel_rfl) fun s rs hS hq=>(K.ld hS hq rfl (wn rfl) rfl rfl rfl (hS.at (k:=2) rfl) fL (v:= .slice a7 x6.2.2.2.1.length z8) rfl 0 rfl rfl fun s rs hS hq=>?_)
 refine kg hS hq 3 [131] [.int .i64 (w64 ((x6.2.2.2.1.length:Int)-y100))] (by kernel_rfl) fun s rs hS hq=>?_
 obtain⟨hk110,h25⟩:=ac h25
 obtain⟨i116,cs117,ex118,rfl,rfl,rfl,hC119⟩:=Own.some_ h9 (by omega)
 obtain⟨c111,hR112,hN114,hN113,hT115⟩:=ai.loadF hC119 ex118 hk110 (z:=1) rfl
 obtain rfl:=hR112
 refine K.pu hS hq rfl (wn rfl) rfl rfl rfl (v:= .pointer (some ⟨i116,0+((w64 ((x6.2.2.2.1.length:Int)-y100))).toNat*1,none⟩)) (aF (hS.lk rfl) (hS.lk rfl) dj hk110) fun s rs hS hq=>?_
 replace hq:=hq.more i116 rfl rfl rfl
 refine K.ld hS hq rfl (wn rfl) rfl rfl rfl (hS.at (k:=1) rfl) tg3 (v:= .int .i64 (gt x6.2.2.2.1 (w64 ((x6.2.2.2.1.length:Int)-y100)))) hN113 2 rfl rfl fun s rs hS hq=>(kg hS hq 4 [137] [.int .i64 (w64 ((w64 (x6.1+o103.1))+1))] (by kernel_rfl) fun s rs hS hq=>?_)
 refine K.pu hS hq rfl (wn rfl) rfl rfl rfl (v:= .agg #[.int .i64 (gt x6.2.2.2.1 (w64 ((x6.2.2.2.1.length:Int)-y100))),.int .i64 (w64 ((w64 (x6.1+o103.1))+1))]) (eq fV tf tz3 [(0,.int .i64 (gt x6.2.2.2.1 (w64 ((x6.2.2.2.1.length:Int)-y100)))),(1,.int .i64 (w64 ((w64 (x6.1+o103.1))+1)))] (av hS rfl) (cs:=[.int .i64 (gt x6.2.2.2.1 (w64 ((x6.2.2.2.1.length:Int)-y100))),.int .i64 (w64 ((w64 (x6.1+o103.1))+1))]) rfl) fun s rs hS hq=>(K.nw hS hq rfl (wn rfl) rfl rfl rfl (v:=fun i=> .slice (some ⟨i,0,none⟩) 1 2) (b:= .row [.int .i64 (gt x6.2.2.2.1 (w64 ((x6.2.2.2.1.length:Int)-y100))),.int .i64 (w64 ((w64 (x6.1+o103.1))+1))] 50 2 true) (aW tu46 ro fV rfl [(0,.agg #[.int .i64 (gt x6.2.2.2.1 (w64 ((x6.2.2.2.1.length:Int)-y100))),.int .i64 (w64 ((w64 (x6.1+o103.1))+1))])] (av hS rfl) rfl) [0,1,2] (aP rfl (mm1 (mm1 mm0)) (aP rfl (mm1 (mm1 (mm1 mm0))) (aP rfl (mm1 mm0) bn))) rfl rfl rfl fun s rs i120 hS hq=>?_)
 have hC121:ai dk F ([((gt x6.2.2.2.1 (w64 ((x6.2.2.2.1.length:Int)-y100))),(w64 ((w64 (x6.1+o103.1))+1)))]:List (Int×Int)) [.int .i64 (gt x6.2.2.2.1 (w64 ((x6.2.2.2.1.length:Int)-y100))),.int .i64 (w64 ((w64 (x6.1+o103.1))+1))]:=⟨[.int .i64 (gt x6.2.2.2.1 (w64 ((x6.2.2.2.1.length:Int)-y100))),.int .i64 (w64 ((w64 (x6.1+o103.1))+1))],[],rfl,rfl,rfl⟩
 obtain⟨hk125,h25⟩:=ac h25
 refine K.app [] hS hq rfl (wn rfl) (dd:=dk) (lst:=x6.2.2.2.2.1) (m:=([((gt x6.2.2.2.1 (w64 ((x6.2.2.2.1.length:Int)-y100))),(w64 ((w64 (x6.1+o103.1))+1)))]:List (Int×Int))) rfl rfl jw rfl rfl h13 (Nat.succ_pos _) hC121 hk125 [0,1,2] rfl rfl (aP rfl (mm1 mm0) (aP rfl (mm1 (mm1 mm0)) (aP rfl mm0 bn))) fun s rs i122 cs123 hC124 hS hq=>(kg hS hq 1 [141] [.pointer (some ⟨i5,3,none⟩)] (by kernel_rfl) fun s rs hS hq=>?_)
 refine K.sto hS hq rfl (wn rfl) rfl rfl rfl rfl (p:=2) rfl tz46 rfl [aa x6.2.1,aa x6.2.2.1,.slice (some ⟨i116,0,none⟩) x6.2.2.2.1.length 1,.slice (some ⟨i122,0,none⟩) (x6.2.2.2.2.1++([((gt x6.2.2.2.1 (w64 ((x6.2.2.2.1.length:Int)-y100))),(w64 ((w64 (x6.1+o103.1))+1)))]:List (Int×Int))).length 2,.int .i64 x6.2.2.2.2.2] rfl [1,2] rfl (aP rfl (mm1 (mm1 mm0)) (aP rfl (mm1 mm0) bn)) fun s rs hS hq=>(KW.nil ?_)
 refine WW.seq (WW.region ?_)
 refine sg0 hS 2 [2] [142,143] [.agg #[aa x6.2.1,aa x6.2.2.1,.slice (some ⟨i116,0,none⟩) x6.2.2.2.1.length 1,.slice (some ⟨i122,0,none⟩) (x6.2.2.2.2.1++([((gt x6.2.2.2.1 (w64 ((x6.2.2.2.1.length:Int)-y100))),(w64 ((w64 (x6.1+o103.1))+1)))]:List (Int×Int))).length 2,.int .i64 x6.2.2.2.2.2],.int .i64 x6.1] [i5] (by kernel_rfl) fun s hS=>?_
 obtain⟨y126,hy126,h25⟩:=bind_some h25
 replace hS:=hS.pull 1
 refine bu hS (wn rfl) (vs:=[.agg #[aa x6.2.1,aa x6.2.2.1,.slice (some ⟨i116,0,none⟩) x6.2.2.2.1.length 1,.slice (some ⟨i122,0,none⟩) (x6.2.2.2.2.1++([((gt x6.2.2.2.1 (w64 ((x6.2.2.2.1.length:Int)-y100))),(w64 ((w64 (x6.1+o103.1))+1)))]:List (Int×Int))).length 2,.int .i64 x6.2.2.2.2.2],vB 72,.int .i64 x6.1]) (ws:=[.agg #[aa x6.2.1,aa x6.2.2.1,.slice (some ⟨i116,0,none⟩) x6.2.2.2.1.length 1,.slice (some ⟨i122,0,none⟩) (x6.2.2.2.2.1++([((gt x6.2.2.2.1 (w64 ((x6.2.2.2.1.length:Int)-y100))),(w64 ((w64 (x6.1+o103.1))+1)))]:List (Int×Int))).length 2,.int .i64 x6.2.2.2.2.2],vB 72,.int .i64 x6.1]) rfl rfl rfl rfl rfl 2 rfl (g_2k.ok hy126 (Own.blk ex118 hC119) (Own.blk0 hC124)) fun s v S' F' hp127 hF hS=>?_
 obtain⟨a128,z129,B131,a132,z133,B135,rfl,rfl,rfl,h130,h134⟩:=hp127
 obtain⟨y136,hy136,h25⟩:=bind_some h25
 refine cK (g_2g.ok hy136 h130 h134) hS 0 145 2 rfl (by kernel_rfl) fun s v S' F' hp137 hF hS=>?_
 obtain⟨a138,z139,B141,a142,z143,B145,rfl,rfl,rfl,h140,h144⟩:=hp137
 refine sg hS 1 [2] [] [] [i5] [B141,B145,[(i5,.row [aa y136.1,aa y136.2.1,.slice a138 y136.2.2.1.length z139,.slice a142 y136.2.2.2.1.length z143,.int .i64 y136.2.2.2.2] 73 0 true)],[(i1,.row [aa ([]),aa ([]),.slice none 0 0,.slice none 0 0,.int .i64 0] 73 0 true)]] (by kernel_rfl) fun s hS=>(KW.nil ?_)
 refine WW.seq (WW.seq ?_)
 refine WW.region (sg0 hS 3 [] [11] [.int .i64 (w64 (x6.1+1))] [] (by kernel_rfl) fun s hS=>?_)
 refine KW.nil (WW.block ?_)
 obtain⟨o155,ho155,h25⟩:=bind_some h25
 refine WW.loop (LW.iterE ho155 (fun(x146:Int×List UInt8×List UInt8×List Int×(List (Int×Int))×Int) s=> ∃(a147:Option Addr) (z148:Nat) (B150:Seg) (a151:Option Addr) (z152:Nat) (B154:Seg),Stt EV s [(0,aa pA),(2,.pointer (some ⟨i1,0,none⟩)),(4,.pointer (some ⟨i5,0,none⟩)),(5,.int .i64 x6.1),(9,.int .i64 o103.1),(11,.int .i64 x146.1)] [B150,B154,[(i5,.row [aa x146.2.1,aa x146.2.2.1,.slice a147 x146.2.2.2.1.length z148,.slice a151 x146.2.2.2.2.1.length z152,.int .i64 x146.2.2.2.2.2] 73 0 true)],[(i1,.row [aa ([]),aa ([]),.slice none 0 0,.slice none 0 0,.int .i64 0] 73 0 true)]] F L F nx0∧Own (elI .i64 3) F a147 z148 x146.2.2.2.1 B150∧Own dk F a151 z152 x146.2.2.2.2.1 B154) 8 ⟨_,_,_,_,_,_,(hS.subR rfl),h140,h144⟩ ?_ ?_)
 clear hS
 rintro x146 s ⟨a147,z148,B150,a151,z152,B154,hS,h149,h153⟩ o155' h165
 unfold g_2e.b4 at h165
 refine WW.seq (WW.seq ?_)
 refine WW.region (sg0 hS 5 [] [152] [.bool (decide (x146.1≤(w64 (x6.1+o103.1))))] [] (by kernel_rfl) fun s hS=>?_)
 refine KW.nil (bc h165 (fun hc166 h165=>?_) fun hc166 h165=>?_)
 refine WW.condK hS rfl hc166 (WW.skip ?_)
 refine WW.seq (WW.block ?_)
 refine WW.regionD (i:=[[],[0],[1,0],[0],[3,2,1,0],[],[],[]]) (by kernel_rfl) ?_
 have hq:=RS.start [i5,i1]
 refine K.ldA hS hq rfl (wn rfl) rfl rfl rfl (hS.at (k:=2) rfl) kZ iN (vs:=[aa x146.2.1,aa x146.2.2.1,.slice a147 x146.2.2.2.1.length z148,.slice a151 x146.2.2.2.2.1.length z152,.int .i64 x146.2.2.2.2.2]) rfl 0 rfl rfl fun s rs hS hq=>(kg hS hq 2 [156,157] [aa pA,.int .i64 x146.1] (by kernel_rfl) fun s rs hS hq=>?_)
 obtain⟨hk167,h165⟩:=ac h165
 refine K.pu hS hq rfl (wn rfl) rfl rfl rfl (v:=vB (gt pA x146.1)) (au tu9 (hS.lk rfl) (hS.lk rfl) hk167) fun s rs hS hq=>(kg hS hq 1 [159] [.int .i64 x146.1] (by kernel_rfl) fun s rs hS hq=>?_)
 obtain⟨y168,hy168,h165⟩:=bind_some h165
 refine K.cl hS hq rfl (wn rfl) (vs:=[.agg #[aa x146.2.1,aa x146.2.2.1,.slice a147 x146.2.2.2.1.length z148,.slice a151 x146.2.2.2.2.1.length z152,.int .i64 x146.2.2.2.2.2],vB (gt pA x146.1),.int .i64 x146.1]) (ws:=[.agg #[aa x146.2.1,aa x146.2.2.1,.slice a147 x146.2.2.2.1.length z148,.slice a151 x146.2.2.2.2.1.length z152,.int .i64 x146.2.2.2.2.2],vB (gt pA x146.1),.int .i64 x146.1]) rfl rfl rfl rfl rfl 2 rfl (g_2k.ok hy168 h149 h153)  [0,1] rfl rfl (aP rfl mm0 (aP rfl (mm1 mm0) bn)) fun s rs v S' F' hp169 hF hS hq=>?_
 obtain⟨a170,z171,B173,a174,z175,B177,rfl,rfl,rfl,h172,h176⟩:=hp169
 obtain⟨y178,hy178,h165⟩:=bind_some h165
 refine K.cl hS hq rfl (wn rfl) (vs:=[.agg #[aa y168.1,aa y168.2.1,.slice a170 y168.2.2.1.length z171,.slice a174 y168.2.2.2.1.length z175,.int .i64 y168.2.2.2.2]]) (ws:=[.agg #[aa y168.1,aa y168.2.1,.slice a170 y168.2.2.1.length z171,.slice a174 y168.2.2.2.1.length z175,.int .i64 y168.2.2.2.2]]) rfl rfl rfl rfl rfl 2 rfl (g_2g.ok hy178 h172 h176)  [0,1] rfl rfl (aP rfl mm0 (aP rfl (mm1 mm0) bn)) fun s rs v S' F' hp179 hF hS hq=>?_
 obtain⟨a180,z181,B183,a184,z185,B187,rfl,rfl,rfl,h182,h186⟩:=hp179
 refine K.sto hS hq rfl (wn rfl) rfl rfl rfl rfl (p:=2) rfl iN rfl [aa y178.1,aa y178.2.1,.slice a180 y178.2.2.1.length z181,.slice a184 y178.2.2.2.1.length z185,.int .i64 y178.2.2.2.2] rfl [1] rfl (aP rfl (mm1 (mm1 mm0)) bn) fun s rs hS hq=>(KW.nil ?_)
 refine WW.region (sg0 hS 3 [] [11] [.int .i64 (w64 (x146.1+1))] [] (by kernel_rfl) fun s hS=>?_)
 refine KW.nil ?_
 obtain rfl:=Option.some.inj h165
 exact⟨_,rfl,_,_,_,_,_,_,(hS.subR rfl),h182,h186⟩
 refine WW.condF hS rfl hc166 (WW.exit ?_)
 refine ae ?_
 obtain rfl:=Option.some.inj h165
 exact⟨_,rfl,rfl,_,_,_,_,_,_,(hS.subR rfl),h149,h153⟩
 clear hS
 rintro e s ⟨rfl,a188,z189,B191,a192,z193,B195,hS,h190,h194⟩
 refine af (WW.seq ?_)
 refine WW.region (sg0 hS 5 [] [5] [.int .i64 (w64 ((w64 (x6.1+o103.1))+1))] [] (by kernel_rfl) fun s hS=>?_)
 refine KW.nil (WW.exit ?_)
 refine ae (af ?_)
 replace hS:=hS.pull 3
 replace hS:=hS.pull 3
 replace hS:=hS.pull 2
 replace hS:=hS.pull 3
 obtain rfl:=Option.some.inj h25
 exact⟨_,rfl,_,_,_,_,_,_,(hS.subR rfl),h190,h194⟩
 refine WW.condF hS rfl hc99 (WW.skip ?_)
 refine WW.seq (WW.regionD (i:=[[],[0],[1,0],[2,1,0],[2,1,0],[0],[0],[0],[7,6,5,4,3,2,1,0],[],[]]) (by kernel_rfl) ?_)
 have hq:=RS.start [i5,i1]
 refine K.ldA hS hq rfl (wn rfl) rfl rfl rfl (hS.at (k:=2) rfl) kZ iN (vs:=[aa x6.2.1,aa x6.2.2.1,.slice a7 x6.2.2.2.1.length z8,.slice a11 x6.2.2.2.2.1.length z12,.int .i64 x6.2.2.2.2.2]) rfl 0 rfl rfl fun s rs hS hq=>(kg hS hq 4 [167,168,170] [aa pA,.int .i64 x6.1,.int .i64 (w64 (x6.1+1))] (by kernel_rfl) fun s rs hS hq=>?_)
 obtain⟨hk196,h25⟩:=ac h25
 refine K.pu hS hq rfl (wn rfl) rfl rfl rfl (v:=aa (mid pA x6.1 (w64 (x6.1+1)))) (cU tu9 (hS.lk rfl) (i:=x6.1) (j:=(w64 (x6.1+1))) (bF hS rfl) (bF hS rfl) hk196) fun s rs hS hq=>?_
 obtain⟨y197,hy197,h25⟩:=bind_some h25
 refine K.cl hS hq rfl (wn rfl) (vs:=[aa (mid pA x6.1 (w64 (x6.1+1)))]) (ws:=[aa (mid pA x6.1 (w64 (x6.1+1)))]) rfl rfl rfl rfl rfl 0 rfl (g_2j.ok hy197)  [0,1] rfl rfl (aP rfl (mm1 (mm1 mm0)) (aP rfl (mm1 (mm1 (mm1 mm0))) bn)) fun s rs v S' F' hp198 hF hS hq=>?_
 obtain⟨rfl,rfl,rfl⟩:=hp198
 obtain⟨hk199,h25⟩:=ac h25
 refine K.pu hS hq rfl (wn rfl) rfl rfl rfl (v:=vB (gt y197 (0:Int))) (au tu9 (hS.lk rfl) (hS.lk rfl) hk199) fun s rs hS hq=>(kg hS hq 1 [174] [.int .i64 x6.1] (by kernel_rfl) fun s rs hS hq=>?_)
 obtain⟨y200,hy200,h25⟩:=bind_some h25
 replace hS:=hS.pull 1
 refine K.cl hS hq rfl (wn rfl) (vs:=[.agg #[aa x6.2.1,aa x6.2.2.1,.slice a7 x6.2.2.2.1.length z8,.slice a11 x6.2.2.2.2.1.length z12,.int .i64 x6.2.2.2.2.2],vB (gt y197 (0:Int)),.int .i64 x6.1]) (ws:=[.agg #[aa x6.2.1,aa x6.2.2.1,.slice a7 x6.2.2.2.1.length z8,.slice a11 x6.2.2.2.2.1.length z12,.int .i64 x6.2.2.2.2.2],vB (gt y197 (0:Int)),.int .i64 x6.1]) rfl rfl rfl rfl rfl 2 rfl (g_2k.ok hy200 h9 h13)  [0,1] rfl rfl (aP rfl mm0 (aP rfl (mm1 mm0) bn)) fun s rs v S' F' hp201 hF hS hq=>?_
 obtain⟨a202,z203,B205,a206,z207,B209,rfl,rfl,rfl,h204,h208⟩:=hp201
 refine K.sto hS hq rfl (wn rfl) rfl rfl rfl rfl (p:=2) rfl iN rfl [aa y200.1,aa y200.2.1,.slice a202 y200.2.2.1.length z203,.slice a206 y200.2.2.2.1.length z207,.int .i64 y200.2.2.2.2] rfl [1] rfl (aP rfl (mm1 (mm1 mm0)) bn) fun s rs hS hq=>(KW.nil ?_)
 refine WW.region (sg0 hS 3 [] [5] [.int .i64 (w64 (x6.1+1))] [] (by kernel_rfl) fun s hS=>?_)
 refine KW.nil ?_
 replace hS:=hS.pull 3
 replace hS:=hS.pull 3
 replace hS:=hS.pull 2
 replace hS:=hS.pull 3
 obtain rfl:=Option.some.inj h25
 exact⟨_,rfl,_,_,_,_,_,_,(hS.subR rfl),h204,h208⟩
 refine WW.condF hS rfl hc26 (WW.exit ?_)
 refine ae ?_
 obtain rfl:=Option.some.inj h25
 exact⟨_,rfl,rfl,_,_,_,_,_,_,(hS.subR rfl),h9,h13⟩
 clear hS
 rcases o15 with y210 | y210
 rintro e s ⟨rfl,a211,z212,B214,a215,z216,B218,hS,h213,h217⟩
 replace h:=bp h
 refine af (WW.seq ?_)
 refine WW.region (sg hS 2 [2,3] [] [] [i5,i1] [B218,B214,[(i5,.row [aa y210.2.1,aa y210.2.2.1,.slice a211 y210.2.2.2.1.length z212,.slice a215 y210.2.2.2.2.1.length z216,.int .i64 y210.2.2.2.2.2] 73 0 true)],[(i1,.row [aa y210.2.1,aa y210.2.2.1,.slice a211 y210.2.2.2.1.length z212,.slice a215 y210.2.2.2.2.1.length z216,.int .i64 y210.2.2.2.2.2] 73 0 true)]] (by kernel_rfl) fun s hS=>?_)
 refine KW.nil (WW.ret ?_)
 have hres:=(bE hS (t:=2) (ty:=73) rfl (p:=3) rfl kZ iN (ws:=[aa y210.2.1,aa y210.2.2.1,.slice a211 y210.2.2.2.1.length z212,.slice a215 y210.2.2.2.2.1.length z216,.int .i64 y210.2.2.2.2.2]) rfl (aY (E:=EV) (s:=s)))
 replace hS:=(hS.pull 2).drop
 replace hS:=(hS.pull 2).drop
 replace hS:=hS.pull 1
 cases h
 exact fin hS (.inr rfl) hres (v:= .agg #[aa y210.2.1,aa y210.2.2.1,.slice a211 y210.2.2.2.1.length z212,.slice a215 y210.2.2.2.2.1.length z216,.int .i64 y210.2.2.2.2.2]) rfl ⟨_,_,_,_,_,_,rfl,rfl,rfl,h213,h217⟩
 rintro e s ⟨rfl,hfin⟩
 replace h:=bq h
 obtain rfl:=Option.some.inj h
 exact hfin
noncomputable def g_d.b0 (pA:List UInt8) (pB:List UInt8) (y6:List Int) (x14:List Int×Int):Option ((List Int×Int)⊕(List Int×Int)) :=
  (if(decide (x14.2<(y6.length:Int))) then(if 0≤x14.2∧x14.2<(y6.length:Int) then Option.bind ((if((gt y6 x14.2)==0) then(if 0≤x14.2∧x14.2<(pA.length:Int) then Option.bind (g_3c.f pB (gt pA x14.2)) fun y40=>some (decide (y40≥0)) else none) else some false)) fun z37=>(if z37 then(if x14.1.length+([x14.2]:List Int).length<1000000000 then some (.inl ((x14.1++([x14.2]:List Int)),(w64 (x14.2+1)))) else none) else some (.inl (x14.1,(w64 (x14.2+1))))) else none) else some (.inr (x14.1,x14.2)))
noncomputable def g_d.f (pA:List UInt8) (pB:List UInt8):Option (List Int×Int) :=
  Option.bind (g_26.f pA) fun y1=>(if(y1 != 0) then some (([]:List Int),y1) else Option.bind (g_m.f pA) fun y6=>Option.bind (iter (g_d.b0 pA pB y6) (([]:List Int),0)) fun o19=>some (o19.1,0))
theorem g_d.ok {pA:List UInt8} {pB:List UInt8} {F:FZ} {r:List Int×Int} (h:g_d.f pA pB=some r) (hG:Gl F) :
    Cl EV 38 [aa pA,aa pB] [] F (fun v S' F'=> ∃(ra1:Option Addr) (rz2:Nat) (rB4:Seg),FLe F F'∧v= .tuple #[.slice ra1 r.1.length rz2,.int .i64 r.2]∧S'= [rB4]∧Own (elI .i64 3) F' ra1 rz2 r.1 rB4):=by
 refine Cl.of Tryz.func38 rfl (fun _ _=>rfl) (by kernel_rfl) fun s L nx0 hS=>?_
 unfold g_d.f at h
 refine WW.seq (WW.region ?_)
 refine sg0 hS 2 [] [4,5] [.slice none 0 0,.int .i64 0] [] (by kernel_rfl) fun s hS=>(KW.nil ?_)
 refine WW.seq (WW.seq ?_)
 refine WW.region ?_
 obtain⟨y1,hy1,h⟩:=bind_some h
 refine cK (g_26.ok hy1 hG) hS 1 11 0 rfl (by kernel_rfl) fun s v S' F3 hp2 hF hS=>?_
 obtain⟨hF4,rfl,rfl⟩:=hp2
 refine sg0 hS 1 [] [6] [.int .i64 y1] [] (by kernel_rfl) fun s hS=>(KW.nil ?_)
 refine WW.seq (WW.region ?_)
 refine sg0 hS 2 [] [13] [.bool (y1 != 0)] [] (by kernel_rfl) fun s hS=>(KW.nil ?_)
 refine bc h (fun hc5 h=>?_) fun hc5 h=>?_
 refine WW.condK hS rfl hc5 (WW.seq ?_)
 refine WW.region (sg0 hS 3 [] [4,5] [.slice none 0 0,.int .i64 y1] [] (by kernel_rfl) fun s hS=>?_)
 refine KW.nil (WW.ret ?_)
 replace hS:=hS.gap0
 cases h
 exact bP hS (.inr rfl) 4 5 rfl rfl rfl ⟨_,_,_,(hF4),rfl,rfl,Own.nil⟩
 refine WW.condF hS rfl hc5 (WW.skip ?_)
 refine WW.seq (WW.region ?_)
 refine sg0 hS 1 [] [7] [.slice none 0 0] [] (by kernel_rfl) fun s hS=>(KW.nil ?_)
 refine WW.seq (WW.seq ?_)
 refine WW.region ?_
 obtain⟨y6,hy6,h⟩:=bind_some h
 refine cK (g_m.ok hy6 (hG.mono hF4)) hS 1 16 0 rfl (by kernel_rfl) fun s v S' F8 hp7 hF hS=>?_
 obtain⟨a9,z10,B12,hF13,rfl,rfl,h11⟩:=hp7
 refine sg0 hS 2 [] [17,18] [.int .i64 (y6.length:Int),.int .i64 0] [] (by kernel_rfl) fun s hS=>(KW.nil ?_)
 refine WW.block ?_
 replace hS:=hS.gap0
 obtain⟨o19,ho19,h⟩:=bind_some h
 refine WW.loop (LW.iterE ho19 (fun(x14:List Int×Int) s=> ∃(a15:Option Addr) (z16:Nat) (B18:Seg),Stt EV s [(0,aa pA),(1,aa pB),(4,.slice none 0 0),(5,.int .i64 0),(7,.slice a15 x14.1.length z16),(16,.slice a9 y6.length z10),(17,.int .i64 (y6.length:Int)),(18,.int .i64 x14.2)] [B18,B12] F8 L F nx0∧Own (elI .i64 3) F8 a15 z16 x14.1 B18) 0 ⟨_,_,_,(hS.subR rfl),Own.nil⟩ ?_ ?_)
 clear hS
 rintro x14 s ⟨a15,z16,B18,hS,h17⟩ o19' h25
 unfold g_d.b0 at h25
 refine WW.seq (WW.region ?_)
 refine sg0 hS 1 [] [19] [.bool (decide (x14.2<(y6.length:Int)))] [] (by kernel_rfl) fun s hS=>(KW.nil ?_)
 refine WW.seq (bc h25 (fun hc26 h25=>?_) fun hc26 h25=>?_)
 refine WW.condK hS rfl hc26 (WW.skip ?_)
 refine WW.seq (WW.block ?_)
 refine WW.seq (WW.region ?_)
 refine sg0 hS 1 [] [20] [.int .i64 x14.2] [] (by kernel_rfl) fun s hS=>?_
 obtain⟨hk27,h25⟩:=ac h25
 obtain⟨i33,cs34,ex35,rfl,rfl,rfl,hC36⟩:=Own.some_ h11 (by omega)
 obtain⟨c28,hR29,hN31,hN30,hT32⟩:=ai.loadF hC36 ex35 hk27 (z:=1) rfl
 obtain rfl:=hR29
 refine aw hS (wn rfl) rfl rfl rfl (v:= .pointer (some ⟨i33,0+(x14.2).toNat*1,none⟩)) (aF (hS.lk rfl) (hS.lk rfl) dj hk27) fun s hS=>(eu hS (wn rfl) rfl rfl rfl (hS.at (k:=1) rfl) tg3 (v:= .int .i64 (gt y6 x14.2)) hN30 fun s hS=>?_)
 refine sg0 hS 2 [] [8,9] [.int .i64 x14.2,.int .i64 (gt y6 x14.2)] [] (by kernel_rfl) fun s hS=>(KW.nil ?_)
 refine WW.seq (WW.region ?_)
 refine sg0 hS 3 [] [25] [.bool ((gt y6 x14.2)==0)] [] (by kernel_rfl) fun s hS=>?_
 obtain⟨z37,hz37,h25⟩:=bind_some h25
 refine ay 7 (fun s=>Stt EV s [(32,.bool z37),(0,aa pA),(1,aa pB),(4,.slice none 0 0),(5,.int .i64 0),(7,.slice a15 x14.1.length z16),(8,.int .i64 x14.2),(16,.slice (some ⟨i33,0,none⟩) y6.length 1),(17,.int .i64 (y6.length:Int)),(18,.int .i64 x14.2)] [B18,[(i33,.row (cs34++ex35) 3 1 true)]] F8 L F nx0) ?_ fun s hS=>?_
 refine bc hz37 (fun hc38 hz37=>?_) fun hc38 hz37=>?_
 replace hS:=hS.kb 25 hc38 rfl
 refine sg0 hS 3 [] [26,27,28] [aa pB,aa pA,.int .i64 x14.2] [] (by kernel_rfl) fun s hS=>?_
 obtain⟨hk39,hz37⟩:=ac hz37
 refine aw hS (wt hS rfl rfl rfl rfl) rfl rfl rfl (v:=vB (gt pA x14.2)) (au tu9 (hS.lk rfl) (hS.lk rfl) hk39) fun s hS=>?_
 obtain⟨y40,hy40,hz37⟩:=bind_some hz37
 refine bu hS (wt hS rfl rfl rfl rfl) (vs:=[aa pB,vB (gt pA x14.2)]) (ws:=[aa pB,vB (gt pA x14.2)]) rfl rfl rfl rfl rfl 0 rfl (g_3c.ok hy40) fun s v S' F' hp41 hF hS=>?_
 obtain⟨rfl,rfl,rfl⟩:=hp41
 refine sg0 hS 2 [] [32] [.bool (decide (y40≥0))] [] (by kernel_rfl) fun s hS=>(KW.nil ?_)
 obtain rfl:=Option.some.inj hz37
 exact hS.subR rfl
 replace hS:=hS.kb 25 hc38 rfl
 refine sg0 hS 7 [] [32] [.bool false] [] (by kernel_rfl) fun s hS=>(KW.nil ?_)
 obtain rfl:=Option.some.inj hz37
 exact hS.subR rfl
 refine KW.nil (bc h25 (fun hc42 h25=>?_) fun hc42 h25=>?_)
 refine WW.condK hS rfl hc42 (WW.region ?_)
 refine sg0 hS 2 [] [33,34] [.slice a15 x14.1.length z16,.int .i64 x14.2] [] (by kernel_rfl) fun s hS=>(bA hS (wn rfl) rfl rfl rfl (v:=fun i=> .slice (some ⟨i,0,none⟩) 1 1) (b:= .row [.int .i64 x14.2] 3 1 true) (aW iM tz3 gp rfl [(0,.int .i64 x14.2)] (av hS rfl) rfl) fun s i43 hS=>?_)
 have hC44:ai (elI .i64 3) F8 ([x14.2]:List Int) [.int .i64 x14.2]:=⟨[.int .i64 x14.2],[],rfl,rfl,rfl⟩
 obtain⟨hk48,h25⟩:=ac h25
 refine fU hS (wn rfl) (dd:=(elI .i64 3)) (lst:=x14.1) (m:=([x14.2]:List Int)) rfl rfl dl rfl rfl h17 (Nat.succ_pos _) hC44 hk48 fun s i45 cs46 hC47 hS=>(sg0 hS 1 [] [7] [.slice (some ⟨i45,0,none⟩) (x14.1++([x14.2]:List Int)).length 1] [] (by kernel_rfl) fun s hS=>?_)
 refine KW.nil (WW.region ?_)
 refine sg0 hS 2 [] [18] [.int .i64 (w64 (x14.2+1))] [] (by kernel_rfl) fun s hS=>(KW.nil ?_)
 obtain rfl:=Option.some.inj h25
 exact⟨_,rfl,_,_,_,(hS.subR rfl),(Own.blk0 hC47)⟩
 refine WW.condF hS rfl hc42 (WW.skip ?_)
 refine WW.region (sg0 hS 2 [] [18] [.int .i64 (w64 (x14.2+1))] [] (by kernel_rfl) fun s hS=>?_)
 refine KW.nil ?_
 obtain rfl:=Option.some.inj h25
 exact⟨_,rfl,_,_,_,(hS.subR rfl),h17⟩
 refine WW.condF hS rfl hc26 (WW.exit ?_)
 refine ae ?_
 obtain rfl:=Option.some.inj h25
 exact⟨_,rfl,rfl,_,_,_,(hS.subR rfl),h17⟩
 clear hS
 rintro e s ⟨rfl,a49,z50,B52,hS,h51⟩
 refine af (WW.seq ?_)
 refine WW.region (sg0 hS 3 [] [4,5] [.slice a49 o19.1.length z50,.int .i64 0] [] (by kernel_rfl) fun s hS=>?_)
 refine KW.nil (WW.ret ?_)
 replace hS:=(hS.pull 1).drop
 cases h
 exact bP hS (.inr rfl) 4 5 rfl rfl rfl ⟨_,_,_,((FLe.trans hF4 hF13)),rfl,rfl,h51⟩
noncomputable def g_c.f (pA:List UInt8):Option (List Int×Int) :=
  Option.bind (g_26.f pA) fun y1=>(if(y1 != 0) then some (([]:List Int),y1) else Option.bind (g_m.f pA) fun y6=>some (y6,0))
theorem g_c.ok {pA:List UInt8} {F:FZ} {r:List Int×Int} (h:g_c.f pA=some r) (hG:Gl F) :
    Cl EV 23 [aa pA] [] F (fun v S' F'=> ∃(ra1:Option Addr) (rz2:Nat) (rB4:Seg),FLe F F'∧v= .tuple #[.slice ra1 r.1.length rz2,.int .i64 r.2]∧S'= [rB4]∧Own (elI .i64 3) F' ra1 rz2 r.1 rB4):=by
 refine Cl.of Tryz.func23 rfl (fun _ _=>rfl) (by kernel_rfl) fun s L nx0 hS=>?_
 unfold g_c.f at h
 refine WW.seq (WW.region ?_)
 refine sg0 hS 2 [] [2,3] [.slice none 0 0,.int .i64 0] [] (by kernel_rfl) fun s hS=>(KW.nil ?_)
 refine WW.seq (WW.seq ?_)
 refine WW.region ?_
 obtain⟨y1,hy1,h⟩:=bind_some h
 refine cK (g_26.ok hy1 hG) hS 1 6 0 rfl (by kernel_rfl) fun s v S' F3 hp2 hF hS=>?_
 obtain⟨hF4,rfl,rfl⟩:=hp2
 refine sg0 hS 1 [] [4] [.int .i64 y1] [] (by kernel_rfl) fun s hS=>(KW.nil ?_)
 refine WW.seq (WW.region ?_)
 refine sg0 hS 2 [] [8] [.bool (y1 != 0)] [] (by kernel_rfl) fun s hS=>(KW.nil ?_)
 refine bc h (fun hc5 h=>?_) fun hc5 h=>?_
 refine WW.condK hS rfl hc5 (WW.seq ?_)
 refine WW.region (sg0 hS 3 [] [2,3] [.slice none 0 0,.int .i64 y1] [] (by kernel_rfl) fun s hS=>?_)
 refine KW.nil (WW.ret ?_)
 replace hS:=hS.gap0
 cases h
 exact bP hS (.inr rfl) 2 3 rfl rfl rfl ⟨_,_,_,(hF4),rfl,rfl,Own.nil⟩
 refine WW.condF hS rfl hc5 (WW.skip ?_)
 refine WW.seq (WW.region ?_)
 obtain⟨y6,hy6,h⟩:=bind_some h
 refine cK (g_m.ok hy6 (hG.mono hF4)) hS 1 11 0 rfl (by kernel_rfl) fun s v S' F8 hp7 hF hS=>?_
 obtain⟨a9,z10,B12,hF13,rfl,rfl,h11⟩:=hp7
 refine sg0 hS 2 [] [2,3] [.slice a9 y6.length z10,.int .i64 0] [] (by kernel_rfl) fun s hS=>(KW.nil ?_)
 refine WW.ret ?_
 cases h
 exact bP hS (.inr rfl) 2 3 rfl rfl rfl ⟨_,_,_,((FLe.trans hF4 hF13)),rfl,rfl,h11⟩
noncomputable def g_2c.b1 (pC:List UInt8) (x31:Int) (z42:List UInt8) (y68:List Int×Int) (x77:Bool×Int):Option ((Bool×Int)⊕(Bool×Int)) :=
  (if(((decide (x77.2<(w64 ((w64 ((w64 ((z42.length:Int)-(pC.length:Int)))-1))-1))))&&(x31==1))&&(y68.2==0)) then(if x77.1 then(if 0≤x77.2∧x77.2<(y68.1.length:Int) then some (.inl (((gt y68.1 x77.2) != 0),(w64 (x77.2+1)))) else none) else some (.inl (false,(w64 (x77.2+1))))) else some (.inr (x77.1,x77.2)))
noncomputable def g_2c.b0 (pA:List UInt8) (pB:List UInt8) (pC:List UInt8) (x31:Int):Option ((Int)⊕((Int)⊕(Bool))) :=
  (if(decide (x31<2)) then(if pA.length+([61]:List UInt8).length<1000000000 then(if(pA++ [61]).length+pC.length<1000000000 then Option.bind ((if(x31==1) then(if pA.length+([40]:List UInt8).length<1000000000 then(if(pA++ [40]).length+pB.length<1000000000 then(if((pA++ [40])++pB).length+([41,61]:List UInt8).length<1000000000 then(if(((pA++ [40])++pB)++ [41,61]).length+pC.length<1000000000 then some ((((pA++ [40])++pB)++ [41,61])++pC) else none) else none) else none) else none) else some ((pA++ [61])++pC))) fun z42=>Option.bind (g_d.f z42 ([61,44])) fun y48=>(if((y48.2 != 0)||(decide (pC= []))) then some (.inl (w64 (x31+1))) else Option.bind (g_1.f y48.1 ([(w64 ((w64 ((z42.length:Int)-(pC.length:Int)))-1))]:List Int)) fun y65=>(if(!y65) then some (.inl (w64 (x31+1))) else Option.bind (g_c.f z42) fun y68=>(if((y68.2==0)&&((y68.1.length:Int) != (z42.length:Int))) then some (.inr (.inr false)) else Option.bind (iter (g_2c.b1 pC x31 z42 y68) (true,(w64 ((pA.length:Int)+1)))) fun o78=>(if((y68.2 != 0)||(!o78.1)) then some (.inl (w64 (x31+1))) else Option.bind (g_b.f z42 false) fun y94=>(if(((y94.2.2.2 != 0)||(y94.1 != 0))||((y94.2.2.1.length:Int) != 0)) then some (.inr (.inr false)) else some (.inl (w64 (x31+1)))))))) else none) else none) else some (.inr (.inl x31)))
noncomputable def g_2c.f (pA:List UInt8) (pB:List UInt8) (pC:List UInt8):Option (Bool) :=
  Option.bind (g_2d.f) fun y1=>(if(!y1) then some false else Option.bind (g_2.f pA) fun y6=>(if(((!y6)||(decide ((pB.length:Int)>200)))||(decide ((pC.length:Int)>200))) then some true else Option.bind (g_2e.f pB) fun y9=>(if(y9.2.2.2.2 != 0) then some true else Option.bind (g_2e.f pC) fun y20=>(if(y20.2.2.2.2 != 0) then some true else Option.bind (iter (g_2c.b0 pA pB pC) 0) fun o34=>cu o34 fun y103=>some true))))
theorem g_2c.ok {pA:List UInt8} {pB:List UInt8} {pC:List UInt8} {F:FZ} {r:Bool} (h:g_2c.f pA pB pC=some r) (hG:Gl F) :
    Cl EV 10 [aa pA,aa pB,aa pC] [] F (fun v S' F'=>FLe F F'∧v= .bool r∧S'= []):=by
 refine Cl.of Tryz.func10 rfl (fun _ _=>rfl) (by kernel_rfl) fun s L nx0 hS=>?_
 unfold g_2c.f at h
 refine WW.seq (WW.region ?_)
 refine sg0 hS 1 [] [6] [.bool false] [] (by kernel_rfl) fun s hS=>(KW.nil ?_)
 refine WW.seq (WW.seq ?_)
 refine WW.region ?_
 obtain⟨y1,hy1,h⟩:=bind_some h
 refine cK (g_2d.ok hy1 hG) hS 0 18 0 rfl (by kernel_rfl) fun s v S' F3 hp2 hF hS=>?_
 obtain⟨hF4,rfl,rfl⟩:=hp2
 refine sg0 hS 1 [] [19] [.bool (!y1)] [] (by kernel_rfl) fun s hS=>(KW.nil ?_)
 refine bc h (fun hc5 h=>?_) fun hc5 h=>?_
 refine WW.condK hS rfl hc5 (WW.seq ?_)
 refine WW.region (sg0 hS 1 [] [6] [.bool false] [] (by kernel_rfl) fun s hS=>?_)
 refine KW.nil (WW.ret ?_)
 cases h
 exact ax hS (.inr rfl) 6 rfl rfl ⟨(hF4),rfl,rfl⟩
 refine WW.condF hS rfl hc5 (WW.skip ?_)
 refine WW.seq (WW.seq ?_)
 refine WW.region ?_
 obtain⟨y6,hy6,h⟩:=bind_some h
 refine cR (g_2.ok hy6) hS 1 21 0 rfl (by kernel_rfl) fun s hS=>(sg0 hS 2 [] [23] [.bool (!y6)] [] (by kernel_rfl) fun s hS=>?_)
 refine ay 4 (fun s=>Stt EV s [(27,.bool ((!y6)||(decide ((pB.length:Int)>200)))),(0,aa pA),(1,aa pB),(2,aa pC),(6,.bool false)] [] F3 L F nx0) ?_ fun s hS=>?_
 rcases aj ((!y6)) with hcj | hcj
 replace hS:=hS.know (t:=23) rfl (congrArg Value.bool hcj)
 refine sg0 hS 4 [] [27] [.bool true] [] (by kernel_rfl) fun s hS=>(KW.nil ?_)
 exact(hS.know (t:=27) (u':= .bool ((!y6)||(decide ((pB.length:Int)>200)))) rfl (bH hcj)).subR rfl
 replace hS:=hS.know (t:=23) rfl (congrArg Value.bool hcj)
 refine sg0 hS 4 [] [27] [.bool (decide ((pB.length:Int)>200))] [] (by kernel_rfl) fun s hS=>(KW.nil ?_)
 exact(hS.know (t:=27) (u':= .bool ((!y6)||(decide ((pB.length:Int)>200)))) rfl (bI hcj)).subR rfl
 refine sg0 hS 1 [] [28] [.bool ((!y6)||(decide ((pB.length:Int)>200)))] [] (by kernel_rfl) fun s hS=>(ay 4 (fun s=>Stt EV s [(32,.bool (((!y6)||(decide ((pB.length:Int)>200)))||(decide ((pC.length:Int)>200)))),(0,aa pA),(1,aa pB),(2,aa pC),(6,.bool false)] [] F3 L F nx0) ?_ fun s hS=>?_)
 rcases aj (((!y6)||(decide ((pB.length:Int)>200)))) with hcj | hcj
 replace hS:=hS.know (t:=27) rfl (congrArg Value.bool hcj)
 replace hS:=hS.know (t:=28) rfl (congrArg Value.bool hcj)
 refine sg0 hS 4 [] [32] [.bool true] [] (by kernel_rfl) fun s hS=>(KW.nil ?_)
 exact(hS.know (t:=32) (u':= .bool (((!y6)||(decide ((pB.length:Int)>200)))||(decide ((pC.length:Int)>200)))) rfl (bH hcj)).subR rfl
 replace hS:=hS.know (t:=27) rfl (congrArg Value.bool hcj)
 replace hS:=hS.know (t:=28) rfl (congrArg Value.bool hcj)
 refine sg0 hS 4 [] [32] [.bool (decide ((pC.length:Int)>200))] [] (by kernel_rfl) fun s hS=>(KW.nil ?_)
 exact(hS.know (t:=32) (u':= .bool (((!y6)||(decide ((pB.length:Int)>200)))||(decide ((pC.length:Int)>200)))) rfl (bI hcj)).subR rfl
 refine sg0 hS 1 [] [33] [.bool (((!y6)||(decide ((pB.length:Int)>200)))||(decide ((pC.length:Int)>200)))] [] (by kernel_rfl) fun s hS=>(bc h (fun hc8 h=>?_) fun hc8 h=>?_)
 replace hS:=hS.kb 32 hc8 rfl
 replace hS:=hS.kb 33 hc8 rfl
 refine sg0 hS 11 [] [44] [.bool true] [] (by kernel_rfl) fun s hS=>(KW.nil ?_)
 refine WW.condK hS rfl rfl (WW.seq ?_)
 refine WW.region (sg0 hS 1 [] [6] [.bool true] [] (by kernel_rfl) fun s hS=>?_)
 refine KW.nil (WW.ret ?_)
 cases h
 exact ax hS (.inr rfl) 6 rfl rfl ⟨(hF4),rfl,rfl⟩
 replace hS:=hS.kb 32 hc8 rfl
 replace hS:=hS.kb 33 hc8 rfl
 refine sg0 hS 1 [] [34] [aa pB] [] (by kernel_rfl) fun s hS=>?_
 obtain⟨y9,hy9,h⟩:=bind_some h
 refine bu hS (wt hS rfl rfl rfl rfl) (vs:=[aa pB]) (ws:=[aa pB]) rfl rfl rfl rfl rfl 0 rfl (g_2e.ok hy9) fun s v S' F' hp10 hF hS=>?_
 obtain⟨a11,z12,B14,a15,z16,B18,rfl,rfl,rfl,h13,h17⟩:=hp10
 refine sg0 hS 4 [] [39] [.bool (y9.2.2.2.2 != 0)] [] (by kernel_rfl) fun s hS=>(bc h (fun hc19 h=>?_) fun hc19 h=>?_)
 replace hS:=hS.kb 39 hc19 rfl
 refine sg0 hS 5 [] [44] [.bool true] [] (by kernel_rfl) fun s hS=>(KW.nil ?_)
 refine WW.condK hS rfl rfl (WW.seq ?_)
 refine WW.region (sg0 hS 1 [] [6] [.bool true] [] (by kernel_rfl) fun s hS=>?_)
 refine KW.nil (WW.ret ?_)
 replace hS:=hS.drop
 replace hS:=hS.drop
 cases h
 exact ax hS (.inr rfl) 6 rfl rfl ⟨(hF4),rfl,rfl⟩
 replace hS:=hS.kb 39 hc19 rfl
 refine sg0 hS 1 [] [40] [aa pC] [] (by kernel_rfl) fun s hS=>?_
 obtain⟨y20,hy20,h⟩:=bind_some h
 refine bu hS (wt hS rfl rfl rfl rfl) (vs:=[aa pC]) (ws:=[aa pC]) rfl rfl rfl rfl rfl 0 rfl (g_2e.ok hy20) fun s v S' F' hp21 hF hS=>?_
 obtain⟨a22,z23,B25,a26,z27,B29,rfl,rfl,rfl,h24,h28⟩:=hp21
 refine sg0 hS 3 [] [44] [.bool (y20.2.2.2.2 != 0)] [] (by kernel_rfl) fun s hS=>(KW.nil ?_)
 refine bc h (fun hc30 h=>?_) fun hc30 h=>?_
 refine WW.condK hS rfl hc30 (WW.seq ?_)
 refine WW.region (sg0 hS 1 [] [6] [.bool true] [] (by kernel_rfl) fun s hS=>?_)
 refine KW.nil (WW.ret ?_)
 replace hS:=hS.drop
 replace hS:=hS.drop
 replace hS:=hS.drop
 replace hS:=hS.drop
 cases h
 exact ax hS (.inr rfl) 6 rfl rfl ⟨(hF4),rfl,rfl⟩
 refine WW.condF hS rfl hc30 (WW.skip ?_)
 refine WW.seq (WW.seq ?_)
 refine WW.region (sg0 hS 1 [] [7] [.int .i64 0] [] (by kernel_rfl) fun s hS=>?_)
 refine KW.nil (WW.block ?_)
 obtain⟨o34,ho34,h⟩:=bind_some h
 refine WW.loop (LW.iterS ho34 (fun(x31:Int) s=> ∃(F32:FZ),Stt EV s [(0,aa pA),(1,aa pB),(2,aa pC),(6,.bool false),(7,.int .i64 x31)] [B25,B29,B14,B18] F32 L F nx0∧FLe F3 F32) 0 (fun r=>ej EV Tryz.f10 L F nx0 (fun v S' F'=>FLe F F'∧v= .bool r∧S'= [])) ⟨_,(hS.subR rfl),(FLe.refl _)⟩ ?_ ?_)
 clear hS
 rintro x31 s ⟨F32,hS,hF33⟩ o34' h38
 unfold g_2c.b0 at h38
 refine WW.seq (WW.seq ?_)
 refine WW.region (sg0 hS 2 [] [46] [.bool (decide (x31<2))] [] (by kernel_rfl) fun s hS=>?_)
 refine KW.nil (bc h38 (fun hc39 h38=>?_) fun hc39 h38=>?_)
 refine WW.condK hS rfl hc39 (WW.skip ?_)
 refine WW.seq (WW.block ?_)
 refine WW.seq (WW.region ?_)
 refine sg0 hS 1 [] [49] [aa pA] [] (by kernel_rfl) fun s hS=>?_
 obtain⟨hk40,h38⟩:=ac h38
 refine aw hS (wn rfl) rfl rfl rfl (v:=aa (pA++ [61])) (bS (hS.lk rfl) (hS.lk rfl) hk40) fun s hS=>(sg0 hS 1 [] [51] [aa pC] [] (by kernel_rfl) fun s hS=>?_)
 obtain⟨hk41,h38⟩:=ac h38
 refine aw hS (wn rfl) rfl rfl rfl (v:=aa ((pA++ [61])++pC)) (bS (hS.lk rfl) (hS.lk rfl) hk41) fun s hS=>(sg0 hS 1 [] [8] [aa ((pA++ [61])++pC)] [] (by kernel_rfl) fun s hS=>?_)
 refine KW.nil ?_
 obtain⟨z42,hz42,h38⟩:=bind_some h38
 refine WW.seqJ (fun s=>Stt EV s [(0,aa pA),(1,aa pB),(2,aa pC),(6,.bool false),(7,.int .i64 x31),(8,aa z42)] [B25,B29,B14,B18] F32 L F nx0) ?_ ?_
 refine WW.seq (WW.region ?_)
 refine sg0 hS 2 [] [54] [.bool (x31==1)] [] (by kernel_rfl) fun s hS=>(KW.nil ?_)
 refine bc hz42 (fun hc43 hz42=>?_) fun hc43 hz42=>?_
 refine WW.condK hS rfl hc43 (WW.region ?_)
 refine sg0 hS 1 [] [55] [aa pA] [] (by kernel_rfl) fun s hS=>?_
 obtain⟨hk44,hz42⟩:=ac hz42
 refine aw hS (wn rfl) rfl rfl rfl (v:=aa (pA++ [40])) (bS (hS.lk rfl) (hS.lk rfl) hk44) fun s hS=>(sg0 hS 1 [] [57] [aa pB] [] (by kernel_rfl) fun s hS=>?_)
 obtain⟨hk45,hz42⟩:=ac hz42
 refine aw hS (wn rfl) rfl rfl rfl (v:=aa ((pA++ [40])++pB)) (bS (hS.lk rfl) (hS.lk rfl) hk45) fun s hS=>?_
 obtain⟨hk46,hz42⟩:=ac hz42
 refine aw hS (wn rfl) rfl rfl rfl (v:=aa (((pA++ [40])++pB)++ [41,61])) (bS (hS.lk rfl) (hS.lk rfl) hk46) fun s hS=>(sg0 hS 1 [] [60] [aa pC] [] (by kernel_rfl) fun s hS=>?_)
 obtain⟨hk47,hz42⟩:=ac hz42
 refine aw hS (wn rfl) rfl rfl rfl (v:=aa ((((pA++ [40])++pB)++ [41,61])++pC)) (bS (hS.lk rfl) (hS.lk rfl) hk47) fun s hS=>(sg0 hS 1 [] [8] [aa ((((pA++ [40])++pB)++ [41,61])++pC)] [] (by kernel_rfl) fun s hS=>?_)
 refine KW.nil ?_
 obtain rfl:=Option.some.inj hz42
 exact(hS.subR rfl)
 refine WW.condF hS rfl hc43 (WW.skip ?_)
 obtain rfl:=Option.some.inj hz42
 exact(hS.subR rfl)
 rintro s hS
 refine WW.seq (WW.region ?_)
 obtain⟨y48,hy48,h38⟩:=bind_some h38
 refine cK (g_d.ok hy48 (hG.mono (FLe.trans hF4 hF33))) hS 1 64 0 rfl (by kernel_rfl) fun s v S' F50 hp49 hF hS=>?_
 obtain⟨a51,z52,B54,hF55,rfl,rfl,h53⟩:=hp49
 refine sg0 hS 5 [] [9,10] [.slice a51 y48.1.length z52,.int .i64 y48.2] [] (by kernel_rfl) fun s hS=>(KW.nil ?_)
 refine WW.seq (WW.seq ?_)
 refine WW.region (sg0 hS 3 [] [69] [.bool (y48.2 != 0)] [] (by kernel_rfl) fun s hS=>?_)
 refine ay 3 (fun s=>Stt EV s [(72,.bool ((y48.2 != 0)||(decide (pC= [])))),(0,aa pA),(1,aa pB),(2,aa pC),(6,.bool false),(7,.int .i64 x31),(8,aa z42),(9,.slice a51 y48.1.length z52)] [B54,B25,B29,B14,B18] F50 L F nx0) ?_ fun s hS=>?_
 rcases aj ((y48.2 != 0)) with hcj | hcj
 replace hS:=hS.know (t:=69) rfl (congrArg Value.bool hcj)
 refine sg0 hS 3 [] [72] [.bool true] [] (by kernel_rfl) fun s hS=>(KW.nil ?_)
 exact(hS.know (t:=72) (u':= .bool ((y48.2 != 0)||(decide (pC= [])))) rfl (bH hcj)).subR rfl
 replace hS:=hS.know (t:=69) rfl (congrArg Value.bool hcj)
 refine sg0 hS 1 [] [70] [aa pC] [] (by kernel_rfl) fun s hS=>(aw hS (wt hS rfl rfl rfl rfl) rfl rfl rfl (v:= .bool (decide (pC= []))) (gV (hS.lk rfl) (hS.lk rfl)) fun s hS=>?_)
 refine sg0 hS 1 [] [72] [.bool (decide (pC= []))] [] (by kernel_rfl) fun s hS=>(KW.nil ?_)
 exact(hS.know (t:=72) (u':= .bool ((y48.2 != 0)||(decide (pC= [])))) rfl (bI hcj)).subR rfl
 refine KW.nil (bc h38 (fun hc56 h38=>?_) fun hc56 h38=>?_)
 refine WW.condK hS rfl hc56 (WW.exit ?_)
 refine ae (af ?_)
 refine WW.region (sg0 hS 3 [] [7] [.int .i64 (w64 (x31+1))] [] (by kernel_rfl) fun s hS=>?_)
 refine KW.nil ?_
 replace hS:=hS.drop
 obtain rfl:=Option.some.inj h38
 exact⟨_,rfl,_,(hS.subR rfl),(FLe.trans hF33 hF55)⟩
 refine WW.condF hS rfl hc56 (WW.skip ?_)
 refine WW.seq (WW.region ?_)
 refine sg0 hS 7 [] [11] [.int .i64 (w64 ((w64 ((z42.length:Int)-(pC.length:Int)))-1))] [] (by kernel_rfl) fun s hS=>(KW.nil ?_)
 refine WW.seq (WW.seq ?_)
 refine WW.region (sg0 hS 2 [] [79,80] [.slice a51 y48.1.length z52,.int .i64 (w64 ((w64 ((z42.length:Int)-(pC.length:Int)))-1))] [] (by kernel_rfl) fun s hS=>?_)
 refine bA hS (wn rfl) rfl rfl rfl (v:=fun i=> .slice (some ⟨i,0,none⟩) 1 1) (b:= .row [.int .i64 (w64 ((w64 ((z42.length:Int)-(pC.length:Int)))-1))] 3 1 true) (aW iM tz3 gp rfl [(0,.int .i64 (w64 ((w64 ((z42.length:Int)-(pC.length:Int)))-1)))] (av hS rfl) rfl) fun s i57 hS=>?_
 have hC58:ai (elI .i64 3) F50 ([(w64 ((w64 ((z42.length:Int)-(pC.length:Int)))-1))]:List Int) [.int .i64 (w64 ((w64 ((z42.length:Int)-(pC.length:Int)))-1))]:=⟨[.int .i64 (w64 ((w64 ((z42.length:Int)-(pC.length:Int)))-1))],[],rfl,rfl,rfl⟩
 replace hS:=hS.pull 1
 obtain⟨F59,hF60,hS,hz61⟩:=hS.frzO h53
 obtain⟨F62,hF63,hS,hz64⟩:=hS.frzO (Own.blk0 (hC58.mono hF60))
 obtain⟨y65,hy65,h38⟩:=bind_some h38
 refine cR (g_1.ok hy65 (hz61.mono hF63) hz64) hS 0 82 0 rfl (by kernel_rfl) fun s hS=>(sg0 hS 1 [] [83] [.bool (!y65)] [] (by kernel_rfl) fun s hS=>?_)
 refine KW.nil (bc h38 (fun hc67 h38=>?_) fun hc67 h38=>?_)
 refine WW.condK hS rfl hc67 (WW.exit ?_)
 refine ae (af ?_)
 refine WW.region (sg0 hS 3 [] [7] [.int .i64 (w64 (x31+1))] [] (by kernel_rfl) fun s hS=>?_)
 refine KW.nil ?_
 obtain rfl:=Option.some.inj h38
 exact⟨_,rfl,_,(hS.subR rfl),(FLe.trans hF33 (FLe.trans hF55 (FLe.trans hF60 hF63)))⟩
 refine WW.condF hS rfl hc67 (WW.skip ?_)
 refine WW.seq (WW.region ?_)
 obtain⟨y68,hy68,h38⟩:=bind_some h38
 refine cK (g_c.ok hy68 (hG.mono (FLe.trans hF4 (FLe.trans hF33 (FLe.trans hF55 (FLe.trans hF60 hF63)))))) hS 1 86 0 rfl (by kernel_rfl) fun s v S' F70 hp69 hF hS=>?_
 obtain⟨a71,z72,B74,hF75,rfl,rfl,h73⟩:=hp69
 refine sg0 hS 5 [] [12,13] [.slice a71 y68.1.length z72,.int .i64 y68.2] [] (by kernel_rfl) fun s hS=>(KW.nil ?_)
 refine WW.seq (WW.region ?_)
 refine sg0 hS 1 [] [14] [.bool true] [] (by kernel_rfl) fun s hS=>(KW.nil ?_)
 refine WW.seq (WW.seq ?_)
 refine WW.region (sg0 hS 3 [] [91] [.bool (y68.2==0)] [] (by kernel_rfl) fun s hS=>?_)
 refine ay 6 (fun s=>Stt EV s [(97,.bool ((y68.2==0)&&((y68.1.length:Int) != (z42.length:Int)))),(0,aa pA),(1,aa pB),(2,aa pC),(6,.bool false),(7,.int .i64 x31),(8,aa z42),(11,.int .i64 (w64 ((w64 ((z42.length:Int)-(pC.length:Int)))-1))),(12,.slice a71 y68.1.length z72),(13,.int .i64 y68.2),(14,.bool true)] [B74,B25,B29,B14,B18] F70 L F nx0) ?_ fun s hS=>?_
 rcases aj ((y68.2==0)) with hcj | hcj
 replace hS:=hS.know (t:=91) rfl (congrArg Value.bool hcj)
 refine sg0 hS 6 [] [97] [.bool ((y68.1.length:Int) != (z42.length:Int))] [] (by kernel_rfl) fun s hS=>(KW.nil ?_)
 exact(hS.know (t:=97) (u':= .bool ((y68.2==0)&&((y68.1.length:Int) != (z42.length:Int)))) rfl (aJ hcj)).subR rfl
 replace hS:=hS.know (t:=91) rfl (congrArg Value.bool hcj)
 refine sg0 hS 6 [] [97] [.bool false] [] (by kernel_rfl) fun s hS=>(KW.nil ?_)
 exact(hS.know (t:=97) (u':= .bool ((y68.2==0)&&((y68.1.length:Int) != (z42.length:Int)))) rfl (aL hcj)).subR rfl
 refine KW.nil (bc h38 (fun hc76 h38=>?_) fun hc76 h38=>?_)
 refine WW.condK hS rfl hc76 (WW.seq ?_)
 refine WW.region (sg0 hS 1 [] [6] [.bool false] [] (by kernel_rfl) fun s hS=>?_)
 refine KW.nil (WW.ret ?_)
 replace hS:=hS.drop
 replace hS:=hS.drop
 replace hS:=hS.drop
 replace hS:=hS.drop
 replace hS:=hS.drop
 cases h38
 exact⟨_,rfl,rfl,ax hS (.inr rfl) 6 rfl rfl ⟨((FLe.trans hF4 (FLe.trans hF33 (FLe.trans hF55 (FLe.trans hF60 (FLe.trans hF63 hF75)))))),rfl,rfl⟩⟩
 refine WW.condF hS rfl hc76 (WW.skip ?_)
 refine WW.seq (WW.seq ?_)
 refine WW.region (sg0 hS 4 [] [15] [.int .i64 (w64 ((pA.length:Int)+1))] [] (by kernel_rfl) fun s hS=>?_)
 refine KW.nil (WW.block ?_)
 obtain⟨o78,ho78,h38⟩:=bind_some h38
 refine WW.loop (LW.iterE ho78 (fun(x77:Bool×Int) s=>Stt EV s [(0,aa pA),(1,aa pB),(2,aa pC),(6,.bool false),(7,.int .i64 x31),(8,aa z42),(11,.int .i64 (w64 ((w64 ((z42.length:Int)-(pC.length:Int)))-1))),(12,.slice a71 y68.1.length z72),(13,.int .i64 y68.2),(14,.bool x77.1),(15,.int .i64 x77.2)] [B74,B25,B29,B14,B18] F70 L F nx0) 2 (hS.subR rfl) ?_ ?_)
 clear hS
 rintro x77 s hS o78' h80
 unfold g_2c.b1 at h80
 refine WW.seq (WW.seq ?_)
 refine WW.region (sg0 hS 5 [] [105] [.bool (decide (x77.2<(w64 ((w64 ((w64 ((z42.length:Int)-(pC.length:Int)))-1))-1))))] [] (by kernel_rfl) fun s hS=>?_)
 refine ay 3 (fun s=>Stt EV s [(108,.bool ((decide (x77.2<(w64 ((w64 ((w64 ((z42.length:Int)-(pC.length:Int)))-1))-1))))&&(x31==1))),(0,aa pA),(1,aa pB),(2,aa pC),(6,.bool false),(7,.int .i64 x31),(8,aa z42),(11,.int .i64 (w64 ((w64 ((z42.length:Int)-(pC.length:Int)))-1))),(12,.slice a71 y68.1.length z72),(13,.int .i64 y68.2),(14,.bool x77.1),(15,.int .i64 x77.2)] [B74,B25,B29,B14,B18] F70 L F nx0) ?_ fun s hS=>?_
 rcases aj ((decide (x77.2<(w64 ((w64 ((w64 ((z42.length:Int)-(pC.length:Int)))-1))-1))))) with hcj | hcj
 replace hS:=hS.know (t:=105) rfl (congrArg Value.bool hcj)
 refine sg0 hS 3 [] [108] [.bool (x31==1)] [] (by kernel_rfl) fun s hS=>(KW.nil ?_)
 exact(hS.know (t:=108) (u':= .bool ((decide (x77.2<(w64 ((w64 ((w64 ((z42.length:Int)-(pC.length:Int)))-1))-1))))&&(x31==1))) rfl (aJ hcj)).subR rfl
 replace hS:=hS.know (t:=105) rfl (congrArg Value.bool hcj)
 refine sg0 hS 3 [] [108] [.bool false] [] (by kernel_rfl) fun s hS=>(KW.nil ?_)
 exact(hS.know (t:=108) (u':= .bool ((decide (x77.2<(w64 ((w64 ((w64 ((z42.length:Int)-(pC.length:Int)))-1))-1))))&&(x31==1))) rfl (aL hcj)).subR rfl
 refine sg0 hS 1 [] [109] [.bool ((decide (x77.2<(w64 ((w64 ((w64 ((z42.length:Int)-(pC.length:Int)))-1))-1))))&&(x31==1))] [] (by kernel_rfl) fun s hS=>(ay 3 (fun s=>Stt EV s [(112,.bool (((decide (x77.2<(w64 ((w64 ((w64 ((z42.length:Int)-(pC.length:Int)))-1))-1))))&&(x31==1))&&(y68.2==0))),(0,aa pA),(1,aa pB),(2,aa pC),(6,.bool false),(7,.int .i64 x31),(8,aa z42),(11,.int .i64 (w64 ((w64 ((z42.length:Int)-(pC.length:Int)))-1))),(12,.slice a71 y68.1.length z72),(13,.int .i64 y68.2),(14,.bool x77.1),(15,.int .i64 x77.2)] [B74,B25,B29,B14,B18] F70 L F nx0) ?_ fun s hS=>?_)
 rcases aj (((decide (x77.2<(w64 ((w64 ((w64 ((z42.length:Int)-(pC.length:Int)))-1))-1))))&&(x31==1))) with hcj | hcj
 replace hS:=hS.know (t:=108) rfl (congrArg Value.bool hcj)
 replace hS:=hS.know (t:=109) rfl (congrArg Value.bool hcj)
 refine sg0 hS 3 [] [112] [.bool (y68.2==0)] [] (by kernel_rfl) fun s hS=>(KW.nil ?_)
 exact(hS.know (t:=112) (u':= .bool (((decide (x77.2<(w64 ((w64 ((w64 ((z42.length:Int)-(pC.length:Int)))-1))-1))))&&(x31==1))&&(y68.2==0))) rfl (aJ hcj)).subR rfl
 replace hS:=hS.know (t:=108) rfl (congrArg Value.bool hcj)
 replace hS:=hS.know (t:=109) rfl (congrArg Value.bool hcj)
 refine sg0 hS 3 [] [112] [.bool false] [] (by kernel_rfl) fun s hS=>(KW.nil ?_)
 exact(hS.know (t:=112) (u':= .bool (((decide (x77.2<(w64 ((w64 ((w64 ((z42.length:Int)-(pC.length:Int)))-1))-1))))&&(x31==1))&&(y68.2==0))) rfl (aL hcj)).subR rfl
 refine KW.nil (bc h80 (fun hc81 h80=>?_) fun hc81 h80=>?_)
 refine WW.condK hS rfl hc81 (WW.skip ?_)
 refine WW.seq (WW.block ?_)
 refine WW.region (sg0 hS 2 [] [116] [.bool x77.1] [] (by kernel_rfl) fun s hS=>?_)
 refine bc h80 (fun hc82 h80=>?_) fun hc82 h80=>?_
 replace hS:=hS.kb 14 hc82 rfl
 replace hS:=hS.kb 116 hc82 rfl
 refine sg0 hS 2 [] [117,118] [.slice a71 y68.1.length z72,.int .i64 x77.2] [] (by kernel_rfl) fun s hS=>?_
 obtain⟨hk83,h80⟩:=ac h80
 obtain⟨i89,cs90,ex91,rfl,rfl,rfl,hC92⟩:=Own.some_ h73 (by omega)
 obtain⟨c84,hR85,hN87,hN86,hT88⟩:=ai.loadF hC92 ex91 hk83 (z:=1) rfl
 obtain rfl:=hR85
 refine aw hS (wt hS rfl rfl rfl rfl) rfl rfl rfl (v:= .pointer (some ⟨i89,0+(x77.2).toNat*1,none⟩)) (aF (hS.lk rfl) (hS.lk rfl) dj hk83) fun s hS=>(eu hS (wt hS rfl rfl rfl rfl) rfl rfl rfl (hS.at (k:=0) rfl) tg3 (v:= .int .i64 (gt y68.1 x77.2)) hN86 fun s hS=>?_)
 refine sg0 hS 3 [] [14] [.bool ((gt y68.1 x77.2) != 0)] [] (by kernel_rfl) fun s hS=>(KW.nil ?_)
 refine WW.region (sg0 hS 3 [] [15] [.int .i64 (w64 (x77.2+1))] [] (by kernel_rfl) fun s hS=>?_)
 refine KW.nil ?_
 obtain rfl:=Option.some.inj h80
 exact⟨_,rfl,(hS.subR rfl)⟩
 replace hS:=hS.kb 14 hc82 rfl
 replace hS:=hS.kb 116 hc82 rfl
 refine sg0 hS 7 [] [14] [.bool false] [] (by kernel_rfl) fun s hS=>(KW.nil ?_)
 refine WW.region (sg0 hS 3 [] [15] [.int .i64 (w64 (x77.2+1))] [] (by kernel_rfl) fun s hS=>?_)
 refine KW.nil ?_
 obtain rfl:=Option.some.inj h80
 exact⟨_,rfl,(hS.subR rfl)⟩
 refine WW.condF hS rfl hc81 (WW.exit ?_)
 refine ae ?_
 obtain rfl:=Option.some.inj h80
 exact⟨_,rfl,rfl,(hS.subR rfl)⟩
 clear hS
 rintro e s ⟨rfl,hS⟩
 refine af (WW.seq ?_)
 refine WW.seq (WW.region ?_)
 refine sg0 hS 3 [] [125] [.bool (y68.2 != 0)] [] (by kernel_rfl) fun s hS=>(ay 3 (fun s=>Stt EV s [(128,.bool ((y68.2 != 0)||(!o78.1))),(0,aa pA),(1,aa pB),(2,aa pC),(6,.bool false),(7,.int .i64 x31),(8,aa z42)] [B74,B25,B29,B14,B18] F70 L F nx0) ?_ fun s hS=>?_)
 rcases aj ((y68.2 != 0)) with hcj | hcj
 replace hS:=hS.know (t:=125) rfl (congrArg Value.bool hcj)
 refine sg0 hS 3 [] [128] [.bool true] [] (by kernel_rfl) fun s hS=>(KW.nil ?_)
 exact(hS.know (t:=128) (u':= .bool ((y68.2 != 0)||(!o78.1))) rfl (bH hcj)).subR rfl
 replace hS:=hS.know (t:=125) rfl (congrArg Value.bool hcj)
 refine sg0 hS 3 [] [128] [.bool (!o78.1)] [] (by kernel_rfl) fun s hS=>(KW.nil ?_)
 exact(hS.know (t:=128) (u':= .bool ((y68.2 != 0)||(!o78.1))) rfl (bI hcj)).subR rfl
 refine KW.nil (bc h38 (fun hc93 h38=>?_) fun hc93 h38=>?_)
 refine WW.condK hS rfl hc93 (WW.exit ?_)
 refine ae (af ?_)
 refine WW.region (sg0 hS 3 [] [7] [.int .i64 (w64 (x31+1))] [] (by kernel_rfl) fun s hS=>?_)
 refine KW.nil ?_
 replace hS:=hS.drop
 obtain rfl:=Option.some.inj h38
 exact⟨_,rfl,_,(hS.subR rfl),(FLe.trans hF33 (FLe.trans hF55 (FLe.trans hF60 (FLe.trans hF63 hF75))))⟩
 refine WW.condF hS rfl hc93 (WW.skip ?_)
 refine WW.seq (WW.region ?_)
 obtain⟨y94,hy94,h38⟩:=bind_some h38
 refine cK (g_b.ok hy94 (hG.mono (FLe.trans hF4 (FLe.trans hF33 (FLe.trans hF55 (FLe.trans hF60 (FLe.trans hF63 hF75))))))) hS 1 131 0 rfl (by kernel_rfl) fun s v S' F96 hp95 hF hS=>?_
 obtain⟨a97,z98,hF100,rfl,rfl,h99⟩:=hp95
 refine sg0 hS 3 [] [132,133] [.agg #[.int .i64 y94.1,.int .i64 y94.2.1,.slice a97 y94.2.2.1.length z98],.int .i64 y94.2.2.2] [] (by kernel_rfl) fun s hS=>(bA hS (wn rfl) rfl rfl rfl (v:=fun i=> .pointer (some ⟨i,0,none⟩)) (b:= .row [.int .i64 0,.int .i64 0,.slice none 0 0] 24 0 true) (bf dw) fun s i101 hS=>?_)
 refine sg hS 2 [0] [17] [.int .i64 y94.2.2.2] [i101] [[(i101,.row [.int .i64 y94.1,.int .i64 y94.2.1,.slice a97 y94.2.2.1.length z98] 24 0 true)],B74,B25,B29,B14,B18] (by kernel_rfl) fun s hS=>(KW.nil ?_)
 refine WW.seq (WW.region ?_)
 refine sg0 hS 3 [] [136] [.bool (y94.2.2.2 != 0)] [] (by kernel_rfl) fun s hS=>(ay 4 (fun s=>Stt EV s [(140,.bool ((y94.2.2.2 != 0)||(y94.1 != 0))),(0,aa pA),(1,aa pB),(2,aa pC),(6,.bool false),(7,.int .i64 x31),(16,.pointer (some ⟨i101,0,none⟩))] [[(i101,.row [.int .i64 y94.1,.int .i64 y94.2.1,.slice a97 y94.2.2.1.length z98] 24 0 true)],B74,B25,B29,B14,B18] F96 L F nx0) ?_ fun s hS=>?_)
 rcases aj ((y94.2.2.2 != 0)) with hcj | hcj
 replace hS:=hS.know (t:=136) rfl (congrArg Value.bool hcj)
 refine sg0 hS 4 [] [140] [.bool true] [] (by kernel_rfl) fun s hS=>(KW.nil ?_)
 exact(hS.know (t:=140) (u':= .bool ((y94.2.2.2 != 0)||(y94.1 != 0))) rfl (bH hcj)).subR rfl
 replace hS:=hS.know (t:=136) rfl (congrArg Value.bool hcj)
 refine sg0 hS 4 [0] [140] [.bool (y94.1 != 0)] [i101] (by kernel_rfl) fun s hS=>(KW.nil ?_)
 exact(hS.know (t:=140) (u':= .bool ((y94.2.2.2 != 0)||(y94.1 != 0))) rfl (bI hcj)).subR rfl
 refine sg0 hS 1 [] [141] [.bool ((y94.2.2.2 != 0)||(y94.1 != 0))] [] (by kernel_rfl) fun s hS=>(ay 5 (fun s=>Stt EV s [(146,.bool (((y94.2.2.2 != 0)||(y94.1 != 0))||((y94.2.2.1.length:Int) != 0))),(0,aa pA),(1,aa pB),(2,aa pC),(6,.bool false),(7,.int .i64 x31)] [[(i101,.row [.int .i64 y94.1,.int .i64 y94.2.1,.slice a97 y94.2.2.1.length z98] 24 0 true)],B74,B25,B29,B14,B18] F96 L F nx0) ?_ fun s hS=>?_)
 rcases aj (((y94.2.2.2 != 0)||(y94.1 != 0))) with hcj | hcj
 replace hS:=hS.know (t:=140) rfl (congrArg Value.bool hcj)
 replace hS:=hS.know (t:=141) rfl (congrArg Value.bool hcj)
 refine sg0 hS 5 [] [146] [.bool true] [] (by kernel_rfl) fun s hS=>(KW.nil ?_)
 exact(hS.know (t:=146) (u':= .bool (((y94.2.2.2 != 0)||(y94.1 != 0))||((y94.2.2.1.length:Int) != 0))) rfl (bH hcj)).subR rfl
 replace hS:=hS.know (t:=140) rfl (congrArg Value.bool hcj)
 replace hS:=hS.know (t:=141) rfl (congrArg Value.bool hcj)
 refine sg0 hS 5 [0] [146] [.bool ((y94.2.2.1.length:Int) != 0)] [i101] (by kernel_rfl) fun s hS=>(KW.nil ?_)
 exact(hS.know (t:=146) (u':= .bool (((y94.2.2.2 != 0)||(y94.1 != 0))||((y94.2.2.1.length:Int) != 0))) rfl (bI hcj)).subR rfl
 refine KW.nil (bc h38 (fun hc102 h38=>?_) fun hc102 h38=>?_)
 refine WW.condK hS rfl hc102 (WW.seq ?_)
 refine WW.region (sg0 hS 1 [] [6] [.bool false] [] (by kernel_rfl) fun s hS=>?_)
 refine KW.nil (WW.ret ?_)
 replace hS:=hS.drop
 replace hS:=hS.drop
 replace hS:=hS.drop
 replace hS:=hS.drop
 replace hS:=hS.drop
 replace hS:=hS.drop
 cases h38
 exact⟨_,rfl,rfl,ax hS (.inr rfl) 6 rfl rfl ⟨((FLe.trans hF4 (FLe.trans hF33 (FLe.trans hF55 (FLe.trans hF60 (FLe.trans hF63 (FLe.trans hF75 hF100))))))),rfl,rfl⟩⟩
 refine WW.condF hS rfl hc102 (WW.skip ?_)
 refine WW.region (sg0 hS 3 [] [7] [.int .i64 (w64 (x31+1))] [] (by kernel_rfl) fun s hS=>?_)
 refine KW.nil ?_
 replace hS:=hS.drop
 replace hS:=hS.drop
 obtain rfl:=Option.some.inj h38
 exact⟨_,rfl,_,(hS.subR rfl),(FLe.trans hF33 (FLe.trans hF55 (FLe.trans hF60 (FLe.trans hF63 (FLe.trans hF75 hF100)))))⟩
 refine WW.condF hS rfl hc39 (WW.exit ?_)
 refine ae ?_
 obtain rfl:=Option.some.inj h38
 exact⟨_,rfl,rfl,_,(hS.subR rfl),hF33⟩
 clear hS
 rcases o34 with y103 | y103
 rintro e s ⟨rfl,F104,hS,hF105⟩
 replace h:=bp h
 refine af (WW.seq ?_)
 refine WW.region (sg0 hS 1 [] [6] [.bool true] [] (by kernel_rfl) fun s hS=>?_)
 refine KW.nil (WW.ret ?_)
 replace hS:=hS.drop
 replace hS:=hS.drop
 replace hS:=hS.drop
 replace hS:=hS.drop
 cases h
 exact ax hS (.inr rfl) 6 rfl rfl ⟨((FLe.trans hF4 hF105)),rfl,rfl⟩
 rintro e s ⟨rfl,hfin⟩
 replace h:=bq h
 obtain rfl:=Option.some.inj h
 exact hfin
end Go.Proofs.YtcafgoomipkljaaGreatDoorAi
