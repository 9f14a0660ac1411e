import Derived.Test.YtjcbhbncncbdjaaGreatDoorApX1b
namespace Go.Proofs.YtjcbhbncncbdjaaGreatDoorAi
set_option maxHeartbeats 4000000
open Go Go.RowKit
set_option linter.unusedVariables false
set_option linter.unusedSimpArgs false
set_option maxRecDepth 100000
noncomputable def g_a.b1 (pA:List (Int×List UInt8×(List (Int×Int×Int)))) (pE:List (Int×List UInt8×(List (Int×Int×Int)))) (x4:Int) (x34:Int):Option ((Int)⊕((Int)⊕(Bool))) :=
  (if 0≤x4∧x4<(pA.length:Int) then(if(decide (x34<(((gt pA x4).2.2).length:Int))) then(if 0≤x4∧x4<(pA.length:Int) then(if 0≤x34∧x34<(((gt pA x4).2.2).length:Int) then(if 0≤x4∧x4<(pE.length:Int) then(if 0≤x34∧x34<(((gt pE x4).2.2).length:Int) then(if(!((((gt ((gt pA x4).2.2) x34).1)==((gt ((gt pE x4).2.2) x34).1))&&(((gt ((gt pA x4).2.2) x34).2.1)==((gt ((gt pE x4).2.2) x34).2.1))&&(((gt ((gt pA x4).2.2) x34).2.2)==((gt ((gt pE x4).2.2) x34).2.2)))) then some (.inr (.inr false)) else some (.inl (w64 (x34+1)))) else none) else none) else none) else none) else some (.inr (.inl x34))) else none)
noncomputable def g_a.b0 (pA:List (Int×List UInt8×(List (Int×Int×Int)))) (pE:List (Int×List UInt8×(List (Int×Int×Int)))) (x4:Int):Option ((Int)⊕((Int)⊕(Bool))) :=
  (if(decide (x4<(pA.length:Int))) then(if 0≤x4∧x4<(pA.length:Int) then(if 0≤x4∧x4<(pE.length:Int) then(if((((gt pA x4).2.2).length:Int) != (((gt pE x4).2.2).length:Int)) then some (.inr (.inr false)) else Option.bind (iter (g_a.b1 pA pE x4) 0) fun o35=>f4 o35 (fun r=>some (.inr (.inr r))) fun y88=>some (.inl (w64 (x4+1)))) else none) else none) else some (.inr (.inl x4)))
noncomputable def g_a.f (pA:List (Int×List UInt8×(List (Int×Int×Int)))) (pE:List (Int×List UInt8×(List (Int×Int×Int)))):Option (Bool) :=
  Option.bind (g_b.f pA pE) fun y1=>(if(!y1) then some false else Option.bind (iter (g_a.b0 pA pE) 0) fun o5=>bj o5 fun y89=>some true)
theorem g_a.ok {aC:Option Addr} {zD:Nat} {aI:Option Addr} {zJ:Nat} {pA:List (Int×List UInt8×(List (Int×Int×Int)))} {pE:List (Int×List UInt8×(List (Int×Int×Int)))} {F:FZ} {r:Bool} (h:g_a.f pA pE=some r) (hE:Frz bs F aC zD pA) (hK:Frz bs F aI zJ pE) :
    Cl EV 26 [.slice aC pA.length zD,.slice aI pE.length zJ] [] F (fun v S' F'=>F=F'∧v= .bool r∧S'= []):=by
 refine Cl.of Tryz.func26 rfl (fun _ _=>rfl) (by kernel_rfl) fun s L nx0 hS=>?_
 unfold g_a.f at h
 refine WW.seq (WW.region ?_)
 refine sg0 hS 1 [] [4] [.bool false] [] (by kernel_rfl) fun s hS=>(KW.nil ?_)
 refine WW.seq (WW.seq ?_)
 refine WW.region ?_
 obtain⟨y1,hy1,h⟩:=bind_some h
 refine cR (g_b.ok hy1 hE hK) hS 2 9 0 rfl (by kernel_rfl) fun s hS=>(sg0 hS 1 [] [10] [.bool (!y1)] [] (by kernel_rfl) fun s hS=>?_)
 refine KW.nil (bc h (fun hc3 h=>?_) fun hc3 h=>?_)
 refine WW.condK hS rfl hc3 (WW.seq ?_)
 refine WW.region (sg0 hS 1 [] [4] [.bool false] [] (by kernel_rfl) fun s hS=>?_)
 refine KW.nil (WW.ret ?_)
 cases h
 exact aS hS (.inr rfl) 4 rfl rfl ⟨rfl,rfl,rfl⟩
 refine WW.condF hS rfl hc3 (WW.skip ?_)
 refine WW.seq (WW.seq ?_)
 refine WW.region (sg0 hS 1 [] [5] [.int .i64 0] [] (by kernel_rfl) fun s hS=>?_)
 refine KW.nil (WW.block ?_)
 obtain⟨o5,ho5,h⟩:=bind_some h
 refine WW.loop (LW.iterS ho5 (fun(x4:Int) s=>Stt EV s [(0,.slice aC pA.length zD),(1,.slice aI pE.length zJ),(4,.bool false),(5,.int .i64 x4)] [] F L F nx0) 0 (fun r=>dq EV Tryz.f26 L F nx0 (fun v S' F'=>F=F'∧v= .bool r∧S'= [])) (hS.subR rfl) ?_ ?_)
 clear hS
 rintro x4 s hS o5' h7
 unfold g_a.b0 at h7
 refine WW.seq (WW.seq ?_)
 refine WW.region (sg0 hS 4 [] [14] [.bool (decide (x4<(pA.length:Int)))] [] (by kernel_rfl) fun s hS=>?_)
 refine KW.nil (bc h7 (fun hc8 h7=>?_) fun hc8 h7=>?_)
 refine WW.condK hS rfl hc8 (WW.skip ?_)
 refine WW.seq (WW.block ?_)
 refine WW.seq (WW.seq ?_)
 refine WW.regionD (i:=[[],[0],[],[],[],[],[5,4,3,2,1,0],[6,5,4,3,2,1,0],[5,4,3,2,1,0],[5,4,3,2,1,0],[5,4,3,2,1,0],[5,4,3,2,1,0],[]]) (by kernel_rfl) ?_
 have hq:=RS.start []
 refine kg hS hq 2 [17,18] [.slice aC pA.length zD,.int .i64 x4] (by kernel_rfl) fun s rs hS hq=>?_
 obtain⟨hk9,h7⟩:=ac h7
 obtain⟨i15,of16,rfl⟩:=Frz.addr hE (by omega)
 obtain⟨_,_,_,_,c10,hF17,hR11,hN12,hN13,hT14⟩:=Frz.at hE hk9 (m:=3) rfl
 obtain⟨a18,z19,rfl,hz20⟩:=hR11
 refine K.pu hS hq rfl (wn rfl) rfl rfl rfl (v:= .pointer (some ⟨i15,of16+(x4).toNat*3,none⟩)) (aW (hS.lk rfl) (hS.lk rfl) l3 hk9) fun s rs hS hq=>(K.pu hS hq rfl (wn rfl) rfl rfl rfl (v:= .pointer (some ⟨i15,of16+(x4).toNat*3+2,none⟩)) (cn (hS.lk rfl) jS rfl rfl) fun s rs hS hq=>?_)
 replace hq:=hq.more i15 rfl rfl rfl
 refine K.ld hS hq rfl (wn rfl) rfl rfl rfl (hS.fat hF17) nW (v:= .slice a18 ((gt pA x4).2.2).length z19) (hN13 2 (by decide)) 0 rfl rfl fun s rs hS hq=>(kg hS hq 3 [22,23,24] [.int .i64 (((gt pA x4).2.2).length:Int),.slice aI pE.length zJ,.int .i64 x4] (by kernel_rfl) fun s rs hS hq=>?_)
 obtain⟨hk21,h7⟩:=ac h7
 obtain⟨i27,of28,rfl⟩:=Frz.addr hK (by omega)
 obtain⟨_,_,_,_,c22,hF29,hR23,hN24,hN25,hT26⟩:=Frz.at hK hk21 (m:=3) rfl
 obtain⟨a30,z31,rfl,hz32⟩:=hR23
 refine K.pu hS hq rfl (wn rfl) rfl rfl rfl (v:= .pointer (some ⟨i27,of28+(x4).toNat*3,none⟩)) (aW (hS.lk rfl) (hS.lk rfl) l3 hk21) fun s rs hS hq=>(K.pu hS hq rfl (wn rfl) rfl rfl rfl (v:= .pointer (some ⟨i27,of28+(x4).toNat*3+2,none⟩)) (cn (hS.lk rfl) jS rfl rfl) fun s rs hS hq=>?_)
 replace hq:=hq.more i27 rfl rfl rfl
 refine K.ld hS hq rfl (wn rfl) rfl rfl rfl (hS.fat hF29) nW (v:= .slice a30 ((gt pE x4).2.2).length z31) (hN25 2 (by decide)) 1 rfl rfl fun s rs hS hq=>(kg hS hq 2 [29] [.bool ((((gt pA x4).2.2).length:Int) != (((gt pE x4).2.2).length:Int))] (by kernel_rfl) fun s rs hS hq=>?_)
 refine KW.nil (bc h7 (fun hc33 h7=>?_) fun hc33 h7=>?_)
 refine WW.condK hS rfl hc33 (WW.seq ?_)
 refine WW.region (sg0 hS 1 [] [4] [.bool false] [] (by kernel_rfl) fun s hS=>?_)
 refine KW.nil (WW.ret ?_)
 cases h7
 exact⟨_,rfl,rfl,aS hS (.inr rfl) 4 rfl rfl ⟨rfl,rfl,rfl⟩⟩
 refine WW.condF hS rfl hc33 (WW.skip ?_)
 refine WW.seq (WW.region ?_)
 refine sg0 hS 1 [] [6] [.int .i64 0] [] (by kernel_rfl) fun s hS=>(KW.nil ?_)
 refine WW.block ?_
 obtain⟨o35,ho35,h7⟩:=bind_some h7
 refine WW.loop (LW.iterS ho35 (fun(x34:Int) s=>Stt EV s [(0,.slice (some ⟨i15,of16,none⟩) pA.length zD),(1,.slice (some ⟨i27,of28,none⟩) pE.length zJ),(4,.bool false),(5,.int .i64 x4),(6,.int .i64 x34)] [] F L F nx0) 2 (fun r=>dq EV Tryz.f26 L F nx0 (fun v S' F'=>F=F'∧v= .bool r∧S'= [])) (hS.subR rfl) ?_ ?_)
 clear hS
 rintro x34 s hS o35' h37
 unfold g_a.b1 at h37
 refine WW.seq (WW.seq ?_)
 refine WW.region (sg0 hS 3 [] [30,31,32] [.int .i64 x34,.slice (some ⟨i15,of16,none⟩) pA.length zD,.int .i64 x4] [] (by kernel_rfl) fun s hS=>?_)
 obtain⟨hk38,h37⟩:=ac h37
 obtain⟨_,_,_,_,c39,hF44,hR40,hN41,hN42,hT43⟩:=Frz.at hE hk38 (m:=3) rfl
 obtain⟨a45,z46,rfl,hz47⟩:=hR40
 refine am hS (wn rfl) rfl rfl rfl (v:= .pointer (some ⟨i15,of16+(x4).toNat*3,none⟩)) (aW (hS.lk rfl) (hS.lk rfl) l3 hk38) fun s hS=>(am hS (wn rfl) rfl rfl rfl (v:= .pointer (some ⟨i15,of16+(x4).toNat*3+2,none⟩)) (cn (hS.lk rfl) jS rfl rfl) fun s hS=>?_)
 refine gG hS (wn rfl) rfl rfl rfl (hS.fat hF44) nW (v:= .slice a45 ((gt pA x4).2.2).length z46) (hN42 2 (by decide)) fun s hS=>(sg0 hS 2 [] [37] [.bool (decide (x34<(((gt pA x4).2.2).length:Int)))] [] (by kernel_rfl) fun s hS=>?_)
 refine KW.nil (bc h37 (fun hc48 h37=>?_) fun hc48 h37=>?_)
 refine WW.condK hS rfl hc48 (WW.skip ?_)
 refine WW.seq (WW.block ?_)
 refine WW.seq (WW.regionD (i:=[[],[0],[],[],[],[4,3,2,1,0],[],[],[7,6,5,4,3,2,1,0],[8,7,6,5,4,3,2,1,0],[7,6,5,4,3,2,1,0],[7,6,5,4,3,2,1,0],[7,6,5,4,3,2,1,0],[12,11,10,9,8,7,6,5,4,3,2,1,0],[7,6,5,4,3,2,1,0],[7,6,5,4,3,2,1,0],[]]) (by kernel_rfl) ?_)
 have hq:=RS.start []
 refine kg hS hq 2 [40,41] [.slice (some ⟨i15,of16,none⟩) pA.length zD,.int .i64 x4] (by kernel_rfl) fun s rs hS hq=>?_
 obtain⟨hk49,h37⟩:=ac h37
 obtain⟨_,_,_,_,c50,hF55,hR51,hN52,hN53,hT54⟩:=Frz.at hE hk49 (m:=3) rfl
 obtain⟨a56,z57,rfl,hz58⟩:=hR51
 refine K.pu hS hq rfl (wn rfl) rfl rfl rfl (v:= .pointer (some ⟨i15,of16+(x4).toNat*3,none⟩)) (aW (hS.lk rfl) (hS.lk rfl) l3 hk49) fun s rs hS hq=>(K.pu hS hq rfl (wn rfl) rfl rfl rfl (v:= .pointer (some ⟨i15,of16+(x4).toNat*3+2,none⟩)) (cn (hS.lk rfl) jS rfl rfl) fun s rs hS hq=>?_)
 replace hq:=hq.more i15 rfl rfl rfl
 refine K.ld hS hq rfl (wn rfl) rfl rfl rfl (hS.fat hF55) nW (v:= .slice a56 ((gt pA x4).2.2).length z57) (hN53 2 (by decide)) 0 rfl rfl fun s rs hS hq=>(kg hS hq 1 [45] [.int .i64 x34] (by kernel_rfl) fun s rs hS hq=>?_)
 obtain⟨hk59,h37⟩:=ac h37
 obtain⟨i65,of66,rfl⟩:=Frz.addr hz58 (by omega)
 obtain⟨_,_,_,_,c60,hF67,hR61,hN62,hN63,hT64⟩:=Frz.at hz58 hk59 (m:=3) rfl
 obtain rfl:=hR61
 refine K.pu hS hq rfl (wn rfl) rfl rfl rfl (v:= .pointer (some ⟨i65,of66+(x34).toNat*3,none⟩)) (aW (hS.lk rfl) (hS.lk rfl) te59 hk59) fun s rs hS hq=>?_
 replace hq:=hq.more i65 rfl rfl rfl
 refine K.ldA hS hq rfl (wn rfl) rfl rfl rfl (hS.fat hF67) tg58 sb (vs:=[.int .i64 ((gt ((gt pA x4).2.2) x34).1),.int .i64 ((gt ((gt pA x4).2.2) x34).2.1),.int .i64 ((gt ((gt pA x4).2.2) x34).2.2)]) hT64 1 rfl rfl fun s rs hS hq=>(kg hS hq 2 [48,49] [.slice (some ⟨i27,of28,none⟩) pE.length zJ,.int .i64 x4] (by kernel_rfl) fun s rs hS hq=>?_)
 obtain⟨hk68,h37⟩:=ac h37
 obtain⟨_,_,_,_,c69,hF74,hR70,hN71,hN72,hT73⟩:=Frz.at hK hk68 (m:=3) rfl
 obtain⟨a75,z76,rfl,hz77⟩:=hR70
 refine K.pu hS hq rfl (wn rfl) rfl rfl rfl (v:= .pointer (some ⟨i27,of28+(x4).toNat*3,none⟩)) (aW (hS.lk rfl) (hS.lk rfl) l3 hk68) fun s rs hS hq=>(K.pu hS hq rfl (wn rfl) rfl rfl rfl (v:= .pointer (some ⟨i27,of28+(x4).toNat*3+2,none⟩)) (cn (hS.lk rfl) jS rfl rfl) fun s rs hS hq=>?_)
 replace hq:=hq.more i27 rfl rfl rfl
 refine K.ld hS hq rfl (wn rfl) rfl rfl rfl (hS.fat hF74) nW (v:= .slice a75 ((gt pE x4).2.2).length z76) (hN72 2 (by decide)) 2 rfl rfl fun s rs hS hq=>(kg hS hq 1 [53] [.int .i64 x34] (by kernel_rfl) fun s rs hS hq=>?_)
 obtain⟨hk78,h37⟩:=ac h37
 obtain⟨i84,of85,rfl⟩:=Frz.addr hz77 (by omega)
 obtain⟨_,_,_,_,c79,hF86,hR80,hN81,hN82,hT83⟩:=Frz.at hz77 hk78 (m:=3) rfl
 obtain rfl:=hR80
 refine K.pu hS hq rfl (wn rfl) rfl rfl rfl (v:= .pointer (some ⟨i84,of85+(x34).toNat*3,none⟩)) (aW (hS.lk rfl) (hS.lk rfl) te59 hk78) fun s rs hS hq=>?_
 replace hq:=hq.more i84 rfl rfl rfl
 refine K.ldA hS hq rfl (wn rfl) rfl rfl rfl (hS.fat hF86) tg58 sb (vs:=[.int .i64 ((gt ((gt pE x4).2.2) x34).1),.int .i64 ((gt ((gt pE x4).2.2) x34).2.1),.int .i64 ((gt ((gt pE x4).2.2) x34).2.2)]) hT83 3 rfl rfl fun s rs hS hq=>(K.pu hS hq rfl (wn rfl) rfl rfl rfl (v:= .bool (!((((gt ((gt pA x4).2.2) x34).1)==((gt ((gt pE x4).2.2) x34).1))&&(((gt ((gt pA x4).2.2) x34).2.1)==((gt ((gt pE x4).2.2) x34).2.1))&&(((gt ((gt pA x4).2.2) x34).2.2)==((gt ((gt pE x4).2.2) x34).2.2))))) (ta58 (hS.lk rfl) (hS.lk rfl)) fun s rs hS hq=>?_)
 refine KW.nil (bc h37 (fun hc87 h37=>?_) fun hc87 h37=>?_)
 refine WW.condK hS rfl hc87 (WW.seq ?_)
 refine WW.region (sg0 hS 1 [] [4] [.bool false] [] (by kernel_rfl) fun s hS=>?_)
 refine KW.nil (WW.ret ?_)
 cases h37
 exact⟨_,rfl,rfl,aS hS (.inr rfl) 4 rfl rfl ⟨rfl,rfl,rfl⟩⟩
 refine WW.condF hS rfl hc87 (WW.skip ?_)
 refine WW.region (sg0 hS 3 [] [6] [.int .i64 (w64 (x34+1))] [] (by kernel_rfl) fun s hS=>?_)
 refine KW.nil ?_
 obtain rfl:=Option.some.inj h37
 exact⟨_,rfl,(hS.subR rfl)⟩
 refine WW.condF hS rfl hc48 (WW.exit ?_)
 refine af ?_
 obtain rfl:=Option.some.inj h37
 exact⟨_,rfl,rfl,(hS.subR rfl)⟩
 clear hS
 rcases o35 with y88 | y88
 rintro e s ⟨rfl,hS⟩
 replace h7:=f5 h7
 refine ah (WW.region ?_)
 refine sg0 hS 3 [] [5] [.int .i64 (w64 (x4+1))] [] (by kernel_rfl) fun s hS=>(KW.nil ?_)
 obtain rfl:=Option.some.inj h7
 exact⟨_,rfl,(hS.subR rfl)⟩
 rintro e s ⟨rfl,hfin⟩
 replace h7:=f7 h7
 obtain rfl:=Option.some.inj h7
 exact⟨_,rfl,rfl,hfin⟩
 refine WW.condF hS rfl hc8 (WW.exit ?_)
 refine af ?_
 obtain rfl:=Option.some.inj h7
 exact⟨_,rfl,rfl,(hS.subR rfl)⟩
 clear hS
 rcases o5 with y89 | y89
 rintro e s ⟨rfl,hS⟩
 replace h:=aB h
 refine ah (WW.seq ?_)
 refine WW.region (sg0 hS 1 [] [4] [.bool true] [] (by kernel_rfl) fun s hS=>?_)
 refine KW.nil (WW.ret ?_)
 cases h
 exact aS hS (.inr rfl) 4 rfl rfl ⟨rfl,rfl,rfl⟩
 rintro e s ⟨rfl,hfin⟩
 replace h:=aj h
 obtain rfl:=Option.some.inj h
 exact hfin
noncomputable def g_0.F (self:(List Int×List Int)→Option (Bool)) (pA:List Int) (pE:List Int):Option (Bool) :=
  (if(((pA.length:Int)==0)||((pE.length:Int)==0)) then some (decide ((pA.length:Int)<(pE.length:Int))) else(if 0≤(0:Int)∧(0:Int)<(pA.length:Int) then(if 0≤(0:Int)∧(0:Int)<(pE.length:Int) then(if(decide ((gt pA (0:Int))<(gt pE (0:Int)))) then some true else(if 0≤(0:Int)∧(0:Int)<(pA.length:Int) then(if 0≤(0:Int)∧(0:Int)<(pE.length:Int) then(if((gt pA (0:Int))==(gt pE (0:Int))) then(if 0≤(1:Int)∧(1:Int)≤(pA.length:Int)∧(pA.length:Int)≤(pA.length:Int) then(if 0≤(1:Int)∧(1:Int)≤(pE.length:Int)∧(pE.length:Int)≤(pE.length:Int) then Option.bind (self ((mid pA (1:Int) (pA.length:Int)),(mid pE (1:Int) (pE.length:Int)))) fun y44=>some y44 else none) else none) else some false) else none) else none)) else none) else none))
noncomputable def g_0.f (pA:List Int) (pE:List Int):Option (Bool):=rG (fun self (x:List Int×List Int)=>g_0.F self x.1 x.2) (pA,pE)
theorem g_0.okN (n:Nat): ∀{aC:Option Addr} {zD:Nat} {aI:Option Addr} {zJ:Nat} {pA:List Int} {pE:List Int} {F:FZ} {r:Bool} (h:iI (fun self (x:List Int×List Int)=>g_0.F self x.1 x.2) n (pA,pE)=some r) (hE:Frz (elI .i64 3) F aC zD pA) (hK:Frz (elI .i64 3) F aI zJ pE),
    Cl EV 46 [.slice aC pA.length zD,.slice aI pE.length zJ] [] F (fun v S' F'=>F=F'∧v= .bool r∧S'= []):=by
 induction n with
 | zero=>intros; rename_i h _; cases ‹iI _ 0 _=some _›
 | succ n ih =>
 intro aC zD aI zJ pA pE F r h hE hK
 refine Cl.of Tryz.func46 rfl (fun _ _=>rfl) (by kernel_rfl) fun s L nx0 hS=>?_
 replace h:g_0.F (iI (fun self (x:List Int×List Int)=>g_0.F self x.1 x.2) n) pA pE=some r:=h
 generalize hself:iI (fun self (x:List Int×List Int)=>g_0.F self x.1 x.2) n=self at h ih
 unfold g_0.F at h
 refine WW.seq (WW.region ?_)
 refine sg0 hS 1 [] [4] [.bool false] [] (by kernel_rfl) fun s hS=>(KW.nil ?_)
 refine WW.seq (WW.seq ?_)
 refine WW.region (sg0 hS 4 [] [8] [.bool ((pA.length:Int)==0)] [] (by kernel_rfl) fun s hS=>?_)
 refine aH 4 (fun s=>Stt EV s [(12,.bool (((pA.length:Int)==0)||((pE.length:Int)==0))),(0,.slice aC pA.length zD),(1,.slice aI pE.length zJ),(4,.bool false)] [] F L F nx0) ?_ fun s hS=>?_
 rcases ax (((pA.length:Int)==0)) with hcj | hcj
 replace hS:=hS.know (t:=8) rfl (congrArg Value.bool hcj)
 refine sg0 hS 4 [] [12] [.bool true] [] (by kernel_rfl) fun s hS=>(KW.nil ?_)
 exact(hS.know (t:=12) (u':= .bool (((pA.length:Int)==0)||((pE.length:Int)==0))) rfl (cB hcj)).subR rfl
 replace hS:=hS.know (t:=8) rfl (congrArg Value.bool hcj)
 refine sg0 hS 4 [] [12] [.bool ((pE.length:Int)==0)] [] (by kernel_rfl) fun s hS=>(KW.nil ?_)
 exact(hS.know (t:=12) (u':= .bool (((pA.length:Int)==0)||((pE.length:Int)==0))) rfl (cC hcj)).subR rfl
 refine KW.nil (bc h (fun hc1 h=>?_) fun hc1 h=>?_)
 refine WW.condK hS rfl hc1 (WW.seq ?_)
 refine WW.region (sg0 hS 6 [] [4] [.bool (decide ((pA.length:Int)<(pE.length:Int)))] [] (by kernel_rfl) fun s hS=>?_)
 refine KW.nil (WW.ret ?_)
 cases h
 exact aS hS (.inr rfl) 4 rfl rfl ⟨rfl,rfl,rfl⟩
 refine WW.condF hS rfl hc1 (WW.skip ?_)
 refine WW.seq (WW.regionD (i:=[[],[],[],[2,1,0],[2,1,0],[2,1,0],[],[],[],[],[],[10,9,8],[10,9,8],[10,9,8],[],[],[],[],[17,16],[17,16],[],[],[],[]]) (by kernel_rfl) ?_)
 have hq:=RS.start []
 refine kg hS hq 1 [18] [.slice aC pA.length zD] (by kernel_rfl) fun s rs hS hq=>?_
 obtain⟨hk2,h⟩:=ac h
 obtain⟨i8,of9,rfl⟩:=Frz.addr hE (by omega)
 obtain⟨_,_,_,_,c3,hF10,hR4,hN5,hN6,hT7⟩:=Frz.at hE hk2 (m:=1) rfl
 obtain rfl:=hR4
 refine K.pu hS hq rfl (wn rfl) rfl rfl rfl (v:= .pointer (some ⟨i8,of9+((0:Int)).toNat*1,none⟩)) (aW (hS.lk rfl) (hS.lk rfl) qr hk2) fun s rs hS hq=>?_
 replace hq:=hq.more i8 rfl rfl rfl
 refine K.ld hS hq rfl (wn rfl) rfl rfl rfl (hS.fat hF10) tg3 (v:= .int .i64 (gt pA (0:Int))) hN5 0 rfl rfl fun s rs hS hq=>(kg hS hq 1 [21] [.slice aI pE.length zJ] (by kernel_rfl) fun s rs hS hq=>?_)
 obtain⟨hk11,h⟩:=ac h
 obtain⟨i17,of18,rfl⟩:=Frz.addr hK (by omega)
 obtain⟨_,_,_,_,c12,hF19,hR13,hN14,hN15,hT16⟩:=Frz.at hK hk11 (m:=1) rfl
 obtain rfl:=hR13
 refine K.pu hS hq rfl (wn rfl) rfl rfl rfl (v:= .pointer (some ⟨i17,of18+((0:Int)).toNat*1,none⟩)) (aW (hS.lk rfl) (hS.lk rfl) qr hk11) fun s rs hS hq=>?_
 replace hq:=hq.more i17 rfl rfl rfl
 refine K.ld hS hq rfl (wn rfl) rfl rfl rfl (hS.fat hF19) tg3 (v:= .int .i64 (gt pE (0:Int))) hN14 1 rfl rfl fun s rs hS hq=>(kg hS hq 2 [25] [.bool (decide ((gt pA (0:Int))<(gt pE (0:Int))))] (by kernel_rfl) fun s rs hS hq=>?_)
 refine bc h (fun hc20 h=>?_) fun hc20 h=>?_
 replace hS:=hS.kb 25 hc20 rfl
 refine kg hS hq 8 [33] [undef] (by kernel_rfl) fun s rs hS hq=>(K.no hS hq rfl (wu hS rfl rfl rfl) rfl fun s rs hS hq=>?_)
 refine K.no hS hq rfl (wu hS rfl rfl rfl) rfl fun s rs hS hq=>(K.no hS hq rfl (wu hS rfl rfl rfl) rfl fun s rs hS hq=>?_)
 refine K.no hS hq rfl (wu hS rfl rfl rfl) rfl fun s rs hS hq=>(K.no hS hq rfl (wu hS rfl rfl rfl) rfl fun s rs hS hq=>?_)
 refine kg hS hq 3 [4] [.bool true] (by kernel_rfl) fun s rs hS hq=>(KW.nil ?_)
 refine WW.ret ?_
 cases h
 exact aS hS (.inr rfl) 4 rfl rfl ⟨rfl,rfl,rfl⟩
 replace hS:=hS.kb 25 hc20 rfl
 refine kg hS hq 1 [26] [.slice (some ⟨i8,of9,none⟩) pA.length zD] (by kernel_rfl) fun s rs hS hq=>?_
 obtain⟨hk21,h⟩:=ac h
 obtain⟨_,_,_,_,c22,hF27,hR23,hN24,hN25,hT26⟩:=Frz.at hE hk21 (m:=1) rfl
 obtain rfl:=hR23
 refine K.pu hS hq rfl (wt hS rfl rfl rfl rfl) rfl rfl rfl (v:= .pointer (some ⟨i8,of9+((0:Int)).toNat*1,none⟩)) (aW (hS.lk rfl) (hS.lk rfl) qr hk21) fun s rs hS hq=>(K.ld hS hq rfl (wt hS rfl rfl rfl rfl) rfl rfl rfl (hS.fat hF27) tg3 (v:= .int .i64 (gt pA (0:Int))) hN24 0 rfl rfl fun s rs hS hq=>?_)
 refine kg hS hq 1 [29] [.slice (some ⟨i17,of18,none⟩) pE.length zJ] (by kernel_rfl) fun s rs hS hq=>?_
 obtain⟨hk28,h⟩:=ac h
 obtain⟨_,_,_,_,c29,hF34,hR30,hN31,hN32,hT33⟩:=Frz.at hK hk28 (m:=1) rfl
 obtain rfl:=hR30
 refine K.pu hS hq rfl (wt hS rfl rfl rfl rfl) rfl rfl rfl (v:= .pointer (some ⟨i17,of18+((0:Int)).toNat*1,none⟩)) (aW (hS.lk rfl) (hS.lk rfl) qr hk28) fun s rs hS hq=>(K.ld hS hq rfl (wt hS rfl rfl rfl rfl) rfl rfl rfl (hS.fat hF34) tg3 (v:= .int .i64 (gt pE (0:Int))) hN31 1 rfl rfl fun s rs hS hq=>?_)
 refine kg hS hq 2 [33] [.bool ((gt pA (0:Int))==(gt pE (0:Int)))] (by kernel_rfl) fun s rs hS hq=>(bc h (fun hc35 h=>?_) fun hc35 h=>?_)
 replace hS:=hS.kb 33 hc35 rfl
 refine kg hS hq 1 [34] [.slice (some ⟨i8,of9,none⟩) pA.length zD] (by kernel_rfl) fun s rs hS hq=>?_
 obtain⟨hk36,h⟩:=ac h
 obtain⟨a37,he38,hz39⟩:=Frz.slice hE hk36 (m:=1) rfl
 refine K.pu hS hq rfl (wt hS rfl rfl rfl rfl) rfl rfl rfl (v:= .slice a37 (mid pA (1:Int) (pA.length:Int)).length zD) (di qr (hS.lk rfl) (i:=(1:Int)) (h:=(pA.length:Int)) (bu hS rfl) rfl he38) fun s rs hS hq=>(kg hS hq 1 [36] [.slice (some ⟨i17,of18,none⟩) pE.length zJ] (by kernel_rfl) fun s rs hS hq=>?_)
 obtain⟨hk40,h⟩:=ac h
 obtain⟨a41,he42,hz43⟩:=Frz.slice hK hk40 (m:=1) rfl
 refine K.pu hS hq rfl (wt hS rfl rfl rfl rfl) rfl rfl rfl (v:= .slice a41 (mid pE (1:Int) (pE.length:Int)).length zJ) (di qr (hS.lk rfl) (i:=(1:Int)) (h:=(pE.length:Int)) (bu hS rfl) rfl he42) fun s rs hS hq=>?_
 obtain⟨y44,hy44,h⟩:=bind_some h
 refine K.cl hS hq rfl (wt hS rfl rfl rfl rfl) (vs:=[.slice a37 (mid pA (1:Int) (pA.length:Int)).length zD,.slice a41 (mid pE (1:Int) (pE.length:Int)).length zJ]) (ws:=[.slice a37 (mid pA (1:Int) (pA.length:Int)).length zD,.slice a41 (mid pE (1:Int) (pE.length:Int)).length zJ]) rfl rfl rfl rfl rfl 0 rfl (ih hy44 hz39 hz43)  [0,1] rfl rfl (fv rfl hF27 (fv rfl hF34 bv)) fun s rs v S' F' hp45 hF hS hq=>?_
 obtain⟨rfl,rfl,rfl⟩:=hp45
 refine kg hS hq 3 [4] [.bool y44] (by kernel_rfl) fun s rs hS hq=>(KW.nil ?_)
 refine WW.ret ?_
 cases h
 exact aS hS (.inr rfl) 4 rfl rfl ⟨rfl,rfl,rfl⟩
 replace hS:=hS.kb 33 hc35 rfl
 refine kg hS hq 8 [4] [.bool false] (by kernel_rfl) fun s rs hS hq=>(KW.nil ?_)
 refine WW.ret ?_
 cases h
 exact aS hS (.inr rfl) 4 rfl rfl ⟨rfl,rfl,rfl⟩
theorem g_0.ok {aC:Option Addr} {zD:Nat} {aI:Option Addr} {zJ:Nat} {pA:List Int} {pE:List Int} {F:FZ} {r:Bool} (h:g_0.f pA pE=some r) (hE:Frz (elI .i64 3) F aC zD pA) (hK:Frz (elI .i64 3) F aI zJ pE) :
    Cl EV 46 [.slice aC pA.length zD,.slice aI pE.length zJ] [] F (fun v S' F'=>F=F'∧v= .bool r∧S'= []):=by
  obtain⟨n,hn⟩:=qi h
  exact g_0.okN n hn hE hK
noncomputable def g_2.f (pA:List Int) (pE:List Int):Option (Bool) :=
  Option.bind ((if((pA.length:Int)==(pE.length:Int)) then Option.bind (g_0.f pA pE) fun y3=>some (!y3) else some false)) fun z1=>Option.bind ((if z1 then Option.bind (g_0.f pE pA) fun y7=>some (!y7) else some false)) fun z5=>some z5
theorem g_2.ok {aC:Option Addr} {zD:Nat} {aI:Option Addr} {zJ:Nat} {pA:List Int} {pE:List Int} {F:FZ} {r:Bool} (h:g_2.f pA pE=some r) (hE:Frz (elI .i64 3) F aC zD pA) (hK:Frz (elI .i64 3) F aI zJ pE) :
    Cl EV 15 [.slice aC pA.length zD,.slice aI pE.length zJ] [] F (fun v S' F'=>F=F'∧v= .bool r∧S'= []):=by
 refine Cl.of Tryz.func15 rfl (fun _ _=>rfl) (by kernel_rfl) fun s L nx0 hS=>?_
 unfold g_2.f at h
 refine WW.seq (WW.region ?_)
 refine sg0 hS 1 [] [4] [.bool false] [] (by kernel_rfl) fun s hS=>(KW.nil ?_)
 refine WW.seq (WW.region ?_)
 refine sg0 hS 6 [] [10] [.bool ((pA.length:Int)==(pE.length:Int))] [] (by kernel_rfl) fun s hS=>?_
 obtain⟨z1,hz1,h⟩:=bind_some h
 refine aH 5 (fun s=>Stt EV s [(15,.bool z1),(0,.slice aC pA.length zD),(1,.slice aI pE.length zJ),(4,.bool false)] [] F L F nx0) ?_ fun s hS=>?_
 refine bc hz1 (fun hc2 hz1=>?_) fun hc2 hz1=>?_
 replace hS:=hS.kb 10 hc2 rfl
 refine sg0 hS 2 [] [11,12] [.slice aC pA.length zD,.slice aI pE.length zJ] [] (by kernel_rfl) fun s hS=>?_
 obtain⟨y3,hy3,hz1⟩:=bind_some hz1
 refine bE hS (wt hS rfl rfl rfl rfl) (vs:=[.slice aC pA.length zD,.slice aI pE.length zJ]) (ws:=[.slice aC pA.length zD,.slice aI pE.length zJ]) rfl rfl rfl rfl rfl 0 rfl (g_0.ok hy3 hE hK) fun s v S' F' hp4 hF hS=>?_
 obtain⟨rfl,rfl,rfl⟩:=hp4
 refine sg0 hS 2 [] [15] [.bool (!y3)] [] (by kernel_rfl) fun s hS=>(KW.nil ?_)
 obtain rfl:=Option.some.inj hz1
 exact hS.subR rfl
 replace hS:=hS.kb 10 hc2 rfl
 refine sg0 hS 5 [] [15] [.bool false] [] (by kernel_rfl) fun s hS=>(KW.nil ?_)
 obtain rfl:=Option.some.inj hz1
 exact hS.subR rfl
 refine sg0 hS 1 [] [16] [.bool z1] [] (by kernel_rfl) fun s hS=>?_
 obtain⟨z5,hz5,h⟩:=bind_some h
 refine aH 5 (fun s=>Stt EV s [(21,.bool z5),(4,.bool false)] [] F L F nx0) ?_ fun s hS=>?_
 refine bc hz5 (fun hc6 hz5=>?_) fun hc6 hz5=>?_
 replace hS:=hS.kb 15 hc6 rfl
 replace hS:=hS.kb 16 hc6 rfl
 refine sg0 hS 2 [] [17,18] [.slice aI pE.length zJ,.slice aC pA.length zD] [] (by kernel_rfl) fun s hS=>?_
 obtain⟨y7,hy7,hz5⟩:=bind_some hz5
 refine bE hS (wt hS rfl rfl rfl rfl) (vs:=[.slice aI pE.length zJ,.slice aC pA.length zD]) (ws:=[.slice aI pE.length zJ,.slice aC pA.length zD]) rfl rfl rfl rfl rfl 0 rfl (g_0.ok hy7 hK hE) fun s v S' F' hp8 hF hS=>?_
 obtain⟨rfl,rfl,rfl⟩:=hp8
 refine sg0 hS 2 [] [21] [.bool (!y7)] [] (by kernel_rfl) fun s hS=>(KW.nil ?_)
 obtain rfl:=Option.some.inj hz5
 exact hS.subR rfl
 replace hS:=hS.kb 15 hc6 rfl
 replace hS:=hS.kb 16 hc6 rfl
 refine sg0 hS 5 [] [21] [.bool false] [] (by kernel_rfl) fun s hS=>(KW.nil ?_)
 obtain rfl:=Option.some.inj hz5
 exact hS.subR rfl
 refine sg0 hS 1 [] [4] [.bool z5] [] (by kernel_rfl) fun s hS=>(KW.nil ?_)
 refine WW.ret ?_
 cases h
 exact aS hS (.inr rfl) 4 rfl rfl ⟨rfl,rfl,rfl⟩
noncomputable def g_6.f (pA:List UInt8) (pB:Bool) (pC:List (List UInt8)):Option (Bool) :=
  Option.bind (g_awake.f) fun y2=>(if(!y2) then some false else Option.bind (g_7.f pA pC) fun y5=>(if(!y5) then some true else Option.bind (g_9.f pA pB pC) fun y8=>Option.bind (g_p.f y8.1 y8.2.1 y8.2.2) fun y17=>Option.bind (g_9.f pA pB pC) fun y21=>Option.bind (g_r.f y21.1 y21.2.1 y21.2.2) fun y30=>Option.bind (g_9.f pA pB pC) fun y38=>Option.bind (g_q.f y38.1 y38.2.1 y38.2.2) fun y47=>Option.bind (g_8.f pA pB pC) fun y55=>(if((y17.2 != y55.2)||(y17.1 != y55.1)) then some false else Option.bind (g_c.f pA pB pC) fun y58=>(if((((y30.2.2 != y58.2.2.2)||(y47.2.2 != y58.2.2.2))||(y30.2.1 != y58.2.2.1))||(y47.2.1 != y58.2.2.1)) then some false else(if(y58.2.2.2 != 0) then some (((y30.1.length:Int)==0)&&((y47.1.length:Int)==0)) else Option.bind (g_a.f y30.1 y58.1) fun y79=>(if y79 then Option.bind (g_2.f y47.1 y58.2.1) fun y88=>some y88 else some false))))))
theorem g_6.ok {aE:Option Addr} {zH:Nat} {pA:List UInt8} {pB:Bool} {pC:List (List UInt8)} {F:FZ} {r:Bool} (h:g_6.f pA pB pC=some r) (hI:Frz (elS 9) F aE zH pC) :
    Cl EV 6 [.agg #[aa pA,.bool pB,.slice aE pC.length zH]] [] F (fun v S' F'=>FLe F F'∧v= .bool r∧S'= []):=by
 refine Cl.of Tryz.func6 rfl (fun _ _=>rfl) (by kernel_rfl) fun s L nx0 hS=>?_
 unfold g_6.f at h
 refine WW.seq (WW.region ?_)
 refine bf hS (wn rfl) rfl rfl rfl (v:=fun i=> .pointer (some ⟨i,0,none⟩)) (b:= .row [aa pA,.bool pB,.slice aE pC.length zH] 38 0 true) (br (hS.lk rfl) rfl [aa pA,.bool pB,.slice aE pC.length zH] rfl) fun s i1 hS=>(sg0 hS 1 [] [2] [.bool false] [] (by kernel_rfl) fun s hS=>?_)
 refine KW.nil (WW.seq ?_)
 refine WW.seq (WW.region ?_)
 obtain⟨y2,hy2,h⟩:=bind_some h
 refine cR (g_awake.ok hy2) hS 0 14 0 rfl (by kernel_rfl) fun s hS=>(sg0 hS 1 [] [15] [.bool (!y2)] [] (by kernel_rfl) fun s hS=>?_)
 refine KW.nil (bc h (fun hc4 h=>?_) fun hc4 h=>?_)
 refine WW.condK hS rfl hc4 (WW.seq ?_)
 refine WW.region (sg0 hS 1 [] [2] [.bool false] [] (by kernel_rfl) fun s hS=>?_)
 refine KW.nil (WW.ret ?_)
 replace hS:=hS.drop
 cases h
 exact aS hS (.inr rfl) 2 rfl rfl ⟨(FLe.refl _),rfl,rfl⟩
 refine WW.condF hS rfl hc4 (WW.skip ?_)
 refine WW.seq (WW.seq ?_)
 refine WW.region (sg0 hS 1 [0] [16] [.agg #[aa pA,.bool pB,.slice aE pC.length zH]] [i1] (by kernel_rfl) fun s hS=>?_)
 obtain⟨y5,hy5,h⟩:=bind_some h
 refine bE hS (wn rfl) (vs:=[.agg #[aa pA,.bool pB,.slice aE pC.length zH]]) (ws:=[.agg #[aa pA,.bool pB,.slice aE pC.length zH]]) rfl rfl rfl rfl rfl 0 rfl (g_7.ok hy5 hI) fun s v S' F' hp6 hF hS=>?_
 obtain⟨rfl,rfl,rfl⟩:=hp6
 refine sg0 hS 1 [] [18] [.bool (!y5)] [] (by kernel_rfl) fun s hS=>(KW.nil ?_)
 refine bc h (fun hc7 h=>?_) fun hc7 h=>?_
 refine WW.condK hS rfl hc7 (WW.seq ?_)
 refine WW.region (sg0 hS 1 [] [2] [.bool true] [] (by kernel_rfl) fun s hS=>?_)
 refine KW.nil (WW.ret ?_)
 replace hS:=hS.drop
 cases h
 exact aS hS (.inr rfl) 2 rfl rfl ⟨(FLe.refl _),rfl,rfl⟩
 refine WW.condF hS rfl hc7 (WW.skip ?_)
 refine WW.seq (WW.region ?_)
 refine sg0 hS 1 [0] [20] [.agg #[aa pA,.bool pB,.slice aE pC.length zH]] [i1] (by kernel_rfl) fun s hS=>?_
 obtain⟨y8,hy8,h⟩:=bind_some h
 refine bE hS (wn rfl) (vs:=[.agg #[aa pA,.bool pB,.slice aE pC.length zH]]) (ws:=[.agg #[aa pA,.bool pB,.slice aE pC.length zH]]) rfl rfl rfl rfl rfl 0 rfl (g_9.ok hy8 hI) fun s v S' F' hp9 hF hS=>?_
 obtain⟨a10,z11,B13,rfl,rfl,rfl,h12⟩:=hp9
 obtain⟨F14,hF15,hS,hz16⟩:=hS.frzO h12
 obtain⟨y17,hy17,h⟩:=bind_some h
 refine cK (g_p.ok hy17 hz16) hS 0 22 0 rfl (by kernel_rfl) fun s v S' F19 hp18 hF hS=>?_
 obtain⟨hF20,rfl,rfl⟩:=hp18
 refine sg0 hS 5 [] [3,4] [.int .i64 y17.1,.int .i64 y17.2] [] (by kernel_rfl) fun s hS=>(KW.nil ?_)
 refine WW.seq (WW.region ?_)
 refine sg0 hS 1 [0] [26] [.agg #[aa pA,.bool pB,.slice aE pC.length zH]] [i1] (by kernel_rfl) fun s hS=>?_
 obtain⟨y21,hy21,h⟩:=bind_some h
 refine bE hS (wn rfl) (vs:=[.agg #[aa pA,.bool pB,.slice aE pC.length zH]]) (ws:=[.agg #[aa pA,.bool pB,.slice aE pC.length zH]]) rfl rfl rfl rfl rfl 0 rfl (g_9.ok hy21 (hI.mono (FLe.trans hF15 hF20))) fun s v S' F' hp22 hF hS=>?_
 obtain⟨a23,z24,B26,rfl,rfl,rfl,h25⟩:=hp22
 obtain⟨F27,hF28,hS,hz29⟩:=hS.frzO h25
 obtain⟨y30,hy30,h⟩:=bind_some h
 refine cK (g_r.ok hy30 hz29) hS 0 28 0 rfl (by kernel_rfl) fun s v S' F32 hp31 hF hS=>?_
 obtain⟨a33,z34,B36,hF37,rfl,rfl,h35⟩:=hp31
 refine sg0 hS 7 [] [5,6,7] [.slice a33 y30.1.length z34,.int .i64 y30.2.1,.int .i64 y30.2.2] [] (by kernel_rfl) fun s hS=>(KW.nil ?_)
 refine WW.seq (WW.region ?_)
 refine sg0 hS 1 [1] [33] [.agg #[aa pA,.bool pB,.slice aE pC.length zH]] [i1] (by kernel_rfl) fun s hS=>?_
 obtain⟨y38,hy38,h⟩:=bind_some h
 refine bE hS (wn rfl) (vs:=[.agg #[aa pA,.bool pB,.slice aE pC.length zH]]) (ws:=[.agg #[aa pA,.bool pB,.slice aE pC.length zH]]) rfl rfl rfl rfl rfl 0 rfl (g_9.ok hy38 (hI.mono (FLe.trans hF15 (FLe.trans hF20 (FLe.trans hF28 hF37))))) fun s v S' F' hp39 hF hS=>?_
 obtain⟨a40,z41,B43,rfl,rfl,rfl,h42⟩:=hp39
 obtain⟨F44,hF45,hS,hz46⟩:=hS.frzO h42
 obtain⟨y47,hy47,h⟩:=bind_some h
 refine cK (g_q.ok hy47 hz46) hS 0 35 0 rfl (by kernel_rfl) fun s v S' F49 hp48 hF hS=>?_
 obtain⟨a50,z51,B53,hF54,rfl,rfl,h52⟩:=hp48
 refine sg0 hS 7 [] [8,9,10] [.slice a50 y47.1.length z51,.int .i64 y47.2.1,.int .i64 y47.2.2] [] (by kernel_rfl) fun s hS=>(KW.nil ?_)
 refine WW.seq (WW.region ?_)
 refine sg0 hS 1 [2] [40] [.agg #[aa pA,.bool pB,.slice aE pC.length zH]] [i1] (by kernel_rfl) fun s hS=>?_
 obtain⟨y55,hy55,h⟩:=bind_some h
 refine bE hS (wn rfl) (vs:=[.agg #[aa pA,.bool pB,.slice aE pC.length zH]]) (ws:=[.agg #[aa pA,.bool pB,.slice aE pC.length zH]]) rfl rfl rfl rfl rfl 0 rfl (g_8.ok hy55 (hI.mono (FLe.trans hF15 (FLe.trans hF20 (FLe.trans hF28 (FLe.trans hF37 (FLe.trans hF45 hF54))))))) fun s v S' F' hp56 hF hS=>?_
 obtain⟨rfl,rfl,rfl⟩:=hp56
 refine sg0 hS 5 [] [11,12] [.int .i64 y55.1,.int .i64 y55.2] [] (by kernel_rfl) fun s hS=>(KW.nil ?_)
 refine WW.seq (WW.seq ?_)
 refine WW.region (sg0 hS 4 [] [47] [.bool (y17.2 != y55.2)] [] (by kernel_rfl) fun s hS=>?_)
 refine aH 4 (fun s=>Stt EV s [(51,.bool ((y17.2 != y55.2)||(y17.1 != y55.1))),(1,.pointer (some ⟨i1,0,none⟩)),(2,.bool false),(5,.slice a33 y30.1.length z34),(6,.int .i64 y30.2.1),(7,.int .i64 y30.2.2),(8,.slice a50 y47.1.length z51),(9,.int .i64 y47.2.1),(10,.int .i64 y47.2.2)] [B53,B36,[(i1,.row [aa pA,.bool pB,.slice aE pC.length zH] 38 0 true)]] F49 L F nx0) ?_ fun s hS=>?_
 rcases ax ((y17.2 != y55.2)) with hcj | hcj
 replace hS:=hS.know (t:=47) rfl (congrArg Value.bool hcj)
 refine sg0 hS 4 [] [51] [.bool true] [] (by kernel_rfl) fun s hS=>(KW.nil ?_)
 exact(hS.know (t:=51) (u':= .bool ((y17.2 != y55.2)||(y17.1 != y55.1))) rfl (cB hcj)).subR rfl
 replace hS:=hS.know (t:=47) rfl (congrArg Value.bool hcj)
 refine sg0 hS 4 [] [51] [.bool (y17.1 != y55.1)] [] (by kernel_rfl) fun s hS=>(KW.nil ?_)
 exact(hS.know (t:=51) (u':= .bool ((y17.2 != y55.2)||(y17.1 != y55.1))) rfl (cC hcj)).subR rfl
 refine KW.nil (bc h (fun hc57 h=>?_) fun hc57 h=>?_)
 refine WW.condK hS rfl hc57 (WW.seq ?_)
 refine WW.region (sg0 hS 1 [] [2] [.bool false] [] (by kernel_rfl) fun s hS=>?_)
 refine KW.nil (WW.ret ?_)
 replace hS:=hS.drop
 replace hS:=hS.drop
 replace hS:=hS.drop
 cases h
 exact aS hS (.inr rfl) 2 rfl rfl ⟨((FLe.trans hF15 (FLe.trans hF20 (FLe.trans hF28 (FLe.trans hF37 (FLe.trans hF45 hF54)))))),rfl,rfl⟩
 refine WW.condF hS rfl hc57 (WW.skip ?_)
 refine WW.seq (WW.region ?_)
 refine sg0 hS 1 [2] [52] [.agg #[aa pA,.bool pB,.slice aE pC.length zH]] [i1] (by kernel_rfl) fun s hS=>?_
 obtain⟨y58,hy58,h⟩:=bind_some h
 refine bE hS (wn rfl) (vs:=[.agg #[aa pA,.bool pB,.slice aE pC.length zH]]) (ws:=[.agg #[aa pA,.bool pB,.slice aE pC.length zH]]) rfl rfl rfl rfl rfl 0 rfl (g_c.ok hy58 (hI.mono (FLe.trans hF15 (FLe.trans hF20 (FLe.trans hF28 (FLe.trans hF37 (FLe.trans hF45 hF54))))))) fun s v S' F60 hp59 hF hS=>?_
 obtain⟨a61,z62,B64,a65,z66,B68,hF69,rfl,rfl,h63,h67⟩:=hp59
 refine bf hS (wn rfl) rfl rfl rfl (v:=fun i=> .pointer (some ⟨i,0,none⟩)) (b:= .row [.slice none 0 0,.slice none 0 0,.int .i64 0,.int .i64 0] 55 0 true) (aU eU) fun s i70 hS=>(sg hS 1 [0] [] [] [i70] [[(i70,.row [.slice a61 y58.1.length z62,.slice a65 y58.2.1.length z66,.int .i64 y58.2.2.1,.int .i64 y58.2.2.2] 55 0 true)],B64,B68,B53,B36,[(i1,.row [aa pA,.bool pB,.slice aE pC.length zH] 38 0 true)]] (by kernel_rfl) fun s hS=>?_)
 refine KW.nil (WW.seq ?_)
 refine WW.seq (WW.region ?_)
 refine sg0 hS 5 [0] [58] [.bool (y30.2.2 != y58.2.2.2)] [i70] (by kernel_rfl) fun s hS=>(aH 5 (fun s=>Stt EV s [(63,.bool ((y30.2.2 != y58.2.2.2)||(y47.2.2 != y58.2.2.2))),(2,.bool false),(5,.slice a33 y30.1.length z34),(6,.int .i64 y30.2.1),(8,.slice a50 y47.1.length z51),(9,.int .i64 y47.2.1),(13,.pointer (some ⟨i70,0,none⟩))] [[(i70,.row [.slice a61 y58.1.length z62,.slice a65 y58.2.1.length z66,.int .i64 y58.2.2.1,.int .i64 y58.2.2.2] 55 0 true)],B64,B68,B53,B36,[(i1,.row [aa pA,.bool pB,.slice aE pC.length zH] 38 0 true)]] F60 L F nx0) ?_ fun s hS=>?_)
 rcases ax ((y30.2.2 != y58.2.2.2)) with hcj | hcj
 replace hS:=hS.know (t:=58) rfl (congrArg Value.bool hcj)
 refine sg0 hS 5 [] [63] [.bool true] [] (by kernel_rfl) fun s hS=>(KW.nil ?_)
 exact(hS.know (t:=63) (u':= .bool ((y30.2.2 != y58.2.2.2)||(y47.2.2 != y58.2.2.2))) rfl (cB hcj)).subR rfl
 replace hS:=hS.know (t:=58) rfl (congrArg Value.bool hcj)
 refine sg0 hS 5 [0] [63] [.bool (y47.2.2 != y58.2.2.2)] [i70] (by kernel_rfl) fun s hS=>(KW.nil ?_)
 exact(hS.know (t:=63) (u':= .bool ((y30.2.2 != y58.2.2.2)||(y47.2.2 != y58.2.2.2))) rfl (cC hcj)).subR rfl
 refine sg0 hS 1 [] [64] [.bool ((y30.2.2 != y58.2.2.2)||(y47.2.2 != y58.2.2.2))] [] (by kernel_rfl) fun s hS=>(aH 5 (fun s=>Stt EV s [(69,.bool (((y30.2.2 != y58.2.2.2)||(y47.2.2 != y58.2.2.2))||(y30.2.1 != y58.2.2.1))),(2,.bool false),(5,.slice a33 y30.1.length z34),(8,.slice a50 y47.1.length z51),(9,.int .i64 y47.2.1),(13,.pointer (some ⟨i70,0,none⟩))] [[(i70,.row [.slice a61 y58.1.length z62,.slice a65 y58.2.1.length z66,.int .i64 y58.2.2.1,.int .i64 y58.2.2.2] 55 0 true)],B64,B68,B53,B36,[(i1,.row [aa pA,.bool pB,.slice aE pC.length zH] 38 0 true)]] F60 L F nx0) ?_ fun s hS=>?_)
 rcases ax (((y30.2.2 != y58.2.2.2)||(y47.2.2 != y58.2.2.2))) with hcj | hcj
 replace hS:=hS.know (t:=63) rfl (congrArg Value.bool hcj)
 replace hS:=hS.know (t:=64) rfl (congrArg Value.bool hcj)
 refine sg0 hS 5 [] [69] [.bool true] [] (by kernel_rfl) fun s hS=>(KW.nil ?_)
 exact(hS.know (t:=69) (u':= .bool (((y30.2.2 != y58.2.2.2)||(y47.2.2 != y58.2.2.2))||(y30.2.1 != y58.2.2.1))) rfl (cB hcj)).subR rfl
 replace hS:=hS.know (t:=63) rfl (congrArg Value.bool hcj)
 replace hS:=hS.know (t:=64) rfl (congrArg Value.bool hcj)
 refine sg0 hS 5 [0] [69] [.bool (y30.2.1 != y58.2.2.1)] [i70] (by kernel_rfl) fun s hS=>(KW.nil ?_)
 exact(hS.know (t:=69) (u':= .bool (((y30.2.2 != y58.2.2.2)||(y47.2.2 != y58.2.2.2))||(y30.2.1 != y58.2.2.1))) rfl (cC hcj)).subR rfl
 refine sg0 hS 1 [] [70] [.bool (((y30.2.2 != y58.2.2.2)||(y47.2.2 != y58.2.2.2))||(y30.2.1 != y58.2.2.1))] [] (by kernel_rfl) fun s hS=>(aH 5 (fun s=>Stt EV s [(75,.bool ((((y30.2.2 != y58.2.2.2)||(y47.2.2 != y58.2.2.2))||(y30.2.1 != y58.2.2.1))||(y47.2.1 != y58.2.2.1))),(2,.bool false),(5,.slice a33 y30.1.length z34),(8,.slice a50 y47.1.length z51),(13,.pointer (some ⟨i70,0,none⟩))] [[(i70,.row [.slice a61 y58.1.length z62,.slice a65 y58.2.1.length z66,.int .i64 y58.2.2.1,.int .i64 y58.2.2.2] 55 0 true)],B64,B68,B53,B36,[(i1,.row [aa pA,.bool pB,.slice aE pC.length zH] 38 0 true)]] F60 L F nx0) ?_ fun s hS=>?_)
 rcases ax ((((y30.2.2 != y58.2.2.2)||(y47.2.2 != y58.2.2.2))||(y30.2.1 != y58.2.2.1))) with hcj | hcj
 replace hS:=hS.know (t:=69) rfl (congrArg Value.bool hcj)
 replace hS:=hS.know (t:=70) rfl (congrArg Value.bool hcj)
 refine sg0 hS 5 [] [75] [.bool true] [] (by kernel_rfl) fun s hS=>(KW.nil ?_)
 exact(hS.know (t:=75) (u':= .bool ((((y30.2.2 != y58.2.2.2)||(y47.2.2 != y58.2.2.2))||(y30.2.1 != y58.2.2.1))||(y47.2.1 != y58.2.2.1))) rfl (cB hcj)).subR rfl
 replace hS:=hS.know (t:=69) rfl (congrArg Value.bool hcj)
 replace hS:=hS.know (t:=70) rfl (congrArg Value.bool hcj)
 refine sg0 hS 5 [0] [75] [.bool (y47.2.1 != y58.2.2.1)] [i70] (by kernel_rfl) fun s hS=>(KW.nil ?_)
 exact(hS.know (t:=75) (u':= .bool ((((y30.2.2 != y58.2.2.2)||(y47.2.2 != y58.2.2.2))||(y30.2.1 != y58.2.2.1))||(y47.2.1 != y58.2.2.1))) rfl (cC hcj)).subR rfl
 refine KW.nil (bc h (fun hc71 h=>?_) fun hc71 h=>?_)
 refine WW.condK hS rfl hc71 (WW.seq ?_)
 refine WW.region (sg0 hS 1 [] [2] [.bool false] [] (by kernel_rfl) fun s hS=>?_)
 refine KW.nil (WW.ret ?_)
 replace hS:=hS.drop
 replace hS:=hS.drop
 replace hS:=hS.drop
 replace hS:=hS.drop
 replace hS:=hS.drop
 replace hS:=hS.drop
 cases h
 exact aS hS (.inr rfl) 2 rfl rfl ⟨((FLe.trans hF15 (FLe.trans hF20 (FLe.trans hF28 (FLe.trans hF37 (FLe.trans hF45 (FLe.trans hF54 hF69))))))),rfl,rfl⟩
 refine WW.condF hS rfl hc71 (WW.skip ?_)
 refine WW.seq (WW.seq ?_)
 refine WW.region (sg0 hS 3 [0] [78] [.bool (y58.2.2.2 != 0)] [i70] (by kernel_rfl) fun s hS=>?_)
 refine KW.nil (bc h (fun hc72 h=>?_) fun hc72 h=>?_)
 refine WW.condK hS rfl hc72 (WW.seq ?_)
 refine WW.region (sg0 hS 4 [] [82] [.bool ((y30.1.length:Int)==0)] [] (by kernel_rfl) fun s hS=>?_)
 refine aH 4 (fun s=>Stt EV s [(86,.bool (((y30.1.length:Int)==0)&&((y47.1.length:Int)==0))),(2,.bool false),(5,.slice a33 y30.1.length z34),(8,.slice a50 y47.1.length z51),(13,.pointer (some ⟨i70,0,none⟩))] [[(i70,.row [.slice a61 y58.1.length z62,.slice a65 y58.2.1.length z66,.int .i64 y58.2.2.1,.int .i64 y58.2.2.2] 55 0 true)],B64,B68,B53,B36,[(i1,.row [aa pA,.bool pB,.slice aE pC.length zH] 38 0 true)]] F60 L F nx0) ?_ fun s hS=>?_
 rcases ax (((y30.1.length:Int)==0)) with hcj | hcj
 replace hS:=hS.know (t:=82) rfl (congrArg Value.bool hcj)
 refine sg0 hS 4 [] [86] [.bool ((y47.1.length:Int)==0)] [] (by kernel_rfl) fun s hS=>(KW.nil ?_)
 exact(hS.know (t:=86) (u':= .bool (((y30.1.length:Int)==0)&&((y47.1.length:Int)==0))) rfl (bw hcj)).subR rfl
 replace hS:=hS.know (t:=82) rfl (congrArg Value.bool hcj)
 refine sg0 hS 4 [] [86] [.bool false] [] (by kernel_rfl) fun s hS=>(KW.nil ?_)
 exact(hS.know (t:=86) (u':= .bool (((y30.1.length:Int)==0)&&((y47.1.length:Int)==0))) rfl (bx hcj)).subR rfl
 refine sg0 hS 1 [] [2] [.bool (((y30.1.length:Int)==0)&&((y47.1.length:Int)==0))] [] (by kernel_rfl) fun s hS=>(KW.nil ?_)
 refine WW.ret ?_
 replace hS:=hS.drop
 replace hS:=hS.drop
 replace hS:=hS.drop
 replace hS:=hS.drop
 replace hS:=hS.drop
 replace hS:=hS.drop
 cases h
 exact aS hS (.inr rfl) 2 rfl rfl ⟨((FLe.trans hF15 (FLe.trans hF20 (FLe.trans hF28 (FLe.trans hF37 (FLe.trans hF45 (FLe.trans hF54 hF69))))))),rfl,rfl⟩
 refine WW.condF hS rfl hc72 (WW.skip ?_)
 refine WW.seq (WW.region ?_)
 refine sg0 hS 3 [0] [87,89] [.slice a33 y30.1.length z34,.slice a61 y58.1.length z62] [i70] (by kernel_rfl) fun s hS=>?_
 replace hS:=hS.pull 4
 obtain⟨F73,hF74,hS,hz75⟩:=hS.frzO (h35.mono (FLe.trans hF45 (FLe.trans hF54 hF69)))
 replace hS:=hS.pull 1
 obtain⟨F76,hF77,hS,hz78⟩:=hS.frzO (h63.mono hF74)
 obtain⟨y79,hy79,h⟩:=bind_some h
 refine bE hS (wn rfl) (vs:=[.slice a33 y30.1.length z34,.slice a61 y58.1.length z62]) (ws:=[.slice a33 y30.1.length z34,.slice a61 y58.1.length z62]) rfl rfl rfl rfl rfl 0 rfl (g_a.ok hy79 (hz75.mono hF77) hz78) fun s v S' F' hp80 hF hS=>?_
 obtain⟨rfl,rfl,rfl⟩:=hp80
 refine sg0 hS 1 [] [91] [.bool y79] [] (by kernel_rfl) fun s hS=>(bc h (fun hc81 h=>?_) fun hc81 h=>?_)
 replace hS:=hS.kb 90 hc81 rfl
 replace hS:=hS.kb 91 hc81 rfl
 refine sg0 hS 3 [0] [92,94] [.slice a50 y47.1.length z51,.slice a65 y58.2.1.length z66] [i70] (by kernel_rfl) fun s hS=>?_
 replace hS:=hS.pull 2
 obtain⟨F82,hF83,hS,hz84⟩:=hS.frzO (h52.mono (FLe.trans hF69 (FLe.trans hF74 hF77)))
 replace hS:=hS.pull 1
 obtain⟨F85,hF86,hS,hz87⟩:=hS.frzO (h67.mono (FLe.trans hF74 (FLe.trans hF77 hF83)))
 obtain⟨y88,hy88,h⟩:=bind_some h
 refine bE hS (wt hS rfl rfl rfl rfl) (vs:=[.slice a50 y47.1.length z51,.slice a65 y58.2.1.length z66]) (ws:=[.slice a50 y47.1.length z51,.slice a65 y58.2.1.length z66]) rfl rfl rfl rfl rfl 0 rfl (g_2.ok hy88 (hz84.mono hF86) hz87) fun s v S' F' hp89 hF hS=>?_
 obtain⟨rfl,rfl,rfl⟩:=hp89
 refine sg0 hS 2 [] [2] [.bool y88] [] (by kernel_rfl) fun s hS=>(KW.nil ?_)
 refine WW.ret ?_
 replace hS:=hS.drop
 replace hS:=hS.drop
 cases h
 exact aS hS (.inr rfl) 2 rfl rfl ⟨((FLe.trans hF15 (FLe.trans hF20 (FLe.trans hF28 (FLe.trans hF37 (FLe.trans hF45 (FLe.trans hF54 (FLe.trans hF69 (FLe.trans hF74 (FLe.trans hF77 (FLe.trans hF83 hF86))))))))))),rfl,rfl⟩
 replace hS:=hS.kb 90 hc81 rfl
 replace hS:=hS.kb 91 hc81 rfl
 refine sg0 hS 6 [] [2] [.bool false] [] (by kernel_rfl) fun s hS=>(KW.nil ?_)
 refine WW.ret ?_
 replace hS:=hS.drop
 replace hS:=hS.drop
 replace hS:=hS.drop
 replace hS:=hS.drop
 cases h
 exact aS hS (.inr rfl) 2 rfl rfl ⟨((FLe.trans hF15 (FLe.trans hF20 (FLe.trans hF28 (FLe.trans hF37 (FLe.trans hF45 (FLe.trans hF54 (FLe.trans hF69 (FLe.trans hF74 hF77))))))))),rfl,rfl⟩
end Go.Proofs.YtjcbhbncncbdjaaGreatDoorAi
