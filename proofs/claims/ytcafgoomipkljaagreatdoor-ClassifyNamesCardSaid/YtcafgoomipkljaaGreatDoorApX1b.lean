import Derived.Test.YtcafgoomipkljaaGreatDoorApX1a
namespace Go.Proofs.YtcafgoomipkljaaGreatDoorAi
set_option maxHeartbeats 4000000
open Go Go.RowKit
set_option linter.unusedVariables false
set_option linter.unusedSimpArgs false
set_option maxRecDepth 100000
noncomputable def g_1h.b0 (pB:List UInt8) (pC:List Int) (x3:Int×Bool):Option ((Int×Bool)⊕(Int×Bool)) :=
  (if x3.2 then Option.bind (g_1y.f pB pC x3.1 x3.2 44) fun y8=>(if y8.1 then Option.bind (g_1d.f pB pC y8.2 x3.2) fun y11=>some (.inl (y11.1,y11.2)) else some (.inr (y8.2,x3.2))) else some (.inr (x3.1,x3.2)))
noncomputable def g_1h.f (pB:List UInt8) (pC:List Int) (pI:Int) (pP:Bool):Option (Int×Bool) :=
  Option.bind (g_1d.f pB pC pI pP) fun y1=>Option.bind (iter (g_1h.b0 pB pC) (y1.1,y1.2)) fun o4=>some (o4.1,o4.2)
theorem g_1h.ok {iB:Nat} {aE:Option Addr} {zH:Nat} {aM:Option Addr} {zN:Nat} {BP:Seg} {pB:List UInt8} {pC:List Int} {pI:Int} {pJ:List Int} {pP:Bool} {F:FZ} {r:Int×Bool} (h:g_1h.f pB pC pI pP=some r) (hI:Frz (elI .i64 3) F aE zH pC) :
    Cl EV 109 [.pointer (some ⟨iB,0,none⟩),.func (.func 147) #[.pointer (some ⟨iB,0,none⟩)] #[]] [[(iB,.row [aa pB,.slice aE pC.length zH,.int .i64 pI,.slice aM pJ.length zN,.bool pP] 99 0 true)],BP] F (fun v S' F'=>F=F'∧v= .tuple #[]∧S'= [[(iB,.row [aa pB,.slice aE pC.length zH,.int .i64 r.1,.slice aM pJ.length zN,.bool r.2] 99 0 true)],BP]):=by
 refine Cl.of Tryz.func109 rfl (fun _ _=>rfl) (by kernel_rfl) fun s L nx0 hS=>?_
 unfold g_1h.f at h
 refine WW.seq (WW.region ?_)
 obtain⟨y1,hy1,h⟩:=bind_some h
 refine cR (g_1d.ok hy1 hI) hS 1 5 2 rfl (by kernel_rfl) fun s hS=>(KW.nil ?_)
 refine WW.block ?_
 obtain⟨o4,ho4,h⟩:=bind_some h
 refine WW.loop (LW.iterE ho4 (fun(x3:Int×Bool) s=>Stt EV s [(0,.pointer (some ⟨iB,0,none⟩)),(1,.func (.func 147) #[.pointer (some ⟨iB,0,none⟩)] #[])] [[(iB,.row [aa pB,.slice aE pC.length zH,.int .i64 x3.1,.slice aM pJ.length zN,.bool x3.2] 99 0 true)],BP] F L F nx0) 0 (hS.subR rfl) ?_ ?_)
 clear hS
 rintro x3 s hS o4' h6
 unfold g_1h.b0 at h6
 refine WW.seq (WW.seq ?_)
 refine WW.region (sg0 hS 5 [0] [10] [.bool x3.2] [iB] (by kernel_rfl) fun s hS=>?_)
 refine bc h6 (fun hc7 h6=>?_) fun hc7 h6=>?_
 replace hS:=hS.kb 10 hc7 rfl
 refine sg0 hS 1 [] [11] [.pointer (some ⟨iB,0,none⟩)] [] (by kernel_rfl) fun s hS=>?_
 obtain⟨y8,hy8,h6⟩:=bind_some h6
 refine bu hS (wt hS rfl rfl rfl rfl) (vs:=[.pointer (some ⟨iB,0,none⟩),vB 44]) (ws:=[.pointer (some ⟨iB,0,none⟩),vB 44]) rfl rfl rfl rfl rfl 2 rfl (g_1y.ok hy8 hI) fun s v S' F' hp9 hF hS=>?_
 obtain⟨rfl,rfl,rfl⟩:=hp9
 refine sg0 hS 1 [] [13] [.bool y8.1] [] (by kernel_rfl) fun s hS=>(KW.nil ?_)
 refine bc h6 (fun hc10 h6=>?_) fun hc10 h6=>?_
 refine WW.condK hS rfl hc10 (WW.skip ?_)
 refine WW.block (WW.region ?_)
 obtain⟨y11,hy11,h6⟩:=bind_some h6
 refine cR (g_1d.ok hy11 hI) hS 1 15 2 rfl (by kernel_rfl) fun s hS=>(KW.nil ?_)
 obtain rfl:=Option.some.inj h6
 exact⟨_,rfl,(hS.subR rfl)⟩
 refine WW.condF hS rfl hc10 (WW.exit ?_)
 refine ae ?_
 obtain rfl:=Option.some.inj h6
 exact⟨_,rfl,rfl,(hS.subR rfl)⟩
 replace hS:=hS.kb 10 hc7 rfl
 refine sg0 hS 3 [] [13] [.bool false] [] (by kernel_rfl) fun s hS=>(KW.nil ?_)
 refine WW.condF hS rfl rfl (WW.exit ?_)
 refine ae ?_
 obtain rfl:=Option.some.inj h6
 exact⟨_,rfl,rfl,(hS.subR rfl)⟩
 clear hS
 rintro e s ⟨rfl,hS⟩
 refine af ?_
 cases h
 exact aG hS (.inl rfl) rfl ⟨rfl,rfl,rfl⟩
noncomputable def g_1z.f (pB:List UInt8) (pI:Int) (pP:Bool):Option (Bool) :=
  (if pP then some (pI==(pB.length:Int)) else some false)
theorem g_1z.ok {iB:Nat} {aE:Option Addr} {zH:Nat} {aM:Option Addr} {zN:Nat} {BP:Seg} {pB:List UInt8} {pC:List Int} {pI:Int} {pJ:List Int} {pP:Bool} {F:FZ} {r:Bool} (h:g_1z.f pB pI pP=some r) :
    Cl EV 85 [.pointer (some ⟨iB,0,none⟩)] [[(iB,.row [aa pB,.slice aE pC.length zH,.int .i64 pI,.slice aM pJ.length zN,.bool pP] 99 0 true)],BP] F (fun v S' F'=>F=F'∧v= .bool r∧S'= [[(iB,.row [aa pB,.slice aE pC.length zH,.int .i64 pI,.slice aM pJ.length zN,.bool pP] 99 0 true)],BP]):=by
 refine Cl.of Tryz.func85 rfl (fun _ _=>rfl) (by kernel_rfl) fun s L nx0 hS=>?_
 unfold g_1z.f at h
 refine WW.seq (WW.region ?_)
 refine sg0 hS 1 [] [2] [.bool false] [] (by kernel_rfl) fun s hS=>(KW.nil ?_)
 refine WW.seq (WW.regionD (i:=[[],[],[],[],[],[],[],[],[],[8,7,6,5],[8,7,6,5],[8,7,6,5],[8,7,6,5],[8,7,6,5],[],[],[]]) (by kernel_rfl) ?_)
 have hq:=RS.start [iB]
 refine kg hS hq 3 [5] [.pointer (some ⟨iB,4,none⟩)] (by kernel_rfl) fun s rs hS hq=>(K.ld hS hq rfl (wn rfl) rfl rfl rfl (hS.at (k:=0) rfl) tg4 (v:= .bool pP) rfl 0 rfl rfl fun s rs hS hq=>?_)
 refine kg hS hq 1 [7] [.bool pP] (by kernel_rfl) fun s rs hS hq=>(bc h (fun hc1 h=>?_) fun hc1 h=>?_)
 replace hS:=hS.kb 6 hc1 rfl
 replace hS:=hS.kb 7 hc1 rfl
 refine kg hS hq 3 [10] [.pointer (some ⟨iB,2,none⟩)] (by kernel_rfl) fun s rs hS hq=>(K.ld hS hq rfl (wt hS rfl rfl rfl rfl) rfl rfl rfl (hS.at (k:=0) rfl) tg3 (v:= .int .i64 pI) rfl 0 rfl rfl fun s rs hS hq=>?_)
 refine kg hS hq 3 [14] [.pointer (some ⟨iB,0,none⟩)] (by kernel_rfl) fun s rs hS hq=>(K.ld hS hq rfl (wt hS rfl rfl rfl rfl) rfl rfl rfl (hS.at (k:=0) rfl) tg9 (v:=aa pB) rfl 0 rfl rfl fun s rs hS hq=>?_)
 refine kg hS hq 4 [2] [.bool (pI==(pB.length:Int))] (by kernel_rfl) fun s rs hS hq=>(KW.nil ?_)
 refine WW.ret ?_
 cases h
 exact ax hS (.inr rfl) 2 rfl rfl ⟨rfl,rfl,rfl⟩
 replace hS:=hS.kb 6 hc1 rfl
 replace hS:=hS.kb 7 hc1 rfl
 refine kg hS hq 12 [2] [.bool false] (by kernel_rfl) fun s rs hS hq=>(KW.nil ?_)
 refine WW.ret ?_
 cases h
 exact ax hS (.inr rfl) 2 rfl rfl ⟨rfl,rfl,rfl⟩
noncomputable def g_1e.f (pB:List UInt8) (pC:List Int) (pI:Int) (pP:Bool):Option (Int×Bool) :=
  Option.bind (g_1t.f pB pC pI pP) fun y1=>(if(!y1.2) then some (y1.1,y1.2) else(if 0≤(w64 (pI+1))∧(w64 (pI+1))≤(w64 (y1.1-1))∧(w64 (y1.1-1))≤(pB.length:Int) then Option.bind (g_22.f (mid pB (w64 (pI+1)) (w64 (y1.1-1)))) fun y5=>Option.bind (g_1h.f y5.1 y5.2.1 y5.2.2.1 y5.2.2.2.2) fun y17=>Option.bind (g_1z.f y5.1 y17.1 y17.2) fun y19=>Option.bind (g_1o.f y1.2 y19) fun y21=>some (y1.1,y21) else none))
theorem g_1e.ok {iB:Nat} {aE:Option Addr} {zH:Nat} {aM:Option Addr} {zN:Nat} {BP:Seg} {pB:List UInt8} {pC:List Int} {pI:Int} {pJ:List Int} {pP:Bool} {F:FZ} {r:Int×Bool} (h:g_1e.f pB pC pI pP=some r) (hI:Frz (elI .i64 3) F aE zH pC) (hG:Gl F) :
    Cl EV 148 [.pointer (some ⟨iB,0,none⟩)] [[(iB,.row [aa pB,.slice aE pC.length zH,.int .i64 pI,.slice aM pJ.length zN,.bool pP] 99 0 true)],BP] F (fun v S' F'=>FLe F F'∧v= .tuple #[]∧S'= [[(iB,.row [aa pB,.slice aE pC.length zH,.int .i64 r.1,.slice aM pJ.length zN,.bool r.2] 99 0 true)],BP]):=by
 refine Cl.of Tryz.func148 rfl (fun _ _=>rfl) (by kernel_rfl) fun s L nx0 hS=>?_
 unfold g_1e.f at h
 refine WW.seq (WW.region ?_)
 refine sg0 hS 5 [0] [2] [.int .i64 pI] [iB] (by kernel_rfl) fun s hS=>(KW.nil ?_)
 refine WW.seq (WW.region ?_)
 obtain⟨y1,hy1,h⟩:=bind_some h
 refine cR (g_1t.ok hy1 hI) hS 1 9 2 rfl (by kernel_rfl) fun s hS=>(KW.nil ?_)
 refine WW.seq (WW.seq ?_)
 refine WW.region (sg0 hS 5 [0] [14] [.bool (!y1.2)] [iB] (by kernel_rfl) fun s hS=>?_)
 refine KW.nil (bc h (fun hc3 h=>?_) fun hc3 h=>?_)
 refine WW.condK hS rfl hc3 (WW.ret ?_)
 cases h
 exact aG hS (.inr rfl) rfl ⟨(FLe.refl _),rfl,rfl⟩
 refine WW.condF hS rfl hc3 (WW.skip ?_)
 refine WW.seq (WW.regionD (i:=[[],[],[],[],[3,2,1,0],[3,2,1,0],[5,4,3,2,1,0],[5,4,3,2,1,0],[5,4,3,2,1,0],[5,4,3,2,1,0],[5,4,3,2,1,0],[],[],[]]) (by kernel_rfl) ?_)
 have hq:=RS.start [iB]
 refine kg hS hq 3 [17] [.pointer (some ⟨iB,0,none⟩)] (by kernel_rfl) fun s rs hS hq=>(K.ld hS hq rfl (wn rfl) rfl rfl rfl (hS.at (k:=0) rfl) tg9 (v:=aa pB) rfl 0 rfl rfl fun s rs hS hq=>?_)
 refine kg hS hq 5 [20,23] [.int .i64 (w64 (pI+1)),.pointer (some ⟨iB,2,none⟩)] (by kernel_rfl) fun s rs hS hq=>(K.ld hS hq rfl (wn rfl) rfl rfl rfl (hS.at (k:=0) rfl) tg3 (v:= .int .i64 y1.1) rfl 0 rfl rfl fun s rs hS hq=>?_)
 refine kg hS hq 1 [25] [.int .i64 (w64 (y1.1-1))] (by kernel_rfl) fun s rs hS hq=>?_
 obtain⟨hk4,h⟩:=ac h
 refine K.pu hS hq rfl (wn rfl) rfl rfl rfl (v:=aa (mid pB (w64 (pI+1)) (w64 (y1.1-1)))) (cU tu9 (hS.lk rfl) (i:=(w64 (pI+1))) (j:=(w64 (y1.1-1))) (bF hS rfl) (bF hS rfl) hk4) fun s rs hS hq=>?_
 obtain⟨y5,hy5,h⟩:=bind_some h
 refine K.cl hS hq rfl (wn rfl) (vs:=[aa (mid pB (w64 (pI+1)) (w64 (y1.1-1)))]) (ws:=[aa (mid pB (w64 (pI+1)) (w64 (y1.1-1)))]) rfl rfl rfl rfl rfl 0 rfl (g_22.ok hy5 hG)  [0] rfl rfl (aP rfl mm0 bn) fun s rs v S' F7 hp6 hF hS hq=>?_
 obtain⟨i8,a9,z10,a12,z13,B15,hF16,rfl,rfl,h11,h14⟩:=hp6
 refine kg hS hq 1 [3] [.pointer (some ⟨i8,0,none⟩)] (by kernel_rfl) fun s rs hS hq=>(KW.nil ?_)
 refine WW.seq (WW.region ?_)
 refine sg0 hS 2 [] [28,29] [.pointer (some ⟨i8,0,none⟩),.pointer (some ⟨i8,0,none⟩)] [] (by kernel_rfl) fun s hS=>(aw hS (wn rfl) rfl rfl rfl (v:= .func (.func 147) #[.pointer (some ⟨i8,0,none⟩)] #[]) (cF (bb hS (vs:=[.pointer (some ⟨i8,0,none⟩)]) rfl) (bb hS (vs:=[]) rfl)) fun s hS=>?_)
 obtain⟨y17,hy17,h⟩:=bind_some h
 refine cR (g_1h.ok hy17 h11) hS 0 31 2 rfl (by kernel_rfl) fun s hS=>(KW.nil ?_)
 refine WW.region (sg0 hS 2 [] [32,33] [.pointer (some ⟨iB,0,none⟩),.pointer (some ⟨i8,0,none⟩)] [] (by kernel_rfl) fun s hS=>?_)
 obtain⟨y19,hy19,h⟩:=bind_some h
 refine bu hS (wn rfl) (vs:=[.pointer (some ⟨i8,0,none⟩)]) (ws:=[.pointer (some ⟨i8,0,none⟩)]) rfl rfl rfl rfl rfl 2 rfl (g_1z.ok hy19) fun s v S' F' hp20 hF hS=>?_
 obtain⟨rfl,rfl,rfl⟩:=hp20
 obtain⟨y21,hy21,h⟩:=bind_some h
 replace hS:=hS.pull 3
 replace hS:=hS.pull 3
 refine cR (g_1o.ok hy21) hS 0 35 2 rfl (by kernel_rfl) fun s hS=>(KW.nil ?_)
 replace hS:=(hS.pull 2).drop
 replace hS:=(hS.pull 2).drop
 cases h
 exact aG hS (.inl rfl) rfl ⟨(hF16),rfl,rfl⟩
noncomputable def g_w.f (pB:List UInt8) (pC:List Int) (pI:Int) (pJ:List Int) (pP:Bool):Option (Int×List Int×Bool) :=
  Option.bind (Option.bind (g_18.f pB pC pI pP) fun y6=>(if y6 then Option.bind (g_1d.f pB pC pI pP) fun y9=>Option.bind (g_1y.f pB pC y9.1 y9.2 44) fun y11=>(if(!y11.1) then Option.bind (g_t.f pB y11.2 pJ y9.2) fun y14=>some (y11.2,y14,y9.2) else some (y11.2,pJ,y9.2)) else some (pI,pJ,pP))) fun z1=>Option.bind (g_1p.f pB pC z1.1 z1.2.2) fun y20=>Option.bind (g_1v.f pB pC y20.1 y20.2 61) fun y22=>Option.bind (g_y.f pB pC y22.1 y22.2) fun y24=>Option.bind (g_1v.f pB pC y24.1 y24.2 44) fun y26=>Option.bind (g_y.f pB pC y26.1 y26.2) fun y28=>Option.bind (g_1y.f pB pC y28.1 y28.2 44) fun y30=>(if y30.1 then Option.bind (g_y.f pB pC y30.2 y28.2) fun y33=>some (y33.1,z1.2.1,y33.2) else some (y30.2,z1.2.1,y28.2))
theorem g_w.ok {iB:Nat} {aE:Option Addr} {zH:Nat} {aM:Option Addr} {zN:Nat} {BP:Seg} {pB:List UInt8} {pC:List Int} {pI:Int} {pJ:List Int} {pP:Bool} {F:FZ} {r:Int×List Int×Bool} (h:g_w.f pB pC pI pJ pP=some r) (hI:Frz (elI .i64 3) F aE zH pC) (hO:Own (elI .i64 3) F aM zN pJ BP) :
    Cl EV 149 [.pointer (some ⟨iB,0,none⟩)] [[(iB,.row [aa pB,.slice aE pC.length zH,.int .i64 pI,.slice aM pJ.length zN,.bool pP] 99 0 true)],BP] F (fun v S' F'=> ∃(ra1:Option Addr) (rz2:Nat) (rB4:Seg),F=F'∧v= .tuple #[]∧S'= [[(iB,.row [aa pB,.slice aE pC.length zH,.int .i64 r.1,.slice ra1 r.2.1.length rz2,.bool r.2.2] 99 0 true)],rB4]∧Own (elI .i64 3) F' ra1 rz2 r.2.1 rB4):=by
 refine Cl.of Tryz.func149 rfl (fun _ _=>rfl) (by kernel_rfl) fun s L nx0 hS=>?_
 unfold g_w.f at h
 obtain⟨z1,hz1,h⟩:=bind_some h
 refine WW.seqJ (fun s=> ∃(a2:Option Addr) (z3:Nat) (B5:Seg),Stt EV s [(0,.pointer (some ⟨iB,0,none⟩))] [[(iB,.row [aa pB,.slice aE pC.length zH,.int .i64 z1.1,.slice a2 z1.2.1.length z3,.bool z1.2.2] 99 0 true)],B5] F L F nx0∧Own (elI .i64 3) F a2 z3 z1.2.1 B5) ?_ ?_
 refine WW.seq (WW.region ?_)
 obtain⟨y6,hy6,hz1⟩:=bind_some hz1
 refine cR (g_18.ok hy6 hI) hS 1 3 2 rfl (by kernel_rfl) fun s hS=>(KW.nil ?_)
 refine bc hz1 (fun hc8 hz1=>?_) fun hc8 hz1=>?_
 refine WW.condK hS rfl hc8 (WW.seq ?_)
 refine WW.region ?_
 obtain⟨y9,hy9,hz1⟩:=bind_some hz1
 refine cR (g_1d.ok hy9 hI) hS 1 5 2 rfl (by kernel_rfl) fun s hS=>(KW.nil ?_)
 refine WW.seq (WW.region ?_)
 obtain⟨y11,hy11,hz1⟩:=bind_some hz1
 refine cR (g_1y.ok hy11 hI) hS 1 7 2 rfl (by kernel_rfl) fun s hS=>(sg0 hS 1 [] [8] [.bool (!y11.1)] [] (by kernel_rfl) fun s hS=>?_)
 refine KW.nil (bc hz1 (fun hc13 hz1=>?_) fun hc13 hz1=>?_)
 refine WW.condK hS rfl hc13 (WW.region ?_)
 obtain⟨y14,hy14,hz1⟩:=bind_some hz1
 refine cK (g_t.ok hy14 hO) hS 1 10 2 rfl (by kernel_rfl) fun s v S' F' hp15 hF hS=>?_
 obtain⟨a16,z17,B19,rfl,rfl,rfl,h18⟩:=hp15
 refine KW.nil ?_
 obtain rfl:=Option.some.inj hz1
 exact⟨_,_,_,(hS.subR rfl),h18⟩
 refine WW.condF hS rfl hc13 (WW.skip ?_)
 obtain rfl:=Option.some.inj hz1
 exact⟨_,_,_,(hS.subR rfl),hO⟩
 refine WW.condF hS rfl hc8 (WW.skip ?_)
 obtain rfl:=Option.some.inj hz1
 exact⟨_,_,_,(hS.subR rfl),hO⟩
 rintro s ⟨a2,z3,B5,hS,h4⟩
 refine WW.seq (WW.region ?_)
 obtain⟨y20,hy20,h⟩:=bind_some h
 refine cR (g_1p.ok hy20 hI) hS 1 12 2 rfl (by kernel_rfl) fun s hS=>(KW.nil ?_)
 refine WW.seq (WW.region ?_)
 obtain⟨y22,hy22,h⟩:=bind_some h
 refine cR (g_1v.ok hy22 hI) hS 1 14 2 rfl (by kernel_rfl) fun s hS=>(KW.nil ?_)
 refine WW.seq (WW.region ?_)
 obtain⟨y24,hy24,h⟩:=bind_some h
 refine cR (g_y.ok hy24 hI) hS 1 16 2 rfl (by kernel_rfl) fun s hS=>(KW.nil ?_)
 refine WW.seq (WW.region ?_)
 obtain⟨y26,hy26,h⟩:=bind_some h
 refine cR (g_1v.ok hy26 hI) hS 1 18 2 rfl (by kernel_rfl) fun s hS=>(KW.nil ?_)
 refine WW.seq (WW.region ?_)
 obtain⟨y28,hy28,h⟩:=bind_some h
 refine cR (g_y.ok hy28 hI) hS 1 20 2 rfl (by kernel_rfl) fun s hS=>(KW.nil ?_)
 refine WW.seq (WW.region ?_)
 obtain⟨y30,hy30,h⟩:=bind_some h
 refine cR (g_1y.ok hy30 hI) hS 1 22 2 rfl (by kernel_rfl) fun s hS=>(KW.nil ?_)
 refine bc h (fun hc32 h=>?_) fun hc32 h=>?_
 refine WW.condK hS rfl hc32 (WW.region ?_)
 obtain⟨y33,hy33,h⟩:=bind_some h
 refine cR (g_y.ok hy33 hI) hS 1 24 2 rfl (by kernel_rfl) fun s hS=>(KW.nil ?_)
 cases h
 exact aG hS (.inl rfl) rfl ⟨_,_,_,rfl,rfl,rfl,h4⟩
 refine WW.condF hS rfl hc32 (WW.skip ?_)
 cases h
 exact aG hS (.inl rfl) rfl ⟨_,_,_,rfl,rfl,rfl,h4⟩
noncomputable def g_11.f (pB:List UInt8) (pI:Int) (pP:Bool):Option (Bool) :=
  (if pP then some (decide (pI<(pB.length:Int))) else some false)
theorem g_11.ok {iB:Nat} {aE:Option Addr} {zH:Nat} {aM:Option Addr} {zN:Nat} {BP:Seg} {pB:List UInt8} {pC:List Int} {pI:Int} {pJ:List Int} {pP:Bool} {F:FZ} {r:Bool} (h:g_11.f pB pI pP=some r) :
    Cl EV 150 [.pointer (some ⟨iB,0,none⟩)] [[(iB,.row [aa pB,.slice aE pC.length zH,.int .i64 pI,.slice aM pJ.length zN,.bool pP] 99 0 true)],BP] F (fun v S' F'=>F=F'∧v= .bool r∧S'= [[(iB,.row [aa pB,.slice aE pC.length zH,.int .i64 pI,.slice aM pJ.length zN,.bool pP] 99 0 true)],BP]):=by
 refine Cl.of Tryz.func150 rfl (fun _ _=>rfl) (by kernel_rfl) fun s L nx0 hS=>?_
 unfold g_11.f at h
 refine WW.seq (WW.region ?_)
 refine sg0 hS 1 [] [2] [.bool false] [] (by kernel_rfl) fun s hS=>(KW.nil ?_)
 refine WW.seq (WW.regionD (i:=[[],[],[],[],[],[],[],[],[],[8,7,6,5],[8,7,6,5],[8,7,6,5],[8,7,6,5],[8,7,6,5],[],[],[]]) (by kernel_rfl) ?_)
 have hq:=RS.start [iB]
 refine kg hS hq 3 [5] [.pointer (some ⟨iB,4,none⟩)] (by kernel_rfl) fun s rs hS hq=>(K.ld hS hq rfl (wn rfl) rfl rfl rfl (hS.at (k:=0) rfl) tg4 (v:= .bool pP) rfl 0 rfl rfl fun s rs hS hq=>?_)
 refine kg hS hq 1 [7] [.bool pP] (by kernel_rfl) fun s rs hS hq=>(bc h (fun hc1 h=>?_) fun hc1 h=>?_)
 replace hS:=hS.kb 6 hc1 rfl
 replace hS:=hS.kb 7 hc1 rfl
 refine kg hS hq 3 [10] [.pointer (some ⟨iB,2,none⟩)] (by kernel_rfl) fun s rs hS hq=>(K.ld hS hq rfl (wt hS rfl rfl rfl rfl) rfl rfl rfl (hS.at (k:=0) rfl) tg3 (v:= .int .i64 pI) rfl 0 rfl rfl fun s rs hS hq=>?_)
 refine kg hS hq 3 [14] [.pointer (some ⟨iB,0,none⟩)] (by kernel_rfl) fun s rs hS hq=>(K.ld hS hq rfl (wt hS rfl rfl rfl rfl) rfl rfl rfl (hS.at (k:=0) rfl) tg9 (v:=aa pB) rfl 0 rfl rfl fun s rs hS hq=>?_)
 refine kg hS hq 4 [2] [.bool (decide (pI<(pB.length:Int)))] (by kernel_rfl) fun s rs hS hq=>(KW.nil ?_)
 refine WW.ret ?_
 cases h
 exact ax hS (.inr rfl) 2 rfl rfl ⟨rfl,rfl,rfl⟩
 replace hS:=hS.kb 6 hc1 rfl
 replace hS:=hS.kb 7 hc1 rfl
 refine kg hS hq 12 [2] [.bool false] (by kernel_rfl) fun s rs hS hq=>(KW.nil ?_)
 refine WW.ret ?_
 cases h
 exact ax hS (.inr rfl) 2 rfl rfl ⟨rfl,rfl,rfl⟩
noncomputable def g_1x.f (pB:List UInt8) (pC:List Int) (pI:Int) (pP:Bool):Option (Int×Bool) :=
  Option.bind (g_11.f pB pI pP) fun y1=>(if(!y1) then some (pI,pP) else(if 0≤pI∧pI≤(pB.length:Int)∧(pB.length:Int)≤(pB.length:Int) then Option.bind (g_2s.f (mid pB pI (pB.length:Int))) fun y5=>(if 0≤(0:Int)∧(0:Int)<((mid pB pI (pB.length:Int)).length:Int) then Option.bind ((if(((gt (mid pB pI (pB.length:Int)) (0:Int)).toNat:Int)==((39:UInt8).toNat:Int)) then some true else(if 0≤(0:Int)∧(0:Int)<((mid pB pI (pB.length:Int)).length:Int) then some (((gt (mid pB pI (pB.length:Int)) (0:Int)).toNat:Int)==((34:UInt8).toNat:Int)) else none))) fun z14=>Option.bind ((if(z14&&((y5.1.length:Int)==1)) then(if 0≤(0:Int)∧(0:Int)<(y5.1.length:Int) then some ((((gt y5.1 (0:Int)).1)==0)&&(((gt y5.1 (0:Int)).2)==((mid pB pI (pB.length:Int)).length:Int))) else none) else some false)) fun z17=>(if z17 then some ((pB.length:Int),pP) else Option.bind (g_v.f pB pC pI pP) fun y30=>some (y30.2.1,y30.2.2)) else none) else none))
theorem g_1x.ok {iB:Nat} {aE:Option Addr} {zH:Nat} {aM:Option Addr} {zN:Nat} {BP:Seg} {pB:List UInt8} {pC:List Int} {pI:Int} {pJ:List Int} {pP:Bool} {F:FZ} {r:Int×Bool} (h:g_1x.f pB pC pI pP=some r) (hI:Frz (elI .i64 3) F aE zH pC) (hG:Gl F) :
    Cl EV 151 [.pointer (some ⟨iB,0,none⟩)] [[(iB,.row [aa pB,.slice aE pC.length zH,.int .i64 pI,.slice aM pJ.length zN,.bool pP] 99 0 true)],BP] F (fun v S' F'=>FLe F F'∧v= .tuple #[]∧S'= [[(iB,.row [aa pB,.slice aE pC.length zH,.int .i64 r.1,.slice aM pJ.length zN,.bool r.2] 99 0 true)],BP]):=by
 refine Cl.of Tryz.func151 rfl (fun _ _=>rfl) (by kernel_rfl) fun s L nx0 hS=>?_
 unfold g_1x.f at h
 refine WW.seq (WW.seq ?_)
 refine WW.region ?_
 obtain⟨y1,hy1,h⟩:=bind_some h
 refine cR (g_11.ok hy1) hS 1 6 2 rfl (by kernel_rfl) fun s hS=>(sg0 hS 1 [] [7] [.bool (!y1)] [] (by kernel_rfl) fun s hS=>?_)
 refine KW.nil (bc h (fun hc3 h=>?_) fun hc3 h=>?_)
 refine WW.condK hS rfl hc3 (WW.ret ?_)
 cases h
 exact aG hS (.inr rfl) rfl ⟨(FLe.refl _),rfl,rfl⟩
 refine WW.condF hS rfl hc3 (WW.skip ?_)
 refine WW.seq (WW.regionD (i:=[[],[],[],[],[3,2,1,0],[3,2,1,0],[3,2,1,0],[3,2,1,0],[],[]]) (by kernel_rfl) ?_)
 have hq:=RS.start [iB]
 refine kg hS hq 3 [10] [.pointer (some ⟨iB,0,none⟩)] (by kernel_rfl) fun s rs hS hq=>(K.ld hS hq rfl (wn rfl) rfl rfl rfl (hS.at (k:=0) rfl) tg9 (v:=aa pB) rfl 0 rfl rfl fun s rs hS hq=>?_)
 refine kg hS hq 3 [14] [.pointer (some ⟨iB,2,none⟩)] (by kernel_rfl) fun s rs hS hq=>(K.ld hS hq rfl (wn rfl) rfl rfl rfl (hS.at (k:=0) rfl) tg3 (v:= .int .i64 pI) rfl 0 rfl rfl fun s rs hS hq=>?_)
 obtain⟨hk4,h⟩:=ac h
 refine K.pu hS hq rfl (wn rfl) rfl rfl rfl (v:=aa (mid pB pI (pB.length:Int))) (cU tu9 (hS.lk rfl) (i:=pI) (j:=(pB.length:Int)) (bF hS rfl) rfl hk4) fun s rs hS hq=>(kg hS hq 1 [2] [aa (mid pB pI (pB.length:Int))] (by kernel_rfl) fun s rs hS hq=>?_)
 refine KW.nil (WW.seq ?_)
 refine WW.seq (WW.region ?_)
 obtain⟨y5,hy5,h⟩:=bind_some h
 refine cK (g_2s.ok hy5 hG) hS 1 19 0 rfl (by kernel_rfl) fun s v S' F7 hp6 hF hS=>?_
 obtain⟨a8,z9,B11,hF12,rfl,rfl,h10⟩:=hp6
 refine sg0 hS 5 [] [3] [.slice a8 y5.1.length z9] [] (by kernel_rfl) fun s hS=>(KW.nil ?_)
 refine WW.seq (WW.region ?_)
 refine sg0 hS 1 [] [22] [aa (mid pB pI (pB.length:Int))] [] (by kernel_rfl) fun s hS=>?_
 obtain⟨hk13,h⟩:=ac h
 refine aw hS (wn rfl) rfl rfl rfl (v:=vB (gt (mid pB pI (pB.length:Int)) (0:Int))) (au tu9 (hS.lk rfl) (hS.lk rfl) hk13) fun s hS=>(sg0 hS 2 [] [25] [.bool (((gt (mid pB pI (pB.length:Int)) (0:Int)).toNat:Int)==((39:UInt8).toNat:Int))] [] (by kernel_rfl) fun s hS=>?_)
 obtain⟨z14,hz14,h⟩:=bind_some h
 refine ay 4 (fun s=>Stt EV s [(29,.bool z14),(0,.pointer (some ⟨iB,0,none⟩)),(2,aa (mid pB pI (pB.length:Int))),(3,.slice a8 y5.1.length z9)] [B11,[(iB,.row [aa pB,.slice aE pC.length zH,.int .i64 pI,.slice aM pJ.length zN,.bool pP] 99 0 true)],BP] F7 L F nx0) ?_ fun s hS=>?_
 refine bc hz14 (fun hc15 hz14=>?_) fun hc15 hz14=>?_
 replace hS:=hS.kb 25 hc15 rfl
 refine sg0 hS 4 [] [29] [.bool true] [] (by kernel_rfl) fun s hS=>(KW.nil ?_)
 obtain rfl:=Option.some.inj hz14
 exact hS.subR rfl
 replace hS:=hS.kb 25 hc15 rfl
 refine sg0 hS 1 [] [26] [aa (mid pB pI (pB.length:Int))] [] (by kernel_rfl) fun s hS=>?_
 obtain⟨hk16,hz14⟩:=ac hz14
 refine aw hS (wt hS rfl rfl rfl rfl) rfl rfl rfl (v:=vB (gt (mid pB pI (pB.length:Int)) (0:Int))) (au tu9 (hS.lk rfl) (hS.lk rfl) hk16) fun s hS=>(sg0 hS 2 [] [29] [.bool (((gt (mid pB pI (pB.length:Int)) (0:Int)).toNat:Int)==((34:UInt8).toNat:Int))] [] (by kernel_rfl) fun s hS=>?_)
 refine KW.nil ?_
 obtain rfl:=Option.some.inj hz14
 exact hS.subR rfl
 refine sg0 hS 1 [] [30] [.bool z14] [] (by kernel_rfl) fun s hS=>(ay 4 (fun s=>Stt EV s [(34,.bool (z14&&((y5.1.length:Int)==1))),(0,.pointer (some ⟨iB,0,none⟩)),(2,aa (mid pB pI (pB.length:Int))),(3,.slice a8 y5.1.length z9)] [B11,[(iB,.row [aa pB,.slice aE pC.length zH,.int .i64 pI,.slice aM pJ.length zN,.bool pP] 99 0 true)],BP] F7 L F nx0) ?_ fun s hS=>?_)
 rcases aj (z14) with hcj | hcj
 replace hS:=hS.know (t:=29) rfl (congrArg Value.bool hcj)
 replace hS:=hS.know (t:=30) rfl (congrArg Value.bool hcj)
 refine sg0 hS 4 [] [34] [.bool ((y5.1.length:Int)==1)] [] (by kernel_rfl) fun s hS=>(KW.nil ?_)
 exact(hS.know (t:=34) (u':= .bool (z14&&((y5.1.length:Int)==1))) rfl (aJ hcj)).subR rfl
 replace hS:=hS.know (t:=29) rfl (congrArg Value.bool hcj)
 replace hS:=hS.know (t:=30) rfl (congrArg Value.bool hcj)
 refine sg0 hS 4 [] [34] [.bool false] [] (by kernel_rfl) fun s hS=>(KW.nil ?_)
 exact(hS.know (t:=34) (u':= .bool (z14&&((y5.1.length:Int)==1))) rfl (aL hcj)).subR rfl
 refine sg0 hS 1 [] [35] [.bool (z14&&((y5.1.length:Int)==1))] [] (by kernel_rfl) fun s hS=>?_
 obtain⟨z17,hz17,h⟩:=bind_some h
 refine ay 8 (fun s=>Stt EV s [(43,.bool z17),(0,.pointer (some ⟨iB,0,none⟩))] [B11,[(iB,.row [aa pB,.slice aE pC.length zH,.int .i64 pI,.slice aM pJ.length zN,.bool pP] 99 0 true)],BP] F7 L F nx0) ?_ fun s hS=>?_
 refine bc hz17 (fun hc18 hz17=>?_) fun hc18 hz17=>?_
 replace hS:=hS.kb 34 hc18 rfl
 replace hS:=hS.kb 35 hc18 rfl
 refine sg0 hS 1 [] [36] [.slice a8 y5.1.length z9] [] (by kernel_rfl) fun s hS=>?_
 obtain⟨hk19,hz17⟩:=ac hz17
 obtain⟨i25,cs26,ex27,rfl,rfl,rfl,hC28⟩:=Own.some_ h10 (by omega)
 obtain⟨c20,hR21,hN23,hN22,hT24⟩:=ai.loadF hC28 ex27 hk19 (z:=2) rfl
 obtain rfl:=hR21
 refine aw hS (wt hS rfl rfl rfl rfl) rfl rfl rfl (v:= .pointer (some ⟨i25,0+((0:Int)).toNat*2,none⟩)) (aF (hS.lk rfl) (hS.lk rfl) te46 hk19) fun s hS=>(ja hS (wt hS rfl rfl rfl rfl) rfl rfl rfl (hS.at (k:=0) rfl) tg50 ro (vs:=[.int .i64 ((gt y5.1 (0:Int)).1),.int .i64 ((gt y5.1 (0:Int)).2)]) hT24 fun s hS=>?_)
 refine sg0 hS 2 [] [40] [.int .i64 ((mid pB pI (pB.length:Int)).length:Int)] [] (by kernel_rfl) fun s hS=>(aw hS (wt hS rfl rfl rfl rfl) rfl rfl rfl (v:= .agg #[.int .i64 0,.int .i64 ((mid pB pI (pB.length:Int)).length:Int)]) (eq fV tf tz3 [(0,.int .i64 0),(1,.int .i64 ((mid pB pI (pB.length:Int)).length:Int))] (av hS rfl) (cs:=[.int .i64 0,.int .i64 ((mid pB pI (pB.length:Int)).length:Int)]) rfl) fun s hS=>?_)
 refine aw hS (wt hS rfl rfl rfl rfl) rfl rfl rfl (v:= .bool ((((gt y5.1 (0:Int)).1)==0)&&(((gt y5.1 (0:Int)).2)==((mid pB pI (pB.length:Int)).length:Int)))) (ta34e (hS.lk rfl) (hS.lk rfl)) fun s hS=>(sg0 hS 1 [] [43] [.bool ((((gt y5.1 (0:Int)).1)==0)&&(((gt y5.1 (0:Int)).2)==((mid pB pI (pB.length:Int)).length:Int)))] [] (by kernel_rfl) fun s hS=>?_)
 refine KW.nil ?_
 obtain rfl:=Option.some.inj hz17
 exact hS.subR rfl
 replace hS:=hS.kb 34 hc18 rfl
 replace hS:=hS.kb 35 hc18 rfl
 refine sg0 hS 8 [] [43] [.bool false] [] (by kernel_rfl) fun s hS=>(KW.nil ?_)
 obtain rfl:=Option.some.inj hz17
 exact hS.subR rfl
 refine KW.nil (bc h (fun hc29 h=>?_) fun hc29 h=>?_)
 refine WW.condK hS rfl hc29 (WW.seq ?_)
 refine WW.region (sg hS 9 [1,1] [] [] [iB,iB] [B11,[(iB,.row [aa pB,.slice aE pC.length zH,.int .i64 (pB.length:Int),.slice aM pJ.length zN,.bool pP] 99 0 true)],BP] (by kernel_rfl) fun s hS=>?_)
 refine KW.nil (WW.ret ?_)
 replace hS:=hS.drop
 cases h
 exact aG hS (.inr rfl) rfl ⟨(hF12),rfl,rfl⟩
 refine WW.condF hS rfl hc29 (WW.skip ?_)
 refine WW.region ?_
 obtain⟨y30,hy30,h⟩:=bind_some h
 replace hS:=hS.pull 2
 replace hS:=hS.pull 2
 refine cR (g_v.ok hy30 (hI.mono hF12)) hS 1 53 2 rfl (by kernel_rfl) fun s hS=>(KW.nil ?_)
 replace hS:=(hS.pull 2).drop
 cases h
 exact aG hS (.inl rfl) rfl ⟨(hF12),rfl,rfl⟩
noncomputable def g_1u.f (pB:List UInt8) (pC:List Int) (pI:Int) (pP:Bool):Option (Int×Bool) :=
  Option.bind (g_1w.f pB pC pI pP ([61])) fun y1=>some (y1.1,y1.2)
theorem g_1u.ok {iB:Nat} {aE:Option Addr} {zH:Nat} {aM:Option Addr} {zN:Nat} {BP:Seg} {pB:List UInt8} {pC:List Int} {pI:Int} {pJ:List Int} {pP:Bool} {F:FZ} {r:Int×Bool} (h:g_1u.f pB pC pI pP=some r) (hI:Frz (elI .i64 3) F aE zH pC) :
    Cl EV 170 [.pointer (some ⟨iB,0,none⟩)] [[(iB,.row [aa pB,.slice aE pC.length zH,.int .i64 pI,.slice aM pJ.length zN,.bool pP] 99 0 true)],BP] F (fun v S' F'=>F=F'∧v= .tuple #[]∧S'= [[(iB,.row [aa pB,.slice aE pC.length zH,.int .i64 r.1,.slice aM pJ.length zN,.bool r.2] 99 0 true)],BP]):=by
 refine Cl.of Tryz.func170 rfl (fun _ _=>rfl) (by kernel_rfl) fun s L nx0 hS=>?_
 unfold g_1u.f at h
 refine WW.region ?_
 obtain⟨y1,hy1,h⟩:=bind_some h
 refine cR (g_1w.ok hy1 hI) hS 1 3 2 rfl (by kernel_rfl) fun s hS=>(KW.nil ?_)
 cases h
 exact aG hS (.inl rfl) rfl ⟨rfl,rfl,rfl⟩
noncomputable def g_1b.f (pB:List UInt8) (pC:List Int) (pI:Int) (pP:Bool):Option (Int×Bool) :=
  Option.bind (g_1t.f pB pC pI pP) fun y1=>Option.bind (g_11.f pB y1.1 y1.2) fun y3=>(if y3 then Option.bind (g_13.f pB pC y1.1 y1.2 44) fun y6=>Option.bind (g_1o.f y1.2 (!y6)) fun y8=>Option.bind (g_1u.f pB pC y1.1 y8) fun y10=>some (y10.1,y10.2) else some (y1.1,y1.2))
theorem g_1b.ok {iB:Nat} {aE:Option Addr} {zH:Nat} {aM:Option Addr} {zN:Nat} {BP:Seg} {pB:List UInt8} {pC:List Int} {pI:Int} {pJ:List Int} {pP:Bool} {F:FZ} {r:Int×Bool} (h:g_1b.f pB pC pI pP=some r) (hI:Frz (elI .i64 3) F aE zH pC) :
    Cl EV 166 [.pointer (some ⟨iB,0,none⟩)] [[(iB,.row [aa pB,.slice aE pC.length zH,.int .i64 pI,.slice aM pJ.length zN,.bool pP] 99 0 true)],BP] F (fun v S' F'=>F=F'∧v= .tuple #[]∧S'= [[(iB,.row [aa pB,.slice aE pC.length zH,.int .i64 r.1,.slice aM pJ.length zN,.bool r.2] 99 0 true)],BP]):=by
 refine Cl.of Tryz.func166 rfl (fun _ _=>rfl) (by kernel_rfl) fun s L nx0 hS=>?_
 unfold g_1b.f at h
 refine WW.seq (WW.region ?_)
 obtain⟨y1,hy1,h⟩:=bind_some h
 refine cR (g_1t.ok hy1 hI) hS 1 3 2 rfl (by kernel_rfl) fun s hS=>(KW.nil ?_)
 refine WW.seq (WW.region ?_)
 obtain⟨y3,hy3,h⟩:=bind_some h
 refine cR (g_11.ok hy3) hS 1 5 2 rfl (by kernel_rfl) fun s hS=>(KW.nil ?_)
 refine bc h (fun hc5 h=>?_) fun hc5 h=>?_
 refine WW.condK hS rfl hc5 (WW.seq ?_)
 refine WW.region (sg0 hS 2 [] [6,7] [.pointer (some ⟨iB,0,none⟩),.pointer (some ⟨iB,0,none⟩)] [] (by kernel_rfl) fun s hS=>?_)
 obtain⟨y6,hy6,h⟩:=bind_some h
 refine bu hS (wn rfl) (vs:=[.pointer (some ⟨iB,0,none⟩),vB 44]) (ws:=[.pointer (some ⟨iB,0,none⟩),vB 44]) rfl rfl rfl rfl rfl 2 rfl (g_13.ok hy6 hI) fun s v S' F' hp7 hF hS=>?_
 obtain⟨rfl,rfl,rfl⟩:=hp7
 obtain⟨y8,hy8,h⟩:=bind_some h
 refine cR (g_1o.ok hy8) hS 1 10 2 rfl (by kernel_rfl) fun s hS=>(KW.nil ?_)
 refine WW.region ?_
 obtain⟨y10,hy10,h⟩:=bind_some h
 refine cR (g_1u.ok hy10 hI) hS 1 12 2 rfl (by kernel_rfl) fun s hS=>(KW.nil ?_)
 cases h
 exact aG hS (.inl rfl) rfl ⟨rfl,rfl,rfl⟩
 refine WW.condF hS rfl hc5 (WW.skip ?_)
 cases h
 exact aG hS (.inl rfl) rfl ⟨rfl,rfl,rfl⟩
noncomputable def g_1a.f (pB:List UInt8) (pC:List Int) (pI:Int) (pP:Bool):Option (Int×Bool) :=
  Option.bind (g_y.f pB pC pI pP) fun y1=>Option.bind (g_1y.f pB pC y1.1 y1.2 44) fun y3=>(if y3.1 then Option.bind (g_1u.f pB pC y3.2 y1.2) fun y6=>some (y6.1,y6.2) else some (y3.2,y1.2))
theorem g_1a.ok {iB:Nat} {aE:Option Addr} {zH:Nat} {aM:Option Addr} {zN:Nat} {BP:Seg} {pB:List UInt8} {pC:List Int} {pI:Int} {pJ:List Int} {pP:Bool} {F:FZ} {r:Int×Bool} (h:g_1a.f pB pC pI pP=some r) (hI:Frz (elI .i64 3) F aE zH pC) :
    Cl EV 167 [.pointer (some ⟨iB,0,none⟩)] [[(iB,.row [aa pB,.slice aE pC.length zH,.int .i64 pI,.slice aM pJ.length zN,.bool pP] 99 0 true)],BP] F (fun v S' F'=>F=F'∧v= .tuple #[]∧S'= [[(iB,.row [aa pB,.slice aE pC.length zH,.int .i64 r.1,.slice aM pJ.length zN,.bool r.2] 99 0 true)],BP]):=by
 refine Cl.of Tryz.func167 rfl (fun _ _=>rfl) (by kernel_rfl) fun s L nx0 hS=>?_
 unfold g_1a.f at h
 refine WW.seq (WW.region ?_)
 obtain⟨y1,hy1,h⟩:=bind_some h
 refine cR (g_y.ok hy1 hI) hS 1 3 2 rfl (by kernel_rfl) fun s hS=>(KW.nil ?_)
 refine WW.seq (WW.region ?_)
 obtain⟨y3,hy3,h⟩:=bind_some h
 refine cR (g_1y.ok hy3 hI) hS 1 5 2 rfl (by kernel_rfl) fun s hS=>(KW.nil ?_)
 refine bc h (fun hc5 h=>?_) fun hc5 h=>?_
 refine WW.condK hS rfl hc5 (WW.region ?_)
 obtain⟨y6,hy6,h⟩:=bind_some h
 refine cR (g_1u.ok hy6 hI) hS 1 7 2 rfl (by kernel_rfl) fun s hS=>(KW.nil ?_)
 cases h
 exact aG hS (.inl rfl) rfl ⟨rfl,rfl,rfl⟩
 refine WW.condF hS rfl hc5 (WW.skip ?_)
 cases h
 exact aG hS (.inl rfl) rfl ⟨rfl,rfl,rfl⟩
noncomputable def g_o.f (pB:List UInt8) (pC:List Int) (pI:Int) (pP:Bool):Option (Int×Bool) :=
  Option.bind (g_1p.f pB pC pI pP) fun y1=>Option.bind (g_1t.f pB pC y1.1 y1.2) fun y3=>some (y3.1,y3.2)
theorem g_o.ok {iB:Nat} {aE:Option Addr} {zH:Nat} {aM:Option Addr} {zN:Nat} {BP:Seg} {pB:List UInt8} {pC:List Int} {pI:Int} {pJ:List Int} {pP:Bool} {F:FZ} {r:Int×Bool} (h:g_o.f pB pC pI pP=some r) (hI:Frz (elI .i64 3) F aE zH pC) :
    Cl EV 168 [.pointer (some ⟨iB,0,none⟩)] [[(iB,.row [aa pB,.slice aE pC.length zH,.int .i64 pI,.slice aM pJ.length zN,.bool pP] 99 0 true)],BP] F (fun v S' F'=>F=F'∧v= .tuple #[]∧S'= [[(iB,.row [aa pB,.slice aE pC.length zH,.int .i64 r.1,.slice aM pJ.length zN,.bool r.2] 99 0 true)],BP]):=by
 refine Cl.of Tryz.func168 rfl (fun _ _=>rfl) (by kernel_rfl) fun s L nx0 hS=>?_
 unfold g_o.f at h
 refine WW.seq (WW.region ?_)
 obtain⟨y1,hy1,h⟩:=bind_some h
 refine cR (g_1p.ok hy1 hI) hS 1 3 2 rfl (by kernel_rfl) fun s hS=>(KW.nil ?_)
 refine WW.region ?_
 obtain⟨y3,hy3,h⟩:=bind_some h
 refine cR (g_1t.ok hy3 hI) hS 1 5 2 rfl (by kernel_rfl) fun s hS=>(KW.nil ?_)
 cases h
 exact aG hS (.inl rfl) rfl ⟨rfl,rfl,rfl⟩
noncomputable def g_1i.b0 (pB:List UInt8) (pC:List Int) (x3:Int×Bool):Option ((Int×Bool)⊕(Int×Bool)) :=
  (if x3.2 then Option.bind (g_1y.f pB pC x3.1 x3.2 44) fun y8=>(if y8.1 then Option.bind (g_o.f pB pC y8.2 x3.2) fun y11=>some (.inl (y11.1,y11.2)) else some (.inr (y8.2,x3.2))) else some (.inr (x3.1,x3.2)))
noncomputable def g_1i.f (pB:List UInt8) (pC:List Int) (pI:Int) (pP:Bool):Option (Int×Bool) :=
  Option.bind (g_o.f pB pC pI pP) fun y1=>Option.bind (iter (g_1i.b0 pB pC) (y1.1,y1.2)) fun o4=>some (o4.1,o4.2)
theorem g_1i.ok {iB:Nat} {aE:Option Addr} {zH:Nat} {aM:Option Addr} {zN:Nat} {BP:Seg} {pB:List UInt8} {pC:List Int} {pI:Int} {pJ:List Int} {pP:Bool} {F:FZ} {r:Int×Bool} (h:g_1i.f pB pC pI pP=some r) (hI:Frz (elI .i64 3) F aE zH pC) :
    Cl EV 109 [.pointer (some ⟨iB,0,none⟩),.func (.func 168) #[.pointer (some ⟨iB,0,none⟩)] #[]] [[(iB,.row [aa pB,.slice aE pC.length zH,.int .i64 pI,.slice aM pJ.length zN,.bool pP] 99 0 true)],BP] F (fun v S' F'=>F=F'∧v= .tuple #[]∧S'= [[(iB,.row [aa pB,.slice aE pC.length zH,.int .i64 r.1,.slice aM pJ.length zN,.bool r.2] 99 0 true)],BP]):=by
 refine Cl.of Tryz.func109 rfl (fun _ _=>rfl) (by kernel_rfl) fun s L nx0 hS=>?_
 unfold g_1i.f at h
 refine WW.seq (WW.region ?_)
 obtain⟨y1,hy1,h⟩:=bind_some h
 refine cR (g_o.ok hy1 hI) hS 1 5 2 rfl (by kernel_rfl) fun s hS=>(KW.nil ?_)
 refine WW.block ?_
 obtain⟨o4,ho4,h⟩:=bind_some h
 refine WW.loop (LW.iterE ho4 (fun(x3:Int×Bool) s=>Stt EV s [(0,.pointer (some ⟨iB,0,none⟩)),(1,.func (.func 168) #[.pointer (some ⟨iB,0,none⟩)] #[])] [[(iB,.row [aa pB,.slice aE pC.length zH,.int .i64 x3.1,.slice aM pJ.length zN,.bool x3.2] 99 0 true)],BP] F L F nx0) 0 (hS.subR rfl) ?_ ?_)
 clear hS
 rintro x3 s hS o4' h6
 unfold g_1i.b0 at h6
 refine WW.seq (WW.seq ?_)
 refine WW.region (sg0 hS 5 [0] [10] [.bool x3.2] [iB] (by kernel_rfl) fun s hS=>?_)
 refine bc h6 (fun hc7 h6=>?_) fun hc7 h6=>?_
 replace hS:=hS.kb 10 hc7 rfl
 refine sg0 hS 1 [] [11] [.pointer (some ⟨iB,0,none⟩)] [] (by kernel_rfl) fun s hS=>?_
 obtain⟨y8,hy8,h6⟩:=bind_some h6
 refine bu hS (wt hS rfl rfl rfl rfl) (vs:=[.pointer (some ⟨iB,0,none⟩),vB 44]) (ws:=[.pointer (some ⟨iB,0,none⟩),vB 44]) rfl rfl rfl rfl rfl 2 rfl (g_1y.ok hy8 hI) fun s v S' F' hp9 hF hS=>?_
 obtain⟨rfl,rfl,rfl⟩:=hp9
 refine sg0 hS 1 [] [13] [.bool y8.1] [] (by kernel_rfl) fun s hS=>(KW.nil ?_)
 refine bc h6 (fun hc10 h6=>?_) fun hc10 h6=>?_
 refine WW.condK hS rfl hc10 (WW.skip ?_)
 refine WW.block (WW.region ?_)
 obtain⟨y11,hy11,h6⟩:=bind_some h6
 refine cR (g_o.ok hy11 hI) hS 1 15 2 rfl (by kernel_rfl) fun s hS=>(KW.nil ?_)
 obtain rfl:=Option.some.inj h6
 exact⟨_,rfl,(hS.subR rfl)⟩
 refine WW.condF hS rfl hc10 (WW.exit ?_)
 refine ae ?_
 obtain rfl:=Option.some.inj h6
 exact⟨_,rfl,rfl,(hS.subR rfl)⟩
 replace hS:=hS.kb 10 hc7 rfl
 refine sg0 hS 3 [] [13] [.bool false] [] (by kernel_rfl) fun s hS=>(KW.nil ?_)
 refine WW.condF hS rfl rfl (WW.exit ?_)
 refine ae ?_
 obtain rfl:=Option.some.inj h6
 exact⟨_,rfl,rfl,(hS.subR rfl)⟩
 clear hS
 rintro e s ⟨rfl,hS⟩
 refine af ?_
 cases h
 exact aG hS (.inl rfl) rfl ⟨rfl,rfl,rfl⟩
noncomputable def g_q.f (pA:UInt8) (pC:List UInt8):Option (Bool) :=
  Option.bind (g_l.f pA) fun y1=>Option.bind ((if y1 then some true else Option.bind (g_3c.f pC pA) fun y5=>some (decide (y5≥0)))) fun z3=>some z3
theorem g_q.ok {iC:Nat} {pA:UInt8} {pC:List UInt8} {F:FZ} {r:Bool} (h:g_q.f pA pC=some r) :
    Cl EV 186 [vB pA,.pointer (some ⟨iC,0,none⟩)] [[(iC,.row [aa pC] 9 0 true)]] F (fun v S' F'=>F=F'∧v= .bool r∧S'= [[(iC,.row [aa pC] 9 0 true)]]):=by
 refine Cl.of Tryz.func186 rfl (fun _ _=>rfl) (by kernel_rfl) fun s L nx0 hS=>?_
 unfold g_q.f at h
 refine WW.seq (WW.region ?_)
 refine sg0 hS 1 [] [3] [.bool false] [] (by kernel_rfl) fun s hS=>(KW.nil ?_)
 refine WW.seq (WW.region ?_)
 obtain⟨y1,hy1,h⟩:=bind_some h
 refine cR (g_l.ok hy1) hS 1 5 0 rfl (by kernel_rfl) fun s hS=>(sg0 hS 1 [] [6] [.bool y1] [] (by kernel_rfl) fun s hS=>?_)
 obtain⟨z3,hz3,h⟩:=bind_some h
 refine ay 5 (fun s=>Stt EV s [(11,.bool z3),(3,.bool false)] [[(iC,.row [aa pC] 9 0 true)]] F L F nx0) ?_ fun s hS=>?_
 refine bc hz3 (fun hc4 hz3=>?_) fun hc4 hz3=>?_
 replace hS:=hS.kb 5 hc4 rfl
 replace hS:=hS.kb 6 hc4 rfl
 refine sg0 hS 5 [] [11] [.bool true] [] (by kernel_rfl) fun s hS=>(KW.nil ?_)
 obtain rfl:=Option.some.inj hz3
 exact hS.subR rfl
 replace hS:=hS.kb 5 hc4 rfl
 replace hS:=hS.kb 6 hc4 rfl
 refine sg0 hS 2 [0] [7,8] [aa pC,vB pA] [iC] (by kernel_rfl) fun s hS=>?_
 obtain⟨y5,hy5,hz3⟩:=bind_some hz3
 refine bu hS (wt hS rfl rfl rfl rfl) (vs:=[aa pC,vB pA]) (ws:=[aa pC,vB pA]) rfl rfl rfl rfl rfl 0 rfl (g_3c.ok hy5) fun s v S' F' hp6 hF hS=>?_
 obtain⟨rfl,rfl,rfl⟩:=hp6
 refine sg0 hS 2 [] [11] [.bool (decide (y5≥0))] [] (by kernel_rfl) fun s hS=>(KW.nil ?_)
 obtain rfl:=Option.some.inj hz3
 exact hS.subR rfl
 refine sg0 hS 1 [] [3] [.bool z3] [] (by kernel_rfl) fun s hS=>(KW.nil ?_)
 refine WW.ret ?_
 cases h
 exact ax hS (.inr rfl) 3 rfl rfl ⟨rfl,rfl,rfl⟩
noncomputable def g_19.f (pB:List UInt8) (pC:List Int) (pI:Int) (pP:Bool) (pU:List UInt8):Option (Bool) :=
  (if pP then(if(decide (pI<(pB.length:Int))) then(if 0≤pI∧pI<(pC.length:Int) then(if((gt pC pI)==0) then(if 0≤pI∧pI<(pB.length:Int) then Option.bind (g_q.f (gt pB pI) pU) fun y14=>some y14 else none) else some false) else none) else some false) else some false)
theorem g_19.ok {iB:Nat} {aE:Option Addr} {zH:Nat} {aM:Option Addr} {zN:Nat} {BP:Seg} {iU:Nat} {pB:List UInt8} {pC:List Int} {pI:Int} {pJ:List Int} {pP:Bool} {pU:List UInt8} {F:FZ} {r:Bool} (h:g_19.f pB pC pI pP pU=some r) (hI:Frz (elI .i64 3) F aE zH pC) :
    Cl EV 140 [.pointer (some ⟨iB,0,none⟩),.func (.func 186) #[] #[.pointer (some ⟨iU,0,none⟩)]] [[(iB,.row [aa pB,.slice aE pC.length zH,.int .i64 pI,.slice aM pJ.length zN,.bool pP] 99 0 true)],BP,[(iU,.row [aa pU] 9 0 true)]] F (fun v S' F'=>F=F'∧v= .bool r∧S'= [[(iB,.row [aa pB,.slice aE pC.length zH,.int .i64 pI,.slice aM pJ.length zN,.bool pP] 99 0 true)],BP,[(iU,.row [aa pU] 9 0 true)]]):=by
 refine Cl.of Tryz.func140 rfl (fun _ _=>rfl) (by kernel_rfl) fun s L nx0 hS=>?_
 unfold g_19.f at h
 refine WW.seq (WW.region ?_)
 refine sg0 hS 1 [] [4] [.bool false] [] (by kernel_rfl) fun s hS=>(KW.nil ?_)
 refine WW.seq (WW.regionD (i:=[[],[],[],[],[],[],[],[],[],[8,7,6,5],[8,7,6,5],[8,7,6,5],[8,7,6,5],[8,7,6,5],[],[],[],[],[],[],[],[20,19,18,17],[20,19,18,17],[20,19,18,17],[20,19,18,17],[],[],[],[],[],[],[30],[30],[30],[30],[34,33,32,31,30],[34,33,32,31,30],[34,33,32,31,30],[34,33,32,31,30],[30],[],[],[]]) (by kernel_rfl) ?_)
 have hq:=RS.start [iB,iU]
 refine kg hS hq 3 [7] [.pointer (some ⟨iB,4,none⟩)] (by kernel_rfl) fun s rs hS hq=>(K.ld hS hq rfl (wn rfl) rfl rfl rfl (hS.at (k:=0) rfl) tg4 (v:= .bool pP) rfl 0 rfl rfl fun s rs hS hq=>?_)
 refine kg hS hq 1 [9] [.bool pP] (by kernel_rfl) fun s rs hS hq=>(bc h (fun hc1 h=>?_) fun hc1 h=>?_)
 replace hS:=hS.kb 8 hc1 rfl
 replace hS:=hS.kb 9 hc1 rfl
 refine kg hS hq 3 [12] [.pointer (some ⟨iB,2,none⟩)] (by kernel_rfl) fun s rs hS hq=>(K.ld hS hq rfl (wt hS rfl rfl rfl rfl) rfl rfl rfl (hS.at (k:=0) rfl) tg3 (v:= .int .i64 pI) rfl 0 rfl rfl fun s rs hS hq=>?_)
 refine kg hS hq 3 [16] [.pointer (some ⟨iB,0,none⟩)] (by kernel_rfl) fun s rs hS hq=>(K.ld hS hq rfl (wt hS rfl rfl rfl rfl) rfl rfl rfl (hS.at (k:=0) rfl) tg9 (v:=aa pB) rfl 0 rfl rfl fun s rs hS hq=>?_)
 refine kg hS hq 4 [21] [.bool (decide (pI<(pB.length:Int)))] (by kernel_rfl) fun s rs hS hq=>(bc h (fun hc2 h=>?_) fun hc2 h=>?_)
 replace hS:=hS.kb 21 hc2 rfl
 refine kg hS hq 3 [24] [.pointer (some ⟨iB,1,none⟩)] (by kernel_rfl) fun s rs hS hq=>(K.ld hS hq rfl (wt hS rfl rfl rfl rfl) rfl rfl rfl (hS.at (k:=0) rfl) fL (v:= .slice aE pC.length zH) rfl 0 rfl rfl fun s rs hS hq=>?_)
 refine kg hS hq 3 [28] [.pointer (some ⟨iB,2,none⟩)] (by kernel_rfl) fun s rs hS hq=>(K.ld hS hq rfl (wt hS rfl rfl rfl rfl) rfl rfl rfl (hS.at (k:=0) rfl) tg3 (v:= .int .i64 pI) rfl 0 rfl rfl fun s rs hS hq=>?_)
 obtain⟨hk3,h⟩:=ac h
 obtain⟨i9,of10,rfl⟩:=Frz.addr hI (by omega)
 obtain⟨_,_,_,_,c4,hF11,hR5,hN6,hN7,hT8⟩:=Frz.at hI hk3 (m:=1) rfl
 obtain rfl:=hR5
 refine K.pu hS hq rfl (wt hS rfl rfl rfl rfl) rfl rfl rfl (v:= .pointer (some ⟨i9,of10+(pI).toNat*1,none⟩)) (aF (hS.lk rfl) (hS.lk rfl) dj hk3) fun s rs hS hq=>?_
 replace hq:=hq.more i9 rfl rfl rfl
 refine K.ld hS hq rfl (wt hS rfl rfl rfl rfl) rfl rfl rfl (hS.fat hF11) tg3 (v:= .int .i64 (gt pC pI)) hN6 2 rfl rfl fun s rs hS hq=>(kg hS hq 3 [34] [.bool ((gt pC pI)==0)] (by kernel_rfl) fun s rs hS hq=>?_)
 refine bc h (fun hc12 h=>?_) fun hc12 h=>?_
 replace hS:=hS.kb 34 hc12 rfl
 refine kg hS hq 4 [35,38] [.func (.func 186) #[] #[.pointer (some ⟨iU,0,none⟩)],.pointer (some ⟨iB,0,none⟩)] (by kernel_rfl) fun s rs hS hq=>(K.ld hS hq rfl (wt hS rfl rfl rfl rfl) rfl rfl rfl (hS.at (k:=0) rfl) tg9 (v:=aa pB) rfl 0 rfl rfl fun s rs hS hq=>?_)
 refine kg hS hq 3 [42] [.pointer (some ⟨iB,2,none⟩)] (by kernel_rfl) fun s rs hS hq=>(K.ld hS hq rfl (wt hS rfl rfl rfl rfl) rfl rfl rfl (hS.at (k:=0) rfl) tg3 (v:= .int .i64 pI) rfl 0 rfl rfl fun s rs hS hq=>?_)
 obtain⟨hk13,h⟩:=ac h
 refine K.pu hS hq rfl (wt hS rfl rfl rfl rfl) rfl rfl rfl (v:=vB (gt pB pI)) (au tu9 (hS.lk rfl) (hS.lk rfl) hk13) fun s rs hS hq=>?_
 obtain⟨y14,hy14,h⟩:=bind_some h
 replace hS:=hS.pull 2
 refine K.cl hS hq rfl (wt hS rfl rfl rfl rfl) (vs:=[vB (gt pB pI)]) (ws:=[vB (gt pB pI),.pointer (some ⟨iU,0,none⟩)]) rfl rfl rfl rfl rfl 1 rfl (g_q.ok hy14)  [0,2] rfl rfl (aP rfl mm0 (nD rfl hF11 bn)) fun s rs v S' F' hp15 hF hS hq=>?_
 obtain⟨rfl,rfl,rfl⟩:=hp15
 refine kg hS hq 2 [4] [.bool y14] (by kernel_rfl) fun s rs hS hq=>(KW.nil ?_)
 refine WW.ret ?_
 replace hS:=hS.pull 2
 replace hS:=hS.pull 2
 cases h
 exact ax hS (.inr rfl) 4 rfl rfl ⟨rfl,rfl,rfl⟩
 replace hS:=hS.kb 34 hc12 rfl
 refine kg hS hq 13 [4] [.bool false] (by kernel_rfl) fun s rs hS hq=>(KW.nil ?_)
 refine WW.ret ?_
 cases h
 exact ax hS (.inr rfl) 4 rfl rfl ⟨rfl,rfl,rfl⟩
 replace hS:=hS.kb 21 hc2 rfl
 refine kg hS hq 26 [4] [.bool false] (by kernel_rfl) fun s rs hS hq=>(KW.nil ?_)
 refine WW.ret ?_
 cases h
 exact ax hS (.inr rfl) 4 rfl rfl ⟨rfl,rfl,rfl⟩
 replace hS:=hS.kb 8 hc1 rfl
 replace hS:=hS.kb 9 hc1 rfl
 refine kg hS hq 38 [4] [.bool false] (by kernel_rfl) fun s rs hS hq=>(KW.nil ?_)
 refine WW.ret ?_
 cases h
 exact ax hS (.inr rfl) 4 rfl rfl ⟨rfl,rfl,rfl⟩
noncomputable def g_p.f (pB:List UInt8) (pC:List Int) (pI:Int) (pP:Bool) (pT:List UInt8):Option (Bool) :=
  Option.bind (g_19.f pB pC pI pP pT) fun y2=>some y2
theorem g_p.ok {iB:Nat} {aE:Option Addr} {zH:Nat} {aM:Option Addr} {zN:Nat} {BP:Seg} {pB:List UInt8} {pC:List Int} {pI:Int} {pJ:List Int} {pP:Bool} {pT:List UInt8} {F:FZ} {r:Bool} (h:g_p.f pB pC pI pP pT=some r) (hI:Frz (elI .i64 3) F aE zH pC) :
    Cl EV 169 [.pointer (some ⟨iB,0,none⟩),aa pT] [[(iB,.row [aa pB,.slice aE pC.length zH,.int .i64 pI,.slice aM pJ.length zN,.bool pP] 99 0 true)],BP] F (fun v S' F'=>F=F'∧v= .bool r∧S'= [[(iB,.row [aa pB,.slice aE pC.length zH,.int .i64 pI,.slice aM pJ.length zN,.bool pP] 99 0 true)],BP]):=by
 refine Cl.of Tryz.func169 rfl (fun _ _=>rfl) (by kernel_rfl) fun s L nx0 hS=>?_
 unfold g_p.f at h
 refine WW.seq (WW.region ?_)
 refine bA hS (wn rfl) rfl rfl rfl (v:=fun i=> .pointer (some ⟨i,0,none⟩)) (b:= .row [aa pT] 9 0 true) (co (hS.lk rfl) rfl [aa pT] rfl) fun s i1 hS=>(sg0 hS 1 [] [4] [.bool false] [] (by kernel_rfl) fun s hS=>?_)
 refine KW.nil (WW.seq ?_)
 refine WW.region (sg0 hS 1 [] [5] [.pointer (some ⟨iB,0,none⟩)] [] (by kernel_rfl) fun s hS=>?_)
 refine aw hS (wn rfl) rfl rfl rfl (v:= .func (.func 186) #[] #[.pointer (some ⟨i1,0,none⟩)]) (cF (bb hS (vs:=[]) rfl) (bb hS (vs:=[.pointer (some ⟨i1,0,none⟩)]) rfl)) fun s hS=>?_
 obtain⟨y2,hy2,h⟩:=bind_some h
 replace hS:=hS.pull 2
 replace hS:=hS.pull 2
 refine cR (g_19.ok hy2 hI) hS 0 7 3 rfl (by kernel_rfl) fun s hS=>(sg0 hS 1 [] [4] [.bool y2] [] (by kernel_rfl) fun s hS=>?_)
 refine KW.nil (WW.ret ?_)
 replace hS:=(hS.pull 2).drop
 cases h
 exact ax hS (.inr rfl) 4 rfl rfl ⟨rfl,rfl,rfl⟩
noncomputable def g_1j.b0 (pB:List UInt8) (pC:List Int) (x3:Int×Bool):Option ((Int×Bool)⊕(Int×Bool)) :=
  (if x3.2 then Option.bind (g_1y.f pB pC x3.1 x3.2 44) fun y8=>(if y8.1 then Option.bind (g_1t.f pB pC y8.2 x3.2) fun y11=>some (.inl (y11.1,y11.2)) else some (.inr (y8.2,x3.2))) else some (.inr (x3.1,x3.2)))
noncomputable def g_1j.f (pB:List UInt8) (pC:List Int) (pI:Int) (pP:Bool):Option (Int×Bool) :=
  Option.bind (g_1t.f pB pC pI pP) fun y1=>Option.bind (iter (g_1j.b0 pB pC) (y1.1,y1.2)) fun o4=>some (o4.1,o4.2)
theorem g_1j.ok {iB:Nat} {aE:Option Addr} {zH:Nat} {aM:Option Addr} {zN:Nat} {BP:Seg} {pB:List UInt8} {pC:List Int} {pI:Int} {pJ:List Int} {pP:Bool} {F:FZ} {r:Int×Bool} (h:g_1j.f pB pC pI pP=some r) (hI:Frz (elI .i64 3) F aE zH pC) :
    Cl EV 109 [.pointer (some ⟨iB,0,none⟩),.func (.func 92) #[.pointer (some ⟨iB,0,none⟩)] #[]] [[(iB,.row [aa pB,.slice aE pC.length zH,.int .i64 pI,.slice aM pJ.length zN,.bool pP] 99 0 true)],BP] F (fun v S' F'=>F=F'∧v= .tuple #[]∧S'= [[(iB,.row [aa pB,.slice aE pC.length zH,.int .i64 r.1,.slice aM pJ.length zN,.bool r.2] 99 0 true)],BP]):=by
 refine Cl.of Tryz.func109 rfl (fun _ _=>rfl) (by kernel_rfl) fun s L nx0 hS=>?_
 unfold g_1j.f at h
 refine WW.seq (WW.region ?_)
 obtain⟨y1,hy1,h⟩:=bind_some h
 refine cR (g_1t.ok hy1 hI) hS 1 5 2 rfl (by kernel_rfl) fun s hS=>(KW.nil ?_)
 refine WW.block ?_
 obtain⟨o4,ho4,h⟩:=bind_some h
 refine WW.loop (LW.iterE ho4 (fun(x3:Int×Bool) s=>Stt EV s [(0,.pointer (some ⟨iB,0,none⟩)),(1,.func (.func 92) #[.pointer (some ⟨iB,0,none⟩)] #[])] [[(iB,.row [aa pB,.slice aE pC.length zH,.int .i64 x3.1,.slice aM pJ.length zN,.bool x3.2] 99 0 true)],BP] F L F nx0) 0 (hS.subR rfl) ?_ ?_)
 clear hS
 rintro x3 s hS o4' h6
 unfold g_1j.b0 at h6
 refine WW.seq (WW.seq ?_)
 refine WW.region (sg0 hS 5 [0] [10] [.bool x3.2] [iB] (by kernel_rfl) fun s hS=>?_)
 refine bc h6 (fun hc7 h6=>?_) fun hc7 h6=>?_
 replace hS:=hS.kb 10 hc7 rfl
 refine sg0 hS 1 [] [11] [.pointer (some ⟨iB,0,none⟩)] [] (by kernel_rfl) fun s hS=>?_
 obtain⟨y8,hy8,h6⟩:=bind_some h6
 refine bu hS (wt hS rfl rfl rfl rfl) (vs:=[.pointer (some ⟨iB,0,none⟩),vB 44]) (ws:=[.pointer (some ⟨iB,0,none⟩),vB 44]) rfl rfl rfl rfl rfl 2 rfl (g_1y.ok hy8 hI) fun s v S' F' hp9 hF hS=>?_
 obtain⟨rfl,rfl,rfl⟩:=hp9
 refine sg0 hS 1 [] [13] [.bool y8.1] [] (by kernel_rfl) fun s hS=>(KW.nil ?_)
 refine bc h6 (fun hc10 h6=>?_) fun hc10 h6=>?_
 refine WW.condK hS rfl hc10 (WW.skip ?_)
 refine WW.block (WW.region ?_)
 obtain⟨y11,hy11,h6⟩:=bind_some h6
 refine cR (g_1t.ok hy11 hI) hS 1 15 2 rfl (by kernel_rfl) fun s hS=>(KW.nil ?_)
 obtain rfl:=Option.some.inj h6
 exact⟨_,rfl,(hS.subR rfl)⟩
 refine WW.condF hS rfl hc10 (WW.exit ?_)
 refine ae ?_
 obtain rfl:=Option.some.inj h6
 exact⟨_,rfl,rfl,(hS.subR rfl)⟩
 replace hS:=hS.kb 10 hc7 rfl
 refine sg0 hS 3 [] [13] [.bool false] [] (by kernel_rfl) fun s hS=>(KW.nil ?_)
 refine WW.condF hS rfl rfl (WW.exit ?_)
 refine ae ?_
 obtain rfl:=Option.some.inj h6
 exact⟨_,rfl,rfl,(hS.subR rfl)⟩
 clear hS
 rintro e s ⟨rfl,hS⟩
 refine af ?_
 cases h
 exact aG hS (.inl rfl) rfl ⟨rfl,rfl,rfl⟩
noncomputable def g_u.b0 (pB:List UInt8) (pC:List Int) (x5:List Int×Int):Option ((List Int×Int)⊕(List Int×Int)) :=
  (if(decide (x5.2<(pB.length:Int))) then Option.bind ((if 0≤x5.2∧x5.2<(pC.length:Int) then Option.bind ((if((gt pC x5.2)==0) then(if 0≤x5.2∧x5.2<(pB.length:Int) then some (((gt pB x5.2).toNat:Int)==((47:UInt8).toNat:Int)) else none) else some false)) fun z32=>(if z32 then(if x5.1.length+([x5.2]:List Int).length<1000000000 then some (x5.1++([x5.2]:List Int)) else none) else some x5.1) else none)) fun z18=>some (.inl (z18,(w64 (x5.2+1)))) else some (.inr (x5.1,x5.2)))
noncomputable def g_u.f (pB:List UInt8) (pC:List Int) (pI:Int) (pP:Bool):Option (Int×Bool) :=
  Option.bind (g_p.f pB pC pI pP ([40])) fun y1=>Option.bind (g_1o.f pP y1) fun y3=>Option.bind (iter (g_u.b0 pB pC) (([]:List Int),pI)) fun o10=>(if(decide (0<o10.1.length)) then(if(decide ((o10.1.length:Int)>1)) then(if 0≤(w64 ((o10.1.length:Int)-1))∧(w64 ((o10.1.length:Int)-1))<(o10.1.length:Int) then Option.bind (g_1o.f y3 ((gt o10.1 (w64 ((o10.1.length:Int)-1)))==(w64 ((pB.length:Int)-1)))) fun y58=>Option.bind (g_1u.f pB pC pI y58) fun y60=>some (y60.1,y60.2) else none) else Option.bind (g_1o.f y3 false) fun y62=>Option.bind (g_1u.f pB pC pI y62) fun y64=>some (y64.1,y64.2)) else(if(decide ((o10.1.length:Int)>1)) then none else Option.bind (g_1o.f y3 false) fun y67=>Option.bind (g_1u.f pB pC pI y67) fun y69=>some (y69.1,y69.2)))
theorem g_u.ok {iB:Nat} {aE:Option Addr} {zH:Nat} {aM:Option Addr} {zN:Nat} {BP:Seg} {pB:List UInt8} {pC:List Int} {pI:Int} {pJ:List Int} {pP:Bool} {F:FZ} {r:Int×Bool} (h:g_u.f pB pC pI pP=some r) (hI:Frz (elI .i64 3) F aE zH pC) :
    Cl EV 171 [.pointer (some ⟨iB,0,none⟩)] [[(iB,.row [aa pB,.slice aE pC.length zH,.int .i64 pI,.slice aM pJ.length zN,.bool pP] 99 0 true)],BP] F (fun v S' F'=>F=F'∧v= .tuple #[]∧S'= [[(iB,.row [aa pB,.slice aE pC.length zH,.int .i64 r.1,.slice aM pJ.length zN,.bool r.2] 99 0 true)],BP]):=by
 refine Cl.of Tryz.func171 rfl (fun _ _=>rfl) (by kernel_rfl) fun s L nx0 hS=>?_
 unfold g_u.f at h
 refine WW.seq (WW.region ?_)
 refine sg0 hS 2 [] [4,5] [.pointer (some ⟨iB,0,none⟩),.pointer (some ⟨iB,0,none⟩)] [] (by kernel_rfl) fun s hS=>?_
 obtain⟨y1,hy1,h⟩:=bind_some h
 refine bu hS (wn rfl) (vs:=[.pointer (some ⟨iB,0,none⟩),aa ([40])]) (ws:=[.pointer (some ⟨iB,0,none⟩),aa ([40])]) rfl rfl rfl rfl rfl 2 rfl (g_p.ok hy1 hI) fun s v S' F' hp2 hF hS=>?_
 obtain⟨rfl,rfl,rfl⟩:=hp2
 obtain⟨y3,hy3,h⟩:=bind_some h
 refine cR (g_1o.ok hy3) hS 0 7 2 rfl (by kernel_rfl) fun s hS=>(KW.nil ?_)
 refine WW.seq (WW.region ?_)
 refine sg0 hS 1 [] [2] [.slice none 0 0] [] (by kernel_rfl) fun s hS=>(KW.nil ?_)
 refine WW.seq (WW.seq ?_)
 refine WW.region (sg0 hS 5 [0] [3] [.int .i64 pI] [iB] (by kernel_rfl) fun s hS=>?_)
 refine KW.nil (WW.block ?_)
 replace hS:=hS.gap0
 obtain⟨o10,ho10,h⟩:=bind_some h
 refine WW.loop (LW.iterE ho10 (fun(x5:List Int×Int) s=> ∃(a6:Option Addr) (z7:Nat) (B9:Seg),Stt EV s [(0,.pointer (some ⟨iB,0,none⟩)),(2,.slice a6 x5.1.length z7),(3,.int .i64 x5.2)] [B9,[(iB,.row [aa pB,.slice aE pC.length zH,.int .i64 pI,.slice aM pJ.length zN,.bool y3] 99 0 true)],BP] F L F nx0∧Own (elI .i64 3) F a6 z7 x5.1 B9) 0 ⟨_,_,_,(hS.subR rfl),Own.nil⟩ ?_ ?_)
 clear hS
 rintro x5 s ⟨a6,z7,B9,hS,h8⟩ o10' h16
 unfold g_u.b0 at h16
 refine WW.seq (WW.seq ?_)
 refine WW.region (sg0 hS 7 [1] [18] [.bool (decide (x5.2<(pB.length:Int)))] [iB] (by kernel_rfl) fun s hS=>?_)
 refine KW.nil (bc h16 (fun hc17 h16=>?_) fun hc17 h16=>?_)
 refine WW.condK hS rfl hc17 (WW.skip ?_)
 obtain⟨z18,hz18,h16⟩:=bind_some h16
 refine WW.seqJ (fun s=> ∃(a19:Option Addr) (z20:Nat) (B22:Seg),Stt EV s [(0,.pointer (some ⟨iB,0,none⟩)),(2,.slice a19 z18.length z20),(3,.int .i64 x5.2)] [B22,[(iB,.row [aa pB,.slice aE pC.length zH,.int .i64 pI,.slice aM pJ.length zN,.bool y3] 99 0 true)],BP] F L F nx0∧Own (elI .i64 3) F a19 z20 z18 B22) ?_ ?_
 refine WW.block (WW.seq ?_)
 refine WW.region (sg0 hS 5 [1] [24,25] [.slice aE pC.length zH,.int .i64 x5.2] [iB] (by kernel_rfl) fun s hS=>?_)
 obtain⟨hk23,hz18⟩:=ac hz18
 obtain⟨i29,of30,rfl⟩:=Frz.addr hI (by omega)
 obtain⟨_,_,_,_,c24,hF31,hR25,hN26,hN27,hT28⟩:=Frz.at hI hk23 (m:=1) rfl
 obtain rfl:=hR25
 refine aw hS (wn rfl) rfl rfl rfl (v:= .pointer (some ⟨i29,of30+(x5.2).toNat*1,none⟩)) (aF (hS.lk rfl) (hS.lk rfl) dj hk23) fun s hS=>(eu hS (wn rfl) rfl rfl rfl (hS.fat hF31) tg3 (v:= .int .i64 (gt pC x5.2)) hN26 fun s hS=>?_)
 refine sg0 hS 2 [] [29] [.bool ((gt pC x5.2)==0)] [] (by kernel_rfl) fun s hS=>?_
 obtain⟨z32,hz32,hz18⟩:=bind_some hz18
 refine ay 8 (fun s=>Stt EV s [(37,.bool z32),(0,.pointer (some ⟨iB,0,none⟩)),(2,.slice a6 x5.1.length z7),(3,.int .i64 x5.2)] [B9,[(iB,.row [aa pB,.slice (some ⟨i29,of30,none⟩) pC.length zH,.int .i64 pI,.slice aM pJ.length zN,.bool y3] 99 0 true)],BP] F L F nx0) ?_ fun s hS=>?_
 refine bc hz32 (fun hc33 hz32=>?_) fun hc33 hz32=>?_
 replace hS:=hS.kb 29 hc33 rfl
 refine sg0 hS 5 [1] [33,34] [aa pB,.int .i64 x5.2] [iB] (by kernel_rfl) fun s hS=>?_
 obtain⟨hk34,hz32⟩:=ac hz32
 refine aw hS (wt hS rfl rfl rfl rfl) rfl rfl rfl (v:=vB (gt pB x5.2)) (au tu9 (hS.lk rfl) (hS.lk rfl) hk34) fun s hS=>(sg0 hS 2 [] [37] [.bool (((gt pB x5.2).toNat:Int)==((47:UInt8).toNat:Int))] [] (by kernel_rfl) fun s hS=>?_)
 refine KW.nil ?_
 obtain rfl:=Option.some.inj hz32
 exact hS.subR rfl
 replace hS:=hS.kb 29 hc33 rfl
 refine sg0 hS 8 [] [37] [.bool false] [] (by kernel_rfl) fun s hS=>(KW.nil ?_)
 obtain rfl:=Option.some.inj hz32
 exact hS.subR rfl
 refine KW.nil (bc hz18 (fun hc35 hz18=>?_) fun hc35 hz18=>?_)
 refine WW.condK hS rfl hc35 (WW.region ?_)
 refine sg0 hS 2 [] [38,39] [.slice a6 x5.1.length z7,.int .i64 x5.2] [] (by kernel_rfl) fun s hS=>(bA hS (wn rfl) rfl rfl rfl (v:=fun i=> .slice (some ⟨i,0,none⟩) 1 1) (b:= .row [.int .i64 x5.2] 3 1 true) (aW iM tz3 gp rfl [(0,.int .i64 x5.2)] (av hS rfl) rfl) fun s i36 hS=>?_)
 have hC37:ai (elI .i64 3) F ([x5.2]:List Int) [.int .i64 x5.2]:=⟨[.int .i64 x5.2],[],rfl,rfl,rfl⟩
 obtain⟨hk41,hz18⟩:=ac hz18
 refine fU hS (wn rfl) (dd:=(elI .i64 3)) (lst:=x5.1) (m:=([x5.2]:List Int)) rfl rfl dl rfl rfl h8 (Nat.succ_pos _) hC37 hk41 fun s i38 cs39 hC40 hS=>(sg0 hS 1 [] [2] [.slice (some ⟨i38,0,none⟩) (x5.1++([x5.2]:List Int)).length 1] [] (by kernel_rfl) fun s hS=>?_)
 refine KW.nil ?_
 obtain rfl:=Option.some.inj hz18
 exact⟨_,_,_,(hS.subR rfl),(Own.blk0 hC40)⟩
 refine WW.condF hS rfl hc35 (WW.skip ?_)
 obtain rfl:=Option.some.inj hz18
 exact⟨_,_,_,(hS.subR rfl),h8⟩
 rintro s ⟨a19,z20,B22,hS,h21⟩
 refine WW.region (sg0 hS 3 [] [3] [.int .i64 (w64 (x5.2+1))] [] (by kernel_rfl) fun s hS=>?_)
 refine KW.nil ?_
 obtain rfl:=Option.some.inj h16
 exact⟨_,rfl,_,_,_,(hS.subR rfl),h21⟩
 refine WW.condF hS rfl hc17 (WW.exit ?_)
 refine ae ?_
 obtain rfl:=Option.some.inj h16
 exact⟨_,rfl,rfl,_,_,_,(hS.subR rfl),h8⟩
 clear hS
 rintro e s ⟨rfl,a42,z43,B45,hS,h44⟩
 refine af (WW.seq ?_)
 refine bc h (fun hc46 h=>?_) fun hc46 h=>?_
 have hpos:=of_decide_eq_true hc46
 obtain⟨i47,cs48,ex49,rfl,rfl,rfl,hC50⟩:=Own.some_ h44 (by omega)
 refine WW.regionD (i:=[[],[0],[0],[0],[0],[0],[5,0],[5,0],[5,0],[0],[0],[10,9,8,7,6,5,0],[10,9,8,7,6,5,0],[10,9,8,7,6,5,0],[10,9,8,7,6,5,0],[10,9,8,7,6,5,0],[10,9,8,7,6,5,0],[0],[0],[]]) (by kernel_rfl) ?_
 have hq:=RS.start [i47,iB]
 refine kg hS hq 5 [42,46] [.pointer (some ⟨iB,0,none⟩),.bool (decide ((o10.1.length:Int)>1))] (by kernel_rfl) fun s rs hS hq=>(bc h (fun hc51 h=>?_) fun hc51 h=>?_)
 replace hS:=hS.kb 46 hc51 rfl
 refine kg hS hq 4 [47,50] [.slice (some ⟨i47,0,none⟩) o10.1.length 1,.int .i64 (w64 ((o10.1.length:Int)-1))] (by kernel_rfl) fun s rs hS hq=>?_
 obtain⟨hk52,h⟩:=ac h
 obtain⟨c53,hR54,hN56,hN55,hT57⟩:=ai.loadF hC50 ex49 hk52 (z:=1) rfl
 obtain rfl:=hR54
 refine K.pu hS hq rfl (wt hS rfl rfl rfl rfl) rfl rfl rfl (v:= .pointer (some ⟨i47,0+((w64 ((o10.1.length:Int)-1))).toNat*1,none⟩)) (aF (hS.lk rfl) (hS.lk rfl) dj hk52) fun s rs hS hq=>(K.ld hS hq rfl (wt hS rfl rfl rfl rfl) rfl rfl rfl (hS.at (k:=0) rfl) tg3 (v:= .int .i64 (gt o10.1 (w64 ((o10.1.length:Int)-1)))) hN55 0 rfl rfl fun s rs hS hq=>?_)
 refine kg hS hq 3 [55] [.pointer (some ⟨iB,0,none⟩)] (by kernel_rfl) fun s rs hS hq=>(K.ld hS hq rfl (wt hS rfl rfl rfl rfl) rfl rfl rfl (hS.at (k:=1) rfl) tg9 (v:=aa pB) rfl 1 rfl rfl fun s rs hS hq=>?_)
 refine kg hS hq 4 [60] [.bool ((gt o10.1 (w64 ((o10.1.length:Int)-1)))==(w64 ((pB.length:Int)-1)))] (by kernel_rfl) fun s rs hS hq=>?_
 obtain⟨y58,hy58,h⟩:=bind_some h
 replace hS:=hS.pull 2
 replace hS:=hS.pull 2
 refine K.cl hS hq rfl (wn rfl) (vs:=[.pointer (some ⟨iB,0,none⟩),.bool ((gt o10.1 (w64 ((o10.1.length:Int)-1)))==(w64 ((pB.length:Int)-1)))]) (ws:=[.pointer (some ⟨iB,0,none⟩),.bool ((gt o10.1 (w64 ((o10.1.length:Int)-1)))==(w64 ((pB.length:Int)-1)))]) rfl rfl rfl rfl rfl 2 rfl (g_1o.ok hy58)  [0] rfl rfl (aP rfl mm0 bn) fun s rs v S' F' hp59 hF hS hq=>?_
 obtain⟨rfl,rfl,rfl⟩:=hp59
 refine KW.nil (WW.region ?_)
 obtain⟨y60,hy60,h⟩:=bind_some h
 refine cR (g_1u.ok hy60 hI) hS 1 63 2 rfl (by kernel_rfl) fun s hS=>(KW.nil ?_)
 replace hS:=(hS.pull 2).drop
 cases h
 exact aG hS (.inl rfl) rfl ⟨rfl,rfl,rfl⟩
 replace hS:=hS.kb 46 hc51 rfl
 refine kg hS hq 14 [60] [.bool false] (by kernel_rfl) fun s rs hS hq=>?_
 obtain⟨y62,hy62,h⟩:=bind_some h
 replace hS:=hS.pull 2
 replace hS:=hS.pull 2
 refine K.cl hS hq rfl (wn rfl) (vs:=[.pointer (some ⟨iB,0,none⟩),.bool false]) (ws:=[.pointer (some ⟨iB,0,none⟩),.bool false]) rfl rfl rfl rfl rfl 2 rfl (g_1o.ok hy62)  [0] rfl rfl (aP rfl mm0 bn) fun s rs v S' F' hp63 hF hS hq=>?_
 obtain⟨rfl,rfl,rfl⟩:=hp63
 refine KW.nil (WW.region ?_)
 obtain⟨y64,hy64,h⟩:=bind_some h
 refine cR (g_1u.ok hy64 hI) hS 1 63 2 rfl (by kernel_rfl) fun s hS=>(KW.nil ?_)
 replace hS:=(hS.pull 2).drop
 cases h
 exact aG hS (.inl rfl) rfl ⟨rfl,rfl,rfl⟩
 refine WW.regionD (i:=[[],[0],[0],[0],[0],[0],[5,0],[5,0],[5,0],[0],[0],[10,9,8,7,6,5,0],[10,9,8,7,6,5,0],[10,9,8,7,6,5,0],[10,9,8,7,6,5,0],[10,9,8,7,6,5,0],[10,9,8,7,6,5,0],[0],[0],[]]) (by kernel_rfl) ?_
 have hq:=RS.start [iB]
 refine kg hS hq 5 [42,46] [.pointer (some ⟨iB,0,none⟩),.bool (decide ((o10.1.length:Int)>1))] (by kernel_rfl) fun s rs hS hq=>(bc h (fun hc66 h=>?_) fun hc66 h=>?_)
 replace hS:=hS.kb 46 hc66 rfl
 refine kg hS hq 4 [47,50] [.slice a42 o10.1.length z43,.int .i64 (w64 ((o10.1.length:Int)-1))] (by kernel_rfl) fun s rs hS hq=>?_
 exact nomatch h
 replace hS:=hS.kb 46 hc66 rfl
 refine kg hS hq 14 [60] [.bool false] (by kernel_rfl) fun s rs hS hq=>?_
 obtain⟨y67,hy67,h⟩:=bind_some h
 replace hS:=hS.pull 2
 replace hS:=hS.pull 2
 refine K.cl hS hq rfl (wn rfl) (vs:=[.pointer (some ⟨iB,0,none⟩),.bool false]) (ws:=[.pointer (some ⟨iB,0,none⟩),.bool false]) rfl rfl rfl rfl rfl 2 rfl (g_1o.ok hy67)  [] rfl rfl bn fun s rs v S' F' hp68 hF hS hq=>?_
 obtain⟨rfl,rfl,rfl⟩:=hp68
 refine KW.nil (WW.region ?_)
 obtain⟨y69,hy69,h⟩:=bind_some h
 refine cR (g_1u.ok hy69 hI) hS 1 63 2 rfl (by kernel_rfl) fun s hS=>(KW.nil ?_)
 replace hS:=(hS.pull 2).drop
 cases h
 exact aG hS (.inl rfl) rfl ⟨rfl,rfl,rfl⟩
noncomputable def g_1f.f (pB:List UInt8) (pC:List Int) (pI:Int) (pJ:List Int) (pP:Bool):Option (Int×List Int×Bool) :=
  Option.bind (g_1r.f pB pC pI pJ pP) fun y1=>Option.bind (g_1o.f y1.2.2.2 y1.1) fun y9=>Option.bind (g_1t.f pB pC y1.2.1 y9) fun y11=>some (y11.1,y1.2.2.1,y11.2)
theorem g_1f.ok {iB:Nat} {aE:Option Addr} {zH:Nat} {aM:Option Addr} {zN:Nat} {BP:Seg} {pB:List UInt8} {pC:List Int} {pI:Int} {pJ:List Int} {pP:Bool} {F:FZ} {r:Int×List Int×Bool} (h:g_1f.f pB pC pI pJ pP=some r) (hI:Frz (elI .i64 3) F aE zH pC) (hO:Own (elI .i64 3) F aM zN pJ BP) :
    Cl EV 172 [.pointer (some ⟨iB,0,none⟩)] [[(iB,.row [aa pB,.slice aE pC.length zH,.int .i64 pI,.slice aM pJ.length zN,.bool pP] 99 0 true)],BP] F (fun v S' F'=> ∃(ra1:Option Addr) (rz2:Nat) (rB4:Seg),FLe F F'∧v= .tuple #[]∧S'= [[(iB,.row [aa pB,.slice aE pC.length zH,.int .i64 r.1,.slice ra1 r.2.1.length rz2,.bool r.2.2] 99 0 true)],rB4]∧Own (elI .i64 3) F' ra1 rz2 r.2.1 rB4):=by
 refine Cl.of Tryz.func172 rfl (fun _ _=>rfl) (by kernel_rfl) fun s L nx0 hS=>?_
 unfold g_1f.f at h
 refine WW.seq (WW.region ?_)
 refine sg0 hS 2 [] [2,3] [.pointer (some ⟨iB,0,none⟩),.pointer (some ⟨iB,0,none⟩)] [] (by kernel_rfl) fun s hS=>?_
 obtain⟨y1,hy1,h⟩:=bind_some h
 refine bu hS (wn rfl) (vs:=[.pointer (some ⟨iB,0,none⟩)]) (ws:=[.pointer (some ⟨iB,0,none⟩)]) rfl rfl rfl rfl rfl 2 rfl (g_1r.ok hy1 hI hO) fun s v S' F3 hp2 hF hS=>?_
 obtain⟨a4,z5,B7,hF8,rfl,rfl,h6⟩:=hp2
 obtain⟨y9,hy9,h⟩:=bind_some h
 refine cR (g_1o.ok hy9) hS 0 5 2 rfl (by kernel_rfl) fun s hS=>(KW.nil ?_)
 refine WW.region ?_
 obtain⟨y11,hy11,h⟩:=bind_some h
 refine cR (g_1t.ok hy11 (hI.mono hF8)) hS 1 7 2 rfl (by kernel_rfl) fun s hS=>(KW.nil ?_)
 cases h
 exact aG hS (.inl rfl) rfl ⟨_,_,_,(hF8),rfl,rfl,h6⟩
noncomputable def g_1k.b0 (pB:List UInt8) (pC:List Int) (x9:Int×List Int×Bool):Option ((Int×List Int×Bool)⊕(Int×List Int×Bool)) :=
  (if x9.2.2 then Option.bind (g_1y.f pB pC x9.1 x9.2.2 44) fun y26=>(if y26.1 then Option.bind (g_1f.f pB pC y26.2 x9.2.1 x9.2.2) fun y29=>some (.inl (y29.1,y29.2.1,y29.2.2)) else some (.inr (y26.2,x9.2.1,x9.2.2))) else some (.inr (x9.1,x9.2.1,x9.2.2)))
noncomputable def g_1k.f (pB:List UInt8) (pC:List Int) (pI:Int) (pJ:List Int) (pP:Bool):Option (Int×List Int×Bool) :=
  Option.bind (g_1f.f pB pC pI pJ pP) fun y1=>Option.bind (iter (g_1k.b0 pB pC) (y1.1,y1.2.1,y1.2.2)) fun o16=>some (o16.1,o16.2.1,o16.2.2)
theorem g_1k.ok {iB:Nat} {aE:Option Addr} {zH:Nat} {aM:Option Addr} {zN:Nat} {BP:Seg} {pB:List UInt8} {pC:List Int} {pI:Int} {pJ:List Int} {pP:Bool} {F:FZ} {r:Int×List Int×Bool} (h:g_1k.f pB pC pI pJ pP=some r) (hI:Frz (elI .i64 3) F aE zH pC) (hO:Own (elI .i64 3) F aM zN pJ BP) :
    Cl EV 109 [.pointer (some ⟨iB,0,none⟩),.func (.func 172) #[.pointer (some ⟨iB,0,none⟩)] #[]] [[(iB,.row [aa pB,.slice aE pC.length zH,.int .i64 pI,.slice aM pJ.length zN,.bool pP] 99 0 true)],BP] F (fun v S' F'=> ∃(ra1:Option Addr) (rz2:Nat) (rB4:Seg),FLe F F'∧v= .tuple #[]∧S'= [[(iB,.row [aa pB,.slice aE pC.length zH,.int .i64 r.1,.slice ra1 r.2.1.length rz2,.bool r.2.2] 99 0 true)],rB4]∧Own (elI .i64 3) F' ra1 rz2 r.2.1 rB4):=by
 refine Cl.of Tryz.func109 rfl (fun _ _=>rfl) (by kernel_rfl) fun s L nx0 hS=>?_
 unfold g_1k.f at h
 refine WW.seq (WW.region ?_)
 obtain⟨y1,hy1,h⟩:=bind_some h
 refine cK (g_1f.ok hy1 hI hO) hS 1 5 2 rfl (by kernel_rfl) fun s v S' F3 hp2 hF hS=>?_
 obtain⟨a4,z5,B7,hF8,rfl,rfl,h6⟩:=hp2
 refine KW.nil (WW.block ?_)
 obtain⟨o16,ho16,h⟩:=bind_some h
 refine WW.loop (LW.iterE ho16 (fun(x9:Int×List Int×Bool) s=> ∃(a12:Option Addr) (z13:Nat) (B15:Seg) (F10:FZ),Stt EV s [(0,.pointer (some ⟨iB,0,none⟩)),(1,.func (.func 172) #[.pointer (some ⟨iB,0,none⟩)] #[])] [[(iB,.row [aa pB,.slice aE pC.length zH,.int .i64 x9.1,.slice a12 x9.2.1.length z13,.bool x9.2.2] 99 0 true)],B15] F10 L F nx0∧Own (elI .i64 3) F10 a12 z13 x9.2.1 B15∧FLe F3 F10) 0 ⟨_,_,_,_,(hS.subR rfl),h6,(FLe.refl _)⟩ ?_ ?_)
 clear hS
 rintro x9 s ⟨a12,z13,B15,F10,hS,h14,hF11⟩ o16' h24
 unfold g_1k.b0 at h24
 refine WW.seq (WW.seq ?_)
 refine WW.region (sg0 hS 5 [0] [10] [.bool x9.2.2] [iB] (by kernel_rfl) fun s hS=>?_)
 refine bc h24 (fun hc25 h24=>?_) fun hc25 h24=>?_
 replace hS:=hS.kb 10 hc25 rfl
 refine sg0 hS 1 [] [11] [.pointer (some ⟨iB,0,none⟩)] [] (by kernel_rfl) fun s hS=>?_
 obtain⟨y26,hy26,h24⟩:=bind_some h24
 refine bu hS (wt hS rfl rfl rfl rfl) (vs:=[.pointer (some ⟨iB,0,none⟩),vB 44]) (ws:=[.pointer (some ⟨iB,0,none⟩),vB 44]) rfl rfl rfl rfl rfl 2 rfl (g_1y.ok hy26 (hI.mono (FLe.trans hF8 hF11))) fun s v S' F' hp27 hF hS=>?_
 obtain⟨rfl,rfl,rfl⟩:=hp27
 refine sg0 hS 1 [] [13] [.bool y26.1] [] (by kernel_rfl) fun s hS=>(KW.nil ?_)
 refine bc h24 (fun hc28 h24=>?_) fun hc28 h24=>?_
 refine WW.condK hS rfl hc28 (WW.skip ?_)
 refine WW.block (WW.region ?_)
 obtain⟨y29,hy29,h24⟩:=bind_some h24
 refine cK (g_1f.ok hy29 (hI.mono (FLe.trans hF8 hF11)) h14) hS 1 15 2 rfl (by kernel_rfl) fun s v S' F31 hp30 hF hS=>?_
 obtain⟨a32,z33,B35,hF36,rfl,rfl,h34⟩:=hp30
 refine KW.nil ?_
 obtain rfl:=Option.some.inj h24
 exact⟨_,rfl,_,_,_,_,(hS.subR rfl),h34,(FLe.trans hF11 hF36)⟩
 refine WW.condF hS rfl hc28 (WW.exit ?_)
 refine ae ?_
 obtain rfl:=Option.some.inj h24
 exact⟨_,rfl,rfl,_,_,_,_,(hS.subR rfl),h14,hF11⟩
 replace hS:=hS.kb 10 hc25 rfl
 refine sg0 hS 3 [] [13] [.bool false] [] (by kernel_rfl) fun s hS=>(KW.nil ?_)
 refine WW.condF hS rfl rfl (WW.exit ?_)
 refine ae ?_
 obtain rfl:=Option.some.inj h24
 exact⟨_,rfl,rfl,_,_,_,_,(hS.subR rfl),h14,hF11⟩
 clear hS
 rintro e s ⟨rfl,a39,z40,B42,F37,hS,h41,hF38⟩
 refine af ?_
 cases h
 exact aG hS (.inl rfl) rfl ⟨_,_,_,((FLe.trans hF8 hF38)),rfl,rfl,h41⟩
noncomputable def g_1l.b0 (pB:List UInt8) (pC:List Int) (x3:Int×Bool):Option ((Int×Bool)⊕(Int×Bool)) :=
  (if x3.2 then Option.bind (g_1y.f pB pC x3.1 x3.2 44) fun y8=>(if y8.1 then Option.bind (g_1p.f pB pC y8.2 x3.2) fun y11=>some (.inl (y11.1,y11.2)) else some (.inr (y8.2,x3.2))) else some (.inr (x3.1,x3.2)))
noncomputable def g_1l.f (pB:List UInt8) (pC:List Int) (pI:Int) (pP:Bool):Option (Int×Bool) :=
  Option.bind (g_1p.f pB pC pI pP) fun y1=>Option.bind (iter (g_1l.b0 pB pC) (y1.1,y1.2)) fun o4=>some (o4.1,o4.2)
theorem g_1l.ok {iB:Nat} {aE:Option Addr} {zH:Nat} {aM:Option Addr} {zN:Nat} {BP:Seg} {pB:List UInt8} {pC:List Int} {pI:Int} {pJ:List Int} {pP:Bool} {F:FZ} {r:Int×Bool} (h:g_1l.f pB pC pI pP=some r) (hI:Frz (elI .i64 3) F aE zH pC) :
    Cl EV 109 [.pointer (some ⟨iB,0,none⟩),.func (.func 104) #[.pointer (some ⟨iB,0,none⟩)] #[]] [[(iB,.row [aa pB,.slice aE pC.length zH,.int .i64 pI,.slice aM pJ.length zN,.bool pP] 99 0 true)],BP] F (fun v S' F'=>F=F'∧v= .tuple #[]∧S'= [[(iB,.row [aa pB,.slice aE pC.length zH,.int .i64 r.1,.slice aM pJ.length zN,.bool r.2] 99 0 true)],BP]):=by
 refine Cl.of Tryz.func109 rfl (fun _ _=>rfl) (by kernel_rfl) fun s L nx0 hS=>?_
 unfold g_1l.f at h
 refine WW.seq (WW.region ?_)
 obtain⟨y1,hy1,h⟩:=bind_some h
 refine cR (g_1p.ok hy1 hI) hS 1 5 2 rfl (by kernel_rfl) fun s hS=>(KW.nil ?_)
 refine WW.block ?_
 obtain⟨o4,ho4,h⟩:=bind_some h
 refine WW.loop (LW.iterE ho4 (fun(x3:Int×Bool) s=>Stt EV s [(0,.pointer (some ⟨iB,0,none⟩)),(1,.func (.func 104) #[.pointer (some ⟨iB,0,none⟩)] #[])] [[(iB,.row [aa pB,.slice aE pC.length zH,.int .i64 x3.1,.slice aM pJ.length zN,.bool x3.2] 99 0 true)],BP] F L F nx0) 0 (hS.subR rfl) ?_ ?_)
 clear hS
 rintro x3 s hS o4' h6
 unfold g_1l.b0 at h6
 refine WW.seq (WW.seq ?_)
 refine WW.region (sg0 hS 5 [0] [10] [.bool x3.2] [iB] (by kernel_rfl) fun s hS=>?_)
 refine bc h6 (fun hc7 h6=>?_) fun hc7 h6=>?_
 replace hS:=hS.kb 10 hc7 rfl
 refine sg0 hS 1 [] [11] [.pointer (some ⟨iB,0,none⟩)] [] (by kernel_rfl) fun s hS=>?_
 obtain⟨y8,hy8,h6⟩:=bind_some h6
 refine bu hS (wt hS rfl rfl rfl rfl) (vs:=[.pointer (some ⟨iB,0,none⟩),vB 44]) (ws:=[.pointer (some ⟨iB,0,none⟩),vB 44]) rfl rfl rfl rfl rfl 2 rfl (g_1y.ok hy8 hI) fun s v S' F' hp9 hF hS=>?_
 obtain⟨rfl,rfl,rfl⟩:=hp9
 refine sg0 hS 1 [] [13] [.bool y8.1] [] (by kernel_rfl) fun s hS=>(KW.nil ?_)
 refine bc h6 (fun hc10 h6=>?_) fun hc10 h6=>?_
 refine WW.condK hS rfl hc10 (WW.skip ?_)
 refine WW.block (WW.region ?_)
 obtain⟨y11,hy11,h6⟩:=bind_some h6
 refine cR (g_1p.ok hy11 hI) hS 1 15 2 rfl (by kernel_rfl) fun s hS=>(KW.nil ?_)
 obtain rfl:=Option.some.inj h6
 exact⟨_,rfl,(hS.subR rfl)⟩
 refine WW.condF hS rfl hc10 (WW.exit ?_)
 refine ae ?_
 obtain rfl:=Option.some.inj h6
 exact⟨_,rfl,rfl,(hS.subR rfl)⟩
 replace hS:=hS.kb 10 hc7 rfl
 refine sg0 hS 3 [] [13] [.bool false] [] (by kernel_rfl) fun s hS=>(KW.nil ?_)
 refine WW.condF hS rfl rfl (WW.exit ?_)
 refine ae ?_
 obtain rfl:=Option.some.inj h6
 exact⟨_,rfl,rfl,(hS.subR rfl)⟩
 clear hS
 rintro e s ⟨rfl,hS⟩
 refine af ?_
 cases h
 exact aG hS (.inl rfl) rfl ⟨rfl,rfl,rfl⟩
noncomputable def g_s.f (pB:List UInt8) (pC:List Int) (pI:Int) (pP:Bool):Option (Int×Bool) :=
  Option.bind (g_1y.f pB pC pI pP 47) fun y1=>(if y1.1 then Option.bind (g_1p.f pB pC y1.2 pP) fun y4=>Option.bind (g_1v.f pB pC y4.1 y4.2 47) fun y6=>some (y6.1,y6.2) else Option.bind (g_1p.f pB pC y1.2 pP) fun y8=>some (y8.1,y8.2))
theorem g_s.ok {iB:Nat} {aE:Option Addr} {zH:Nat} {aM:Option Addr} {zN:Nat} {BP:Seg} {pB:List UInt8} {pC:List Int} {pI:Int} {pJ:List Int} {pP:Bool} {F:FZ} {r:Int×Bool} (h:g_s.f pB pC pI pP=some r) (hI:Frz (elI .i64 3) F aE zH pC) :
    Cl EV 173 [.pointer (some ⟨iB,0,none⟩)] [[(iB,.row [aa pB,.slice aE pC.length zH,.int .i64 pI,.slice aM pJ.length zN,.bool pP] 99 0 true)],BP] F (fun v S' F'=>F=F'∧v= .tuple #[]∧S'= [[(iB,.row [aa pB,.slice aE pC.length zH,.int .i64 r.1,.slice aM pJ.length zN,.bool r.2] 99 0 true)],BP]):=by
 refine Cl.of Tryz.func173 rfl (fun _ _=>rfl) (by kernel_rfl) fun s L nx0 hS=>?_
 unfold g_s.f at h
 refine WW.seq (WW.seq ?_)
 refine WW.region ?_
 obtain⟨y1,hy1,h⟩:=bind_some h
 refine cR (g_1y.ok hy1 hI) hS 1 3 2 rfl (by kernel_rfl) fun s hS=>(KW.nil ?_)
 refine bc h (fun hc3 h=>?_) fun hc3 h=>?_
 refine WW.condK hS rfl hc3 (WW.seq ?_)
 refine WW.region ?_
 obtain⟨y4,hy4,h⟩:=bind_some h
 refine cR (g_1p.ok hy4 hI) hS 1 5 2 rfl (by kernel_rfl) fun s hS=>(KW.nil ?_)
 refine WW.seq (WW.region ?_)
 obtain⟨y6,hy6,h⟩:=bind_some h
 refine cR (g_1v.ok hy6 hI) hS 1 7 2 rfl (by kernel_rfl) fun s hS=>(KW.nil ?_)
 refine WW.ret ?_
 cases h
 exact aG hS (.inr rfl) rfl ⟨rfl,rfl,rfl⟩
 refine WW.condF hS rfl hc3 (WW.skip ?_)
 refine WW.region ?_
 obtain⟨y8,hy8,h⟩:=bind_some h
 refine cR (g_1p.ok hy8 hI) hS 1 9 2 rfl (by kernel_rfl) fun s hS=>(KW.nil ?_)
 cases h
 exact aG hS (.inl rfl) rfl ⟨rfl,rfl,rfl⟩
noncomputable def g_1m.b0 (pB:List UInt8) (pC:List Int) (x3:Int×Bool):Option ((Int×Bool)⊕(Int×Bool)) :=
  (if x3.2 then Option.bind (g_1y.f pB pC x3.1 x3.2 44) fun y8=>(if y8.1 then Option.bind (g_s.f pB pC y8.2 x3.2) fun y11=>some (.inl (y11.1,y11.2)) else some (.inr (y8.2,x3.2))) else some (.inr (x3.1,x3.2)))
noncomputable def g_1m.f (pB:List UInt8) (pC:List Int) (pI:Int) (pP:Bool):Option (Int×Bool) :=
  Option.bind (g_s.f pB pC pI pP) fun y1=>Option.bind (iter (g_1m.b0 pB pC) (y1.1,y1.2)) fun o4=>some (o4.1,o4.2)
theorem g_1m.ok {iB:Nat} {aE:Option Addr} {zH:Nat} {aM:Option Addr} {zN:Nat} {BP:Seg} {pB:List UInt8} {pC:List Int} {pI:Int} {pJ:List Int} {pP:Bool} {F:FZ} {r:Int×Bool} (h:g_1m.f pB pC pI pP=some r) (hI:Frz (elI .i64 3) F aE zH pC) :
    Cl EV 109 [.pointer (some ⟨iB,0,none⟩),.func (.func 173) #[.pointer (some ⟨iB,0,none⟩)] #[]] [[(iB,.row [aa pB,.slice aE pC.length zH,.int .i64 pI,.slice aM pJ.length zN,.bool pP] 99 0 true)],BP] F (fun v S' F'=>F=F'∧v= .tuple #[]∧S'= [[(iB,.row [aa pB,.slice aE pC.length zH,.int .i64 r.1,.slice aM pJ.length zN,.bool r.2] 99 0 true)],BP]):=by
 refine Cl.of Tryz.func109 rfl (fun _ _=>rfl) (by kernel_rfl) fun s L nx0 hS=>?_
 unfold g_1m.f at h
 refine WW.seq (WW.region ?_)
 obtain⟨y1,hy1,h⟩:=bind_some h
 refine cR (g_s.ok hy1 hI) hS 1 5 2 rfl (by kernel_rfl) fun s hS=>(KW.nil ?_)
 refine WW.block ?_
 obtain⟨o4,ho4,h⟩:=bind_some h
 refine WW.loop (LW.iterE ho4 (fun(x3:Int×Bool) s=>Stt EV s [(0,.pointer (some ⟨iB,0,none⟩)),(1,.func (.func 173) #[.pointer (some ⟨iB,0,none⟩)] #[])] [[(iB,.row [aa pB,.slice aE pC.length zH,.int .i64 x3.1,.slice aM pJ.length zN,.bool x3.2] 99 0 true)],BP] F L F nx0) 0 (hS.subR rfl) ?_ ?_)
 clear hS
 rintro x3 s hS o4' h6
 unfold g_1m.b0 at h6
 refine WW.seq (WW.seq ?_)
 refine WW.region (sg0 hS 5 [0] [10] [.bool x3.2] [iB] (by kernel_rfl) fun s hS=>?_)
 refine bc h6 (fun hc7 h6=>?_) fun hc7 h6=>?_
 replace hS:=hS.kb 10 hc7 rfl
 refine sg0 hS 1 [] [11] [.pointer (some ⟨iB,0,none⟩)] [] (by kernel_rfl) fun s hS=>?_
 obtain⟨y8,hy8,h6⟩:=bind_some h6
 refine bu hS (wt hS rfl rfl rfl rfl) (vs:=[.pointer (some ⟨iB,0,none⟩),vB 44]) (ws:=[.pointer (some ⟨iB,0,none⟩),vB 44]) rfl rfl rfl rfl rfl 2 rfl (g_1y.ok hy8 hI) fun s v S' F' hp9 hF hS=>?_
 obtain⟨rfl,rfl,rfl⟩:=hp9
 refine sg0 hS 1 [] [13] [.bool y8.1] [] (by kernel_rfl) fun s hS=>(KW.nil ?_)
 refine bc h6 (fun hc10 h6=>?_) fun hc10 h6=>?_
 refine WW.condK hS rfl hc10 (WW.skip ?_)
 refine WW.block (WW.region ?_)
 obtain⟨y11,hy11,h6⟩:=bind_some h6
 refine cR (g_s.ok hy11 hI) hS 1 15 2 rfl (by kernel_rfl) fun s hS=>(KW.nil ?_)
 obtain rfl:=Option.some.inj h6
 exact⟨_,rfl,(hS.subR rfl)⟩
 refine WW.condF hS rfl hc10 (WW.exit ?_)
 refine ae ?_
 obtain rfl:=Option.some.inj h6
 exact⟨_,rfl,rfl,(hS.subR rfl)⟩
 replace hS:=hS.kb 10 hc7 rfl
 refine sg0 hS 3 [] [13] [.bool false] [] (by kernel_rfl) fun s hS=>(KW.nil ?_)
 refine WW.condF hS rfl rfl (WW.exit ?_)
 refine ae ?_
 obtain rfl:=Option.some.inj h6
 exact⟨_,rfl,rfl,(hS.subR rfl)⟩
 clear hS
 rintro e s ⟨rfl,hS⟩
 refine af ?_
 cases h
 exact aG hS (.inl rfl) rfl ⟨rfl,rfl,rfl⟩
noncomputable def g_1s.f (pB:List UInt8) (pC:List Int) (pI:Int) (pJ:List Int) (pP:Bool) (pT:Int):Option (Int×List Int×Bool) :=
  (if(pT==18) then Option.bind (g_12.f pB pC pI pP) fun y2=>(if y2 then Option.bind (g_1b.f pB pC pI pP) fun y5=>some (y5.1,pJ,y5.2) else Option.bind (g_1a.f pB pC pI pP) fun y7=>some (y7.1,pJ,y7.2)) else(if(pT==19) then Option.bind (g_1b.f pB pC pI pP) fun y10=>some (y10.1,pJ,y10.2) else(if(pT==20) then Option.bind (g_1a.f pB pC pI pP) fun y13=>some (y13.1,pJ,y13.2) else Option.bind ((if(pT==21) then some true else(if(pT==22) then some true else(if(pT==23) then some true else(if(pT==27) then some true else some (pT==32)))))) fun z15=>(if z15 then Option.bind (g_1t.f pB pC pI pP) fun y21=>some (y21.1,pJ,y21.2) else Option.bind ((if(pT==24) then some true else(if(pT==25) then some true else some (pT==26)))) fun z23=>(if z23 then Option.bind (g_y.f pB pC pI pP) fun y27=>some (y27.1,pJ,y27.2) else(if(pT==29) then Option.bind (g_1i.f pB pC pI pP) fun y30=>some (y30.1,pJ,y30.2) else(if(pT==30) then Option.bind (g_p.f pB pC pI pP ([47])) fun y33=>Option.bind (g_1o.f pP y33) fun y35=>Option.bind (g_1u.f pB pC pI y35) fun y37=>some (y37.1,pJ,y37.2) else(if(pT==31) then Option.bind (g_1j.f pB pC pI pP) fun y40=>some (y40.1,pJ,y40.2) else(if(pT==33) then Option.bind (g_u.f pB pC pI pP) fun y43=>some (y43.1,pJ,y43.2) else(if(pT==34) then Option.bind (g_z.f pB pC pI pP ([78,79,78,69])) fun y46=>(if y46 then(if((w64 (pI+4))==(pB.length:Int)) then Option.bind (g_20.f pB pC pI pJ pP ([78,79,78,69])) fun y50=>some (y50.1,y50.2.1,y50.2.2) else Option.bind (g_1k.f pB pC pI pJ pP) fun y56=>some (y56.1,y56.2.1,y56.2.2)) else Option.bind (g_1k.f pB pC pI pJ pP) fun y64=>some (y64.1,y64.2.1,y64.2.2)) else Option.bind ((if(pT==35) then some true else some (pT==36))) fun z72=>(if z72 then Option.bind (g_1l.f pB pC pI pP) fun y75=>some (y75.1,pJ,y75.2) else(if(pT==37) then Option.bind (g_11.f pB pI pP) fun y78=>(if y78 then Option.bind (g_1m.f pB pC pI pP) fun y81=>some (y81.1,pJ,y81.2) else some (pI,pJ,pP)) else(if(pT==38) then Option.bind (g_1p.f pB pC pI pP) fun y84=>some (y84.1,pJ,y84.2) else(if(pT==42) then Option.bind (g_11.f pB pI pP) fun y87=>(if y87 then Option.bind (g_1p.f pB pC pI pP) fun y90=>some (y90.1,pJ,y90.2) else some (pI,pJ,pP)) else some (pI,pJ,pP)))))))))))))))
theorem g_1s.ok {iB:Nat} {aE:Option Addr} {zH:Nat} {aM:Option Addr} {zN:Nat} {BP:Seg} {pB:List UInt8} {pC:List Int} {pI:Int} {pJ:List Int} {pP:Bool} {pT:Int} {F:FZ} {r:Int×List Int×Bool} (h:g_1s.f pB pC pI pJ pP pT=some r) (hI:Frz (elI .i64 3) F aE zH pC) (hO:Own (elI .i64 3) F aM zN pJ BP) :
    Cl EV 152 [.pointer (some ⟨iB,0,none⟩),.int .i64 pT] [[(iB,.row [aa pB,.slice aE pC.length zH,.int .i64 pI,.slice aM pJ.length zN,.bool pP] 99 0 true)],BP] F (fun v S' F'=> ∃(ra1:Option Addr) (rz2:Nat) (rB4:Seg),FLe F F'∧v= .tuple #[]∧S'= [[(iB,.row [aa pB,.slice aE pC.length zH,.int .i64 r.1,.slice ra1 r.2.1.length rz2,.bool r.2.2] 99 0 true)],rB4]∧Own (elI .i64 3) F' ra1 rz2 r.2.1 rB4):=by
 refine Cl.of Tryz.func152 rfl (fun _ _=>rfl) (by kernel_rfl) fun s L nx0 hS=>?_
 unfold g_1s.f at h
 refine WW.seq (WW.region ?_)
 refine sg0 hS 1 [] [4] [.int .i64 pT] [] (by kernel_rfl) fun s hS=>(KW.nil ?_)
 refine WW.block (WW.seq ?_)
 refine WW.region (sg0 hS 2 [] [5] [.bool (pT==18)] [] (by kernel_rfl) fun s hS=>?_)
 refine KW.nil (bc h (fun hc1 h=>?_) fun hc1 h=>?_)
 refine WW.condK hS rfl hc1 (WW.seq ?_)
 refine WW.region ?_
 obtain⟨y2,hy2,h⟩:=bind_some h
 refine cR (g_12.ok hy2 hI) hS 1 8 2 rfl (by kernel_rfl) fun s hS=>(KW.nil ?_)
 refine bc h (fun hc4 h=>?_) fun hc4 h=>?_
 refine WW.condK hS rfl hc4 (WW.region ?_)
 obtain⟨y5,hy5,h⟩:=bind_some h
 refine cR (g_1b.ok hy5 hI) hS 1 10 2 rfl (by kernel_rfl) fun s hS=>(KW.nil ?_)
 cases h
 exact aG hS (.inl rfl) rfl ⟨_,_,_,(FLe.refl _),rfl,rfl,hO⟩
 refine WW.condF hS rfl hc4 (WW.region ?_)
 obtain⟨y7,hy7,h⟩:=bind_some h
 refine cR (g_1a.ok hy7 hI) hS 1 12 2 rfl (by kernel_rfl) fun s hS=>(KW.nil ?_)
 cases h
 exact aG hS (.inl rfl) rfl ⟨_,_,_,(FLe.refl _),rfl,rfl,hO⟩
 refine WW.condF hS rfl hc1 (WW.seq ?_)
 refine WW.region (sg0 hS 2 [] [13] [.bool (pT==19)] [] (by kernel_rfl) fun s hS=>?_)
 refine KW.nil (bc h (fun hc9 h=>?_) fun hc9 h=>?_)
 refine WW.condK hS rfl hc9 (WW.region ?_)
 obtain⟨y10,hy10,h⟩:=bind_some h
 refine cR (g_1b.ok hy10 hI) hS 1 16 2 rfl (by kernel_rfl) fun s hS=>(KW.nil ?_)
 cases h
 exact aG hS (.inl rfl) rfl ⟨_,_,_,(FLe.refl _),rfl,rfl,hO⟩
 refine WW.condF hS rfl hc9 (WW.seq ?_)
 refine WW.region (sg0 hS 2 [] [17] [.bool (pT==20)] [] (by kernel_rfl) fun s hS=>?_)
 refine KW.nil (bc h (fun hc12 h=>?_) fun hc12 h=>?_)
 refine WW.condK hS rfl hc12 (WW.region ?_)
 obtain⟨y13,hy13,h⟩:=bind_some h
 refine cR (g_1a.ok hy13 hI) hS 1 20 2 rfl (by kernel_rfl) fun s hS=>(KW.nil ?_)
 cases h
 exact aG hS (.inl rfl) rfl ⟨_,_,_,(FLe.refl _),rfl,rfl,hO⟩
 refine WW.condF hS rfl hc12 ?_
 obtain⟨z15,hz15,h⟩:=bind_some h
 refine WW.seqJ (fun s=>Stt EV s [(0,.pointer (some ⟨iB,0,none⟩)),(4,.int .i64 pT),(21,.bool z15)] [[(iB,.row [aa pB,.slice aE pC.length zH,.int .i64 pI,.slice aM pJ.length zN,.bool pP] 99 0 true)],BP] F L F nx0) ?_ ?_
 refine WW.seq (WW.region ?_)
 refine sg0 hS 2 [] [21] [.bool (pT==21)] [] (by kernel_rfl) fun s hS=>(KW.nil ?_)
 refine bc hz15 (fun hc16 hz15=>?_) fun hc16 hz15=>?_
 replace hS:=hS.kb 21 hc16 rfl
 refine WW.condK hS rfl rfl (WW.skip ?_)
 obtain rfl:=Option.some.inj hz15
 exact(hS.subR rfl)
 replace hS:=hS.kb 21 hc16 rfl
 refine WW.condF hS rfl rfl (WW.seq ?_)
 refine WW.region (sg0 hS 2 [] [21] [.bool (pT==22)] [] (by kernel_rfl) fun s hS=>?_)
 refine KW.nil (bc hz15 (fun hc17 hz15=>?_) fun hc17 hz15=>?_)
 replace hS:=hS.kb 21 hc17 rfl
 refine WW.condK hS rfl rfl (WW.skip ?_)
 obtain rfl:=Option.some.inj hz15
 exact(hS.subR rfl)
 replace hS:=hS.kb 21 hc17 rfl
 refine WW.condF hS rfl rfl (WW.seq ?_)
 refine WW.region (sg0 hS 2 [] [21] [.bool (pT==23)] [] (by kernel_rfl) fun s hS=>?_)
 refine KW.nil (bc hz15 (fun hc18 hz15=>?_) fun hc18 hz15=>?_)
 replace hS:=hS.kb 21 hc18 rfl
 refine WW.condK hS rfl rfl (WW.skip ?_)
 obtain rfl:=Option.some.inj hz15
 exact(hS.subR rfl)
 replace hS:=hS.kb 21 hc18 rfl
 refine WW.condF hS rfl rfl (WW.seq ?_)
 refine WW.region (sg0 hS 2 [] [21] [.bool (pT==27)] [] (by kernel_rfl) fun s hS=>?_)
 refine KW.nil (bc hz15 (fun hc19 hz15=>?_) fun hc19 hz15=>?_)
 replace hS:=hS.kb 21 hc19 rfl
 refine WW.condK hS rfl rfl (WW.skip ?_)
 obtain rfl:=Option.some.inj hz15
 exact(hS.subR rfl)
 replace hS:=hS.kb 21 hc19 rfl
 refine WW.condF hS rfl rfl (WW.region ?_)
 refine sg0 hS 2 [] [21] [.bool (pT==32)] [] (by kernel_rfl) fun s hS=>(KW.nil ?_)
 obtain rfl:=Option.some.inj hz15
 exact(hS.subR rfl)
 rintro s hS
 refine bc h (fun hc20 h=>?_) fun hc20 h=>?_
 refine WW.condK hS rfl hc20 (WW.region ?_)
 obtain⟨y21,hy21,h⟩:=bind_some h
 refine cR (g_1t.ok hy21 hI) hS 1 28 2 rfl (by kernel_rfl) fun s hS=>(KW.nil ?_)
 cases h
 exact aG hS (.inl rfl) rfl ⟨_,_,_,(FLe.refl _),rfl,rfl,hO⟩
 refine WW.condF hS rfl hc20 ?_
 obtain⟨z23,hz23,h⟩:=bind_some h
 refine WW.seqJ (fun s=>Stt EV s [(0,.pointer (some ⟨iB,0,none⟩)),(4,.int .i64 pT),(29,.bool z23)] [[(iB,.row [aa pB,.slice aE pC.length zH,.int .i64 pI,.slice aM pJ.length zN,.bool pP] 99 0 true)],BP] F L F nx0) ?_ ?_
 refine WW.seq (WW.region ?_)
 refine sg0 hS 2 [] [29] [.bool (pT==24)] [] (by kernel_rfl) fun s hS=>(KW.nil ?_)
 refine bc hz23 (fun hc24 hz23=>?_) fun hc24 hz23=>?_
 replace hS:=hS.kb 29 hc24 rfl
 refine WW.condK hS rfl rfl (WW.skip ?_)
 obtain rfl:=Option.some.inj hz23
 exact(hS.subR rfl)
 replace hS:=hS.kb 29 hc24 rfl
 refine WW.condF hS rfl rfl (WW.seq ?_)
 refine WW.region (sg0 hS 2 [] [29] [.bool (pT==25)] [] (by kernel_rfl) fun s hS=>?_)
 refine KW.nil (bc hz23 (fun hc25 hz23=>?_) fun hc25 hz23=>?_)
 replace hS:=hS.kb 29 hc25 rfl
 refine WW.condK hS rfl rfl (WW.skip ?_)
 obtain rfl:=Option.some.inj hz23
 exact(hS.subR rfl)
 replace hS:=hS.kb 29 hc25 rfl
 refine WW.condF hS rfl rfl (WW.region ?_)
 refine sg0 hS 2 [] [29] [.bool (pT==26)] [] (by kernel_rfl) fun s hS=>(KW.nil ?_)
 obtain rfl:=Option.some.inj hz23
 exact(hS.subR rfl)
 rintro s hS
 refine bc h (fun hc26 h=>?_) fun hc26 h=>?_
 refine WW.condK hS rfl hc26 (WW.region ?_)
 obtain⟨y27,hy27,h⟩:=bind_some h
 refine cR (g_y.ok hy27 hI) hS 1 34 2 rfl (by kernel_rfl) fun s hS=>(KW.nil ?_)
 cases h
 exact aG hS (.inl rfl) rfl ⟨_,_,_,(FLe.refl _),rfl,rfl,hO⟩
 refine WW.condF hS rfl hc26 (WW.seq ?_)
 refine WW.region (sg0 hS 2 [] [35] [.bool (pT==29)] [] (by kernel_rfl) fun s hS=>?_)
 refine KW.nil (bc h (fun hc29 h=>?_) fun hc29 h=>?_)
 refine WW.condK hS rfl hc29 (WW.region ?_)
 refine sg0 hS 2 [] [37,38] [.pointer (some ⟨iB,0,none⟩),.pointer (some ⟨iB,0,none⟩)] [] (by kernel_rfl) fun s hS=>(aw hS (wn rfl) rfl rfl rfl (v:= .func (.func 168) #[.pointer (some ⟨iB,0,none⟩)] #[]) (cF (bb hS (vs:=[.pointer (some ⟨iB,0,none⟩)]) rfl) (bb hS (vs:=[]) rfl)) fun s hS=>?_)
 obtain⟨y30,hy30,h⟩:=bind_some h
 refine cR (g_1i.ok hy30 hI) hS 0 40 2 rfl (by kernel_rfl) fun s hS=>(KW.nil ?_)
 cases h
 exact aG hS (.inl rfl) rfl ⟨_,_,_,(FLe.refl _),rfl,rfl,hO⟩
 refine WW.condF hS rfl hc29 (WW.seq ?_)
 refine WW.region (sg0 hS 2 [] [41] [.bool (pT==30)] [] (by kernel_rfl) fun s hS=>?_)
 refine KW.nil (bc h (fun hc32 h=>?_) fun hc32 h=>?_)
 refine WW.condK hS rfl hc32 (WW.seq ?_)
 refine WW.region (sg0 hS 2 [] [43,44] [.pointer (some ⟨iB,0,none⟩),.pointer (some ⟨iB,0,none⟩)] [] (by kernel_rfl) fun s hS=>?_)
 obtain⟨y33,hy33,h⟩:=bind_some h
 refine bu hS (wn rfl) (vs:=[.pointer (some ⟨iB,0,none⟩),aa ([47])]) (ws:=[.pointer (some ⟨iB,0,none⟩),aa ([47])]) rfl rfl rfl rfl rfl 2 rfl (g_p.ok hy33 hI) fun s v S' F' hp34 hF hS=>?_
 obtain⟨rfl,rfl,rfl⟩:=hp34
 obtain⟨y35,hy35,h⟩:=bind_some h
 refine cR (g_1o.ok hy35) hS 0 46 2 rfl (by kernel_rfl) fun s hS=>(KW.nil ?_)
 refine WW.region ?_
 obtain⟨y37,hy37,h⟩:=bind_some h
 refine cR (g_1u.ok hy37 hI) hS 1 48 2 rfl (by kernel_rfl) fun s hS=>(KW.nil ?_)
 cases h
 exact aG hS (.inl rfl) rfl ⟨_,_,_,(FLe.refl _),rfl,rfl,hO⟩
 refine WW.condF hS rfl hc32 (WW.seq ?_)
 refine WW.region (sg0 hS 2 [] [49] [.bool (pT==31)] [] (by kernel_rfl) fun s hS=>?_)
 refine KW.nil (bc h (fun hc39 h=>?_) fun hc39 h=>?_)
 refine WW.condK hS rfl hc39 (WW.region ?_)
 refine sg0 hS 2 [] [51,52] [.pointer (some ⟨iB,0,none⟩),.pointer (some ⟨iB,0,none⟩)] [] (by kernel_rfl) fun s hS=>(aw hS (wn rfl) rfl rfl rfl (v:= .func (.func 92) #[.pointer (some ⟨iB,0,none⟩)] #[]) (cF (bb hS (vs:=[.pointer (some ⟨iB,0,none⟩)]) rfl) (bb hS (vs:=[]) rfl)) fun s hS=>?_)
 obtain⟨y40,hy40,h⟩:=bind_some h
 refine cR (g_1j.ok hy40 hI) hS 0 54 2 rfl (by kernel_rfl) fun s hS=>(KW.nil ?_)
 cases h
 exact aG hS (.inl rfl) rfl ⟨_,_,_,(FLe.refl _),rfl,rfl,hO⟩
 refine WW.condF hS rfl hc39 (WW.seq ?_)
 refine WW.region (sg0 hS 2 [] [55] [.bool (pT==33)] [] (by kernel_rfl) fun s hS=>?_)
 refine KW.nil (bc h (fun hc42 h=>?_) fun hc42 h=>?_)
 refine WW.condK hS rfl hc42 (WW.region ?_)
 obtain⟨y43,hy43,h⟩:=bind_some h
 refine cR (g_u.ok hy43 hI) hS 1 58 2 rfl (by kernel_rfl) fun s hS=>(KW.nil ?_)
 cases h
 exact aG hS (.inl rfl) rfl ⟨_,_,_,(FLe.refl _),rfl,rfl,hO⟩
 refine WW.condF hS rfl hc42 (WW.seq ?_)
 refine WW.region (sg0 hS 2 [] [59] [.bool (pT==34)] [] (by kernel_rfl) fun s hS=>?_)
 refine KW.nil (bc h (fun hc45 h=>?_) fun hc45 h=>?_)
 refine WW.condK hS rfl hc45 (WW.seq ?_)
 refine WW.seq (WW.regionD (i:=[[],[],[],[],[],[],[],[],[7,6,5,4,3],[7,6,5,4,3],[7,6,5,4,3],[7,6,5,4,3],[7,6,5,4,3],[],[]]) (by kernel_rfl) ?_)
 have hq:=RS.start [iB]
 refine kg hS hq 1 [61] [.pointer (some ⟨iB,0,none⟩)] (by kernel_rfl) fun s rs hS hq=>?_
 obtain⟨y46,hy46,h⟩:=bind_some h
 refine K.cl hS hq rfl (wn rfl) (vs:=[.pointer (some ⟨iB,0,none⟩),aa ([78,79,78,69])]) (ws:=[.pointer (some ⟨iB,0,none⟩),aa ([78,79,78,69])]) rfl rfl rfl rfl rfl 2 rfl (g_z.ok hy46 hI)  [] rfl rfl bn fun s rs v S' F' hp47 hF hS hq=>?_
 obtain⟨rfl,rfl,rfl⟩:=hp47
 refine kg hS hq 1 [63] [.bool y46] (by kernel_rfl) fun s rs hS hq=>(bc h (fun hc48 h=>?_) fun hc48 h=>?_)
 replace hS:=hS.kb 62 hc48 rfl
 replace hS:=hS.kb 63 hc48 rfl
 refine kg hS hq 3 [66] [.pointer (some ⟨iB,2,none⟩)] (by kernel_rfl) fun s rs hS hq=>(K.ld hS hq rfl (wt hS rfl rfl rfl rfl) rfl rfl rfl (hS.at (k:=0) rfl) tg3 (v:= .int .i64 pI) rfl 0 rfl rfl fun s rs hS hq=>?_)
 refine kg hS hq 4 [68,71] [.int .i64 (w64 (pI+4)),.pointer (some ⟨iB,0,none⟩)] (by kernel_rfl) fun s rs hS hq=>(K.ld hS hq rfl (wt hS rfl rfl rfl rfl) rfl rfl rfl (hS.at (k:=0) rfl) tg9 (v:=aa pB) rfl 0 rfl rfl fun s rs hS hq=>?_)
 refine kg hS hq 3 [75] [.bool ((w64 (pI+4))==(pB.length:Int))] (by kernel_rfl) fun s rs hS hq=>(KW.nil ?_)
 refine bc h (fun hc49 h=>?_) fun hc49 h=>?_
 refine WW.condK hS rfl hc49 (WW.seq ?_)
 refine WW.region ?_
 obtain⟨y50,hy50,h⟩:=bind_some h
 refine cK (g_20.ok hy50 hI hO) hS 1 77 2 rfl (by kernel_rfl) fun s v S' F' hp51 hF hS=>?_
 obtain⟨a52,z53,B55,rfl,rfl,rfl,h54⟩:=hp51
 refine KW.nil (WW.ret ?_)
 cases h
 exact aG hS (.inr rfl) rfl ⟨_,_,_,(FLe.refl _),rfl,rfl,h54⟩
 refine WW.condF hS rfl hc49 (WW.skip ?_)
 refine WW.region (sg0 hS 2 [] [78,79] [.pointer (some ⟨iB,0,none⟩),.pointer (some ⟨iB,0,none⟩)] [] (by kernel_rfl) fun s hS=>?_)
 refine aw hS (wn rfl) rfl rfl rfl (v:= .func (.func 172) #[.pointer (some ⟨iB,0,none⟩)] #[]) (cF (bb hS (vs:=[.pointer (some ⟨iB,0,none⟩)]) rfl) (bb hS (vs:=[]) rfl)) fun s hS=>?_
 obtain⟨y56,hy56,h⟩:=bind_some h
 refine cK (g_1k.ok hy56 hI hO) hS 0 81 2 rfl (by kernel_rfl) fun s v S' F58 hp57 hF hS=>?_
 obtain⟨a59,z60,B62,hF63,rfl,rfl,h61⟩:=hp57
 refine KW.nil ?_
 cases h
 exact aG hS (.inl rfl) rfl ⟨_,_,_,(hF63),rfl,rfl,h61⟩
 replace hS:=hS.kb 62 hc48 rfl
 replace hS:=hS.kb 63 hc48 rfl
 refine kg hS hq 12 [75] [.bool false] (by kernel_rfl) fun s rs hS hq=>(KW.nil ?_)
 refine WW.condF hS rfl rfl (WW.skip ?_)
 refine WW.region (sg0 hS 2 [] [78,79] [.pointer (some ⟨iB,0,none⟩),.pointer (some ⟨iB,0,none⟩)] [] (by kernel_rfl) fun s hS=>?_)
 refine aw hS (wn rfl) rfl rfl rfl (v:= .func (.func 172) #[.pointer (some ⟨iB,0,none⟩)] #[]) (cF (bb hS (vs:=[.pointer (some ⟨iB,0,none⟩)]) rfl) (bb hS (vs:=[]) rfl)) fun s hS=>?_
 obtain⟨y64,hy64,h⟩:=bind_some h
 refine cK (g_1k.ok hy64 hI hO) hS 0 81 2 rfl (by kernel_rfl) fun s v S' F66 hp65 hF hS=>?_
 obtain⟨a67,z68,B70,hF71,rfl,rfl,h69⟩:=hp65
 refine KW.nil ?_
 cases h
 exact aG hS (.inl rfl) rfl ⟨_,_,_,(hF71),rfl,rfl,h69⟩
 refine WW.condF hS rfl hc45 ?_
 obtain⟨z72,hz72,h⟩:=bind_some h
 refine WW.seqJ (fun s=>Stt EV s [(0,.pointer (some ⟨iB,0,none⟩)),(4,.int .i64 pT),(82,.bool z72)] [[(iB,.row [aa pB,.slice aE pC.length zH,.int .i64 pI,.slice aM pJ.length zN,.bool pP] 99 0 true)],BP] F L F nx0) ?_ ?_
 refine WW.seq (WW.region ?_)
 refine sg0 hS 2 [] [82] [.bool (pT==35)] [] (by kernel_rfl) fun s hS=>(KW.nil ?_)
 refine bc hz72 (fun hc73 hz72=>?_) fun hc73 hz72=>?_
 replace hS:=hS.kb 82 hc73 rfl
 refine WW.condK hS rfl rfl (WW.skip ?_)
 obtain rfl:=Option.some.inj hz72
 exact(hS.subR rfl)
 replace hS:=hS.kb 82 hc73 rfl
 refine WW.condF hS rfl rfl (WW.region ?_)
 refine sg0 hS 2 [] [82] [.bool (pT==36)] [] (by kernel_rfl) fun s hS=>(KW.nil ?_)
 obtain rfl:=Option.some.inj hz72
 exact(hS.subR rfl)
 rintro s hS
 refine bc h (fun hc74 h=>?_) fun hc74 h=>?_
 refine WW.condK hS rfl hc74 (WW.region ?_)
 refine sg0 hS 2 [] [85,86] [.pointer (some ⟨iB,0,none⟩),.pointer (some ⟨iB,0,none⟩)] [] (by kernel_rfl) fun s hS=>(aw hS (wn rfl) rfl rfl rfl (v:= .func (.func 104) #[.pointer (some ⟨iB,0,none⟩)] #[]) (cF (bb hS (vs:=[.pointer (some ⟨iB,0,none⟩)]) rfl) (bb hS (vs:=[]) rfl)) fun s hS=>?_)
 obtain⟨y75,hy75,h⟩:=bind_some h
 refine cR (g_1l.ok hy75 hI) hS 0 88 2 rfl (by kernel_rfl) fun s hS=>(KW.nil ?_)
 cases h
 exact aG hS (.inl rfl) rfl ⟨_,_,_,(FLe.refl _),rfl,rfl,hO⟩
 refine WW.condF hS rfl hc74 (WW.seq ?_)
 refine WW.region (sg0 hS 2 [] [89] [.bool (pT==37)] [] (by kernel_rfl) fun s hS=>?_)
 refine KW.nil (bc h (fun hc77 h=>?_) fun hc77 h=>?_)
 refine WW.condK hS rfl hc77 (WW.seq ?_)
 refine WW.region ?_
 obtain⟨y78,hy78,h⟩:=bind_some h
 refine cR (g_11.ok hy78) hS 1 92 2 rfl (by kernel_rfl) fun s hS=>(KW.nil ?_)
 refine bc h (fun hc80 h=>?_) fun hc80 h=>?_
 refine WW.condK hS rfl hc80 (WW.region ?_)
 refine sg0 hS 2 [] [93,94] [.pointer (some ⟨iB,0,none⟩),.pointer (some ⟨iB,0,none⟩)] [] (by kernel_rfl) fun s hS=>(aw hS (wn rfl) rfl rfl rfl (v:= .func (.func 173) #[.pointer (some ⟨iB,0,none⟩)] #[]) (cF (bb hS (vs:=[.pointer (some ⟨iB,0,none⟩)]) rfl) (bb hS (vs:=[]) rfl)) fun s hS=>?_)
 obtain⟨y81,hy81,h⟩:=bind_some h
 refine cR (g_1m.ok hy81 hI) hS 0 96 2 rfl (by kernel_rfl) fun s hS=>(KW.nil ?_)
 cases h
 exact aG hS (.inl rfl) rfl ⟨_,_,_,(FLe.refl _),rfl,rfl,hO⟩
 refine WW.condF hS rfl hc80 (WW.skip ?_)
 cases h
 exact aG hS (.inl rfl) rfl ⟨_,_,_,(FLe.refl _),rfl,rfl,hO⟩
 refine WW.condF hS rfl hc77 (WW.seq ?_)
 refine WW.region (sg0 hS 2 [] [97] [.bool (pT==38)] [] (by kernel_rfl) fun s hS=>?_)
 refine KW.nil (bc h (fun hc83 h=>?_) fun hc83 h=>?_)
 refine WW.condK hS rfl hc83 (WW.region ?_)
 obtain⟨y84,hy84,h⟩:=bind_some h
 refine cR (g_1p.ok hy84 hI) hS 1 100 2 rfl (by kernel_rfl) fun s hS=>(KW.nil ?_)
 cases h
 exact aG hS (.inl rfl) rfl ⟨_,_,_,(FLe.refl _),rfl,rfl,hO⟩
 refine WW.condF hS rfl hc83 (WW.seq ?_)
 refine WW.region (sg0 hS 2 [] [101] [.bool (pT==42)] [] (by kernel_rfl) fun s hS=>?_)
 refine KW.nil (bc h (fun hc86 h=>?_) fun hc86 h=>?_)
 refine WW.condK hS rfl hc86 (WW.seq ?_)
 refine WW.region ?_
 obtain⟨y87,hy87,h⟩:=bind_some h
 refine cR (g_11.ok hy87) hS 1 104 2 rfl (by kernel_rfl) fun s hS=>(KW.nil ?_)
 refine bc h (fun hc89 h=>?_) fun hc89 h=>?_
 refine WW.condK hS rfl hc89 (WW.region ?_)
 obtain⟨y90,hy90,h⟩:=bind_some h
 refine cR (g_1p.ok hy90 hI) hS 1 106 2 rfl (by kernel_rfl) fun s hS=>(KW.nil ?_)
 cases h
 exact aG hS (.inl rfl) rfl ⟨_,_,_,(FLe.refl _),rfl,rfl,hO⟩
 refine WW.condF hS rfl hc89 (WW.skip ?_)
 cases h
 exact aG hS (.inl rfl) rfl ⟨_,_,_,(FLe.refl _),rfl,rfl,hO⟩
 refine WW.condF hS rfl hc86 (WW.skip ?_)
 cases h
 exact aG hS (.inl rfl) rfl ⟨_,_,_,(FLe.refl _),rfl,rfl,hO⟩
noncomputable def g_r.b0 (pB:List UInt8) (pC:List Int) (x43:Int×Int×Bool):Option ((Int×Int×Bool)⊕(Int×Int×Bool)) :=
  (if(decide (x43.1<3)) then(if(decide (x43.1>0)) then Option.bind (g_1v.f pB pC x43.2.1 x43.2.2 44) fun y49=>Option.bind (g_1d.f pB pC y49.1 y49.2) fun y51=>some (.inl ((w64 (x43.1+1)),y51.1,y51.2)) else Option.bind (g_1d.f pB pC x43.2.1 x43.2.2) fun y53=>some (.inl ((w64 (x43.1+1)),y53.1,y53.2))) else some (.inr (x43.1,x43.2.1,x43.2.2)))
noncomputable def g_r.f (pB:List UInt8) (pC:List Int) (pI:Int) (pJ:List Int) (pP:Bool) (pT:Int):Option (Int×List Int×Bool) :=
  (if(pT==1) then Option.bind (g_1d.f pB pC pI pP) fun y2=>Option.bind (g_t.f pB y2.1 pJ y2.2) fun y4=>Option.bind (g_20.f pB pC y2.1 y4 y2.2 ([84,79])) fun y10=>Option.bind (g_1p.f pB pC y10.1 y10.2.2) fun y16=>some (y16.1,y10.2.1,y16.2) else(if(pT==2) then Option.bind (g_1d.f pB pC pI pP) fun y19=>some (y19.1,pJ,y19.2) else(if(pT==3) then Option.bind (g_1e.f pB pC pI pP) fun y22=>Option.bind (g_1y.f pB pC y22.1 y22.2 44) fun y26=>Option.bind (g_y.f pB pC y26.2 y22.2) fun y28=>some (y28.1,pJ,y28.2) else(if(pT==4) then Option.bind (g_1p.f pB pC pI pP) fun y31=>Option.bind (g_1y.f pB pC y31.1 y31.2 44) fun y33=>(if y33.1 then Option.bind (g_1e.f pB pC y33.2 y31.2) fun y36=>some (y36.1,pJ,y36.2) else some (y33.2,pJ,y31.2)) else(if(pT==5) then Option.bind (g_1t.f pB pC pI pP) fun y41=>Option.bind (iter (g_r.b0 pB pC) (0,y41.1,y41.2)) fun o44=>some (o44.2.1,pJ,o44.2.2) else Option.bind ((if(pT==7) then some true else some (pT==8))) fun z55=>(if z55 then Option.bind (g_1t.f pB pC pI pP) fun y58=>Option.bind (g_20.f pB pC y58.1 pJ y58.2 ([84,72,69,78])) fun y60=>some (y60.1,y60.2.1,y60.2.2) else(if(pT==11) then Option.bind (g_w.f pB pC pI pJ pP) fun y67=>some (y67.1,y67.2.1,y67.2.2) else Option.bind ((if(pT==14) then some true else(if(pT==39) then some true else some (pT==41)))) fun z73=>(if z73 then Option.bind (g_1p.f pB pC pI pP) fun y77=>Option.bind (g_1n.f pB pC y77.1 y77.2) fun y79=>some (y79.1,pJ,y79.2) else(if(pT==15) then Option.bind (g_11.f pB pI pP) fun y82=>(if y82 then Option.bind (g_y.f pB pC pI pP) fun y85=>some (y85.1,pJ,y85.2) else some (pI,pJ,pP)) else Option.bind ((if(pT==16) then some true else some (pT==17))) fun z87=>(if z87 then Option.bind (g_1x.f pB pC pI pP) fun y90=>some (y90.1,pJ,y90.2) else Option.bind (g_1s.f pB pC pI pJ pP pT) fun y94=>some (y94.1,y94.2.1,y94.2.2)))))))))))
theorem g_r.ok {iB:Nat} {aE:Option Addr} {zH:Nat} {aM:Option Addr} {zN:Nat} {BP:Seg} {pB:List UInt8} {pC:List Int} {pI:Int} {pJ:List Int} {pP:Bool} {pT:Int} {F:FZ} {r:Int×List Int×Bool} (h:g_r.f pB pC pI pJ pP pT=some r) (hI:Frz (elI .i64 3) F aE zH pC) (hO:Own (elI .i64 3) F aM zN pJ BP) (hG:Gl F) :
    Cl EV 111 [.pointer (some ⟨iB,0,none⟩),.int .i64 pT] [[(iB,.row [aa pB,.slice aE pC.length zH,.int .i64 pI,.slice aM pJ.length zN,.bool pP] 99 0 true)],BP] F (fun v S' F'=> ∃(ra1:Option Addr) (rz2:Nat) (rB4:Seg),FLe F F'∧v= .tuple #[]∧S'= [[(iB,.row [aa pB,.slice aE pC.length zH,.int .i64 r.1,.slice ra1 r.2.1.length rz2,.bool r.2.2] 99 0 true)],rB4]∧Own (elI .i64 3) F' ra1 rz2 r.2.1 rB4):=by
 refine Cl.of Tryz.func111 rfl (fun _ _=>rfl) (by kernel_rfl) fun s L nx0 hS=>?_
 unfold g_r.f at h
 refine WW.seq (WW.region ?_)
 refine sg0 hS 1 [] [5] [.int .i64 pT] [] (by kernel_rfl) fun s hS=>(KW.nil ?_)
 refine WW.block (WW.seq ?_)
 refine WW.region (sg0 hS 2 [] [9] [.bool (pT==1)] [] (by kernel_rfl) fun s hS=>?_)
 refine KW.nil (bc h (fun hc1 h=>?_) fun hc1 h=>?_)
 refine WW.condK hS rfl hc1 (WW.seq ?_)
 refine WW.region ?_
 obtain⟨y2,hy2,h⟩:=bind_some h
 refine cR (g_1d.ok hy2 hI) hS 1 12 2 rfl (by kernel_rfl) fun s hS=>(KW.nil ?_)
 refine WW.seq (WW.region ?_)
 obtain⟨y4,hy4,h⟩:=bind_some h
 refine cK (g_t.ok hy4 hO) hS 1 14 2 rfl (by kernel_rfl) fun s v S' F' hp5 hF hS=>?_
 obtain⟨a6,z7,B9,rfl,rfl,rfl,h8⟩:=hp5
 refine KW.nil (WW.seq ?_)
 refine WW.region ?_
 obtain⟨y10,hy10,h⟩:=bind_some h
 refine cK (g_20.ok hy10 hI h8) hS 1 16 2 rfl (by kernel_rfl) fun s v S' F' hp11 hF hS=>?_
 obtain⟨a12,z13,B15,rfl,rfl,rfl,h14⟩:=hp11
 refine KW.nil (WW.region ?_)
 obtain⟨y16,hy16,h⟩:=bind_some h
 refine cR (g_1p.ok hy16 hI) hS 1 18 2 rfl (by kernel_rfl) fun s hS=>(KW.nil ?_)
 cases h
 exact aG hS (.inl rfl) rfl ⟨_,_,_,(FLe.refl _),rfl,rfl,h14⟩
 refine WW.condF hS rfl hc1 (WW.seq ?_)
 refine WW.region (sg0 hS 2 [] [19] [.bool (pT==2)] [] (by kernel_rfl) fun s hS=>?_)
 refine KW.nil (bc h (fun hc18 h=>?_) fun hc18 h=>?_)
 refine WW.condK hS rfl hc18 (WW.region ?_)
 obtain⟨y19,hy19,h⟩:=bind_some h
 refine cR (g_1d.ok hy19 hI) hS 1 22 2 rfl (by kernel_rfl) fun s hS=>(KW.nil ?_)
 cases h
 exact aG hS (.inl rfl) rfl ⟨_,_,_,(FLe.refl _),rfl,rfl,hO⟩
 refine WW.condF hS rfl hc18 (WW.seq ?_)
 refine WW.region (sg0 hS 2 [] [23] [.bool (pT==3)] [] (by kernel_rfl) fun s hS=>?_)
 refine KW.nil (bc h (fun hc21 h=>?_) fun hc21 h=>?_)
 refine WW.condK hS rfl hc21 (WW.seq ?_)
 refine WW.region ?_
 obtain⟨y22,hy22,h⟩:=bind_some h
 refine cK (g_1e.ok hy22 hI hG) hS 1 26 2 rfl (by kernel_rfl) fun s v S' F24 hp23 hF hS=>?_
 obtain⟨hF25,rfl,rfl⟩:=hp23
 refine KW.nil (WW.seq ?_)
 refine WW.region ?_
 obtain⟨y26,hy26,h⟩:=bind_some h
 refine cR (g_1y.ok hy26 (hI.mono hF25)) hS 1 28 2 rfl (by kernel_rfl) fun s hS=>(KW.nil ?_)
 refine WW.region ?_
 obtain⟨y28,hy28,h⟩:=bind_some h
 refine cR (g_y.ok hy28 (hI.mono hF25)) hS 1 30 2 rfl (by kernel_rfl) fun s hS=>(KW.nil ?_)
 cases h
 exact aG hS (.inl rfl) rfl ⟨_,_,_,(hF25),rfl,rfl,(hO.mono hF25)⟩
 refine WW.condF hS rfl hc21 (WW.seq ?_)
 refine WW.region (sg0 hS 2 [] [31] [.bool (pT==4)] [] (by kernel_rfl) fun s hS=>?_)
 refine KW.nil (bc h (fun hc30 h=>?_) fun hc30 h=>?_)
 refine WW.condK hS rfl hc30 (WW.seq ?_)
 refine WW.region ?_
 obtain⟨y31,hy31,h⟩:=bind_some h
 refine cR (g_1p.ok hy31 hI) hS 1 34 2 rfl (by kernel_rfl) fun s hS=>(KW.nil ?_)
 refine WW.seq (WW.region ?_)
 obtain⟨y33,hy33,h⟩:=bind_some h
 refine cR (g_1y.ok hy33 hI) hS 1 36 2 rfl (by kernel_rfl) fun s hS=>(KW.nil ?_)
 refine bc h (fun hc35 h=>?_) fun hc35 h=>?_
 refine WW.condK hS rfl hc35 (WW.region ?_)
 obtain⟨y36,hy36,h⟩:=bind_some h
 refine cK (g_1e.ok hy36 hI hG) hS 1 38 2 rfl (by kernel_rfl) fun s v S' F38 hp37 hF hS=>?_
 obtain⟨hF39,rfl,rfl⟩:=hp37
 refine KW.nil ?_
 cases h
 exact aG hS (.inl rfl) rfl ⟨_,_,_,(hF39),rfl,rfl,(hO.mono hF39)⟩
 refine WW.condF hS rfl hc35 (WW.skip ?_)
 cases h
 exact aG hS (.inl rfl) rfl ⟨_,_,_,(FLe.refl _),rfl,rfl,hO⟩
 refine WW.condF hS rfl hc30 (WW.seq ?_)
 refine WW.region (sg0 hS 2 [] [39] [.bool (pT==5)] [] (by kernel_rfl) fun s hS=>?_)
 refine KW.nil (bc h (fun hc40 h=>?_) fun hc40 h=>?_)
 refine WW.condK hS rfl hc40 (WW.seq ?_)
 refine WW.region ?_
 obtain⟨y41,hy41,h⟩:=bind_some h
 refine cR (g_1t.ok hy41 hI) hS 1 42 2 rfl (by kernel_rfl) fun s hS=>(KW.nil ?_)
 refine WW.seq (WW.region ?_)
 refine sg0 hS 1 [] [43] [.int .i64 0] [] (by kernel_rfl) fun s hS=>(KW.nil ?_)
 refine WW.block ?_
 obtain⟨o44,ho44,h⟩:=bind_some h
 refine WW.loop (LW.iterE ho44 (fun(x43:Int×Int×Bool) s=>Stt EV s [(0,.pointer (some ⟨iB,0,none⟩)),(43,.int .i64 x43.1)] [[(iB,.row [aa pB,.slice aE pC.length zH,.int .i64 x43.2.1,.slice aM pJ.length zN,.bool x43.2.2] 99 0 true)],BP] F L F nx0) 1 (hS.subR rfl) ?_ ?_)
 clear hS
 rintro x43 s hS o44' h46
 unfold g_r.b0 at h46
 refine WW.seq (WW.region ?_)
 refine sg0 hS 1 [] [44] [.bool (decide (x43.1<3))] [] (by kernel_rfl) fun s hS=>(KW.nil ?_)
 refine WW.seq (bc h46 (fun hc47 h46=>?_) fun hc47 h46=>?_)
 refine WW.condK hS rfl hc47 (WW.skip ?_)
 refine WW.seq (WW.block ?_)
 refine WW.seq (WW.region ?_)
 refine sg0 hS 2 [] [4] [.int .i64 x43.1] [] (by kernel_rfl) fun s hS=>(KW.nil ?_)
 refine WW.seq (WW.seq ?_)
 refine WW.region (sg0 hS 2 [] [47] [.bool (decide (x43.1>0))] [] (by kernel_rfl) fun s hS=>?_)
 refine KW.nil (bc h46 (fun hc48 h46=>?_) fun hc48 h46=>?_)
 refine WW.condK hS rfl hc48 (WW.region ?_)
 obtain⟨y49,hy49,h46⟩:=bind_some h46
 refine cR (g_1v.ok hy49 hI) hS 1 49 2 rfl (by kernel_rfl) fun s hS=>(KW.nil ?_)
 refine WW.region ?_
 obtain⟨y51,hy51,h46⟩:=bind_some h46
 refine cR (g_1d.ok hy51 hI) hS 1 51 2 rfl (by kernel_rfl) fun s hS=>(KW.nil ?_)
 refine WW.region (sg0 hS 2 [] [43] [.int .i64 (w64 (x43.1+1))] [] (by kernel_rfl) fun s hS=>?_)
 refine KW.nil ?_
 obtain rfl:=Option.some.inj h46
 exact⟨_,rfl,(hS.subR rfl)⟩
 refine WW.condF hS rfl hc48 (WW.skip ?_)
 refine WW.region ?_
 obtain⟨y53,hy53,h46⟩:=bind_some h46
 refine cR (g_1d.ok hy53 hI) hS 1 51 2 rfl (by kernel_rfl) fun s hS=>(KW.nil ?_)
 refine WW.region (sg0 hS 2 [] [43] [.int .i64 (w64 (x43.1+1))] [] (by kernel_rfl) fun s hS=>?_)
 refine KW.nil ?_
 obtain rfl:=Option.some.inj h46
 exact⟨_,rfl,(hS.subR rfl)⟩
 refine WW.condF hS rfl hc47 (WW.exit ?_)
 refine ae ?_
 obtain rfl:=Option.some.inj h46
 exact⟨_,rfl,rfl,(hS.subR rfl)⟩
 clear hS
 rintro e s ⟨rfl,hS⟩
 refine af ?_
 cases h
 exact aG hS (.inl rfl) rfl ⟨_,_,_,(FLe.refl _),rfl,rfl,hO⟩
 refine WW.condF hS rfl hc40 ?_
 obtain⟨z55,hz55,h⟩:=bind_some h
 refine WW.seqJ (fun s=>Stt EV s [(0,.pointer (some ⟨iB,0,none⟩)),(1,.int .i64 pT),(5,.int .i64 pT),(53,.bool z55)] [[(iB,.row [aa pB,.slice aE pC.length zH,.int .i64 pI,.slice aM pJ.length zN,.bool pP] 99 0 true)],BP] F L F nx0) ?_ ?_
 refine WW.seq (WW.region ?_)
 refine sg0 hS 2 [] [53] [.bool (pT==7)] [] (by kernel_rfl) fun s hS=>(KW.nil ?_)
 refine bc hz55 (fun hc56 hz55=>?_) fun hc56 hz55=>?_
 replace hS:=hS.kb 53 hc56 rfl
 refine WW.condK hS rfl rfl (WW.skip ?_)
 obtain rfl:=Option.some.inj hz55
 exact(hS.subR rfl)
 replace hS:=hS.kb 53 hc56 rfl
 refine WW.condF hS rfl rfl (WW.region ?_)
 refine sg0 hS 2 [] [53] [.bool (pT==8)] [] (by kernel_rfl) fun s hS=>(KW.nil ?_)
 obtain rfl:=Option.some.inj hz55
 exact(hS.subR rfl)
 rintro s hS
 refine bc h (fun hc57 h=>?_) fun hc57 h=>?_
 refine WW.condK hS rfl hc57 (WW.seq ?_)
 refine WW.region ?_
 obtain⟨y58,hy58,h⟩:=bind_some h
 refine cR (g_1t.ok hy58 hI) hS 1 57 2 rfl (by kernel_rfl) fun s hS=>(KW.nil ?_)
 refine WW.region ?_
 obtain⟨y60,hy60,h⟩:=bind_some h
 refine cK (g_20.ok hy60 hI hO) hS 1 59 2 rfl (by kernel_rfl) fun s v S' F' hp61 hF hS=>?_
 obtain⟨a62,z63,B65,rfl,rfl,rfl,h64⟩:=hp61
 refine KW.nil ?_
 cases h
 exact aG hS (.inl rfl) rfl ⟨_,_,_,(FLe.refl _),rfl,rfl,h64⟩
 refine WW.condF hS rfl hc57 (WW.seq ?_)
 refine WW.region (sg0 hS 2 [] [60] [.bool (pT==11)] [] (by kernel_rfl) fun s hS=>?_)
 refine KW.nil (bc h (fun hc66 h=>?_) fun hc66 h=>?_)
 refine WW.condK hS rfl hc66 (WW.region ?_)
 obtain⟨y67,hy67,h⟩:=bind_some h
 refine cK (g_w.ok hy67 hI hO) hS 1 63 2 rfl (by kernel_rfl) fun s v S' F' hp68 hF hS=>?_
 obtain⟨a69,z70,B72,rfl,rfl,rfl,h71⟩:=hp68
 refine KW.nil ?_
 cases h
 exact aG hS (.inl rfl) rfl ⟨_,_,_,(FLe.refl _),rfl,rfl,h71⟩
 refine WW.condF hS rfl hc66 ?_
 obtain⟨z73,hz73,h⟩:=bind_some h
 refine WW.seqJ (fun s=>Stt EV s [(0,.pointer (some ⟨iB,0,none⟩)),(1,.int .i64 pT),(5,.int .i64 pT),(64,.bool z73)] [[(iB,.row [aa pB,.slice aE pC.length zH,.int .i64 pI,.slice aM pJ.length zN,.bool pP] 99 0 true)],BP] F L F nx0) ?_ ?_
 refine WW.seq (WW.region ?_)
 refine sg0 hS 2 [] [64] [.bool (pT==14)] [] (by kernel_rfl) fun s hS=>(KW.nil ?_)
 refine bc hz73 (fun hc74 hz73=>?_) fun hc74 hz73=>?_
 replace hS:=hS.kb 64 hc74 rfl
 refine WW.condK hS rfl rfl (WW.skip ?_)
 obtain rfl:=Option.some.inj hz73
 exact(hS.subR rfl)
 replace hS:=hS.kb 64 hc74 rfl
 refine WW.condF hS rfl rfl (WW.seq ?_)
 refine WW.region (sg0 hS 2 [] [64] [.bool (pT==39)] [] (by kernel_rfl) fun s hS=>?_)
 refine KW.nil (bc hz73 (fun hc75 hz73=>?_) fun hc75 hz73=>?_)
 replace hS:=hS.kb 64 hc75 rfl
 refine WW.condK hS rfl rfl (WW.skip ?_)
 obtain rfl:=Option.some.inj hz73
 exact(hS.subR rfl)
 replace hS:=hS.kb 64 hc75 rfl
 refine WW.condF hS rfl rfl (WW.region ?_)
 refine sg0 hS 2 [] [64] [.bool (pT==41)] [] (by kernel_rfl) fun s hS=>(KW.nil ?_)
 obtain rfl:=Option.some.inj hz73
 exact(hS.subR rfl)
 rintro s hS
 refine bc h (fun hc76 h=>?_) fun hc76 h=>?_
 refine WW.condK hS rfl hc76 (WW.seq ?_)
 refine WW.region ?_
 obtain⟨y77,hy77,h⟩:=bind_some h
 refine cR (g_1p.ok hy77 hI) hS 1 69 2 rfl (by kernel_rfl) fun s hS=>(KW.nil ?_)
 refine WW.region ?_
 obtain⟨y79,hy79,h⟩:=bind_some h
 refine cR (g_1n.ok hy79 hI) hS 1 71 2 rfl (by kernel_rfl) fun s hS=>(KW.nil ?_)
 cases h
 exact aG hS (.inl rfl) rfl ⟨_,_,_,(FLe.refl _),rfl,rfl,hO⟩
 refine WW.condF hS rfl hc76 (WW.seq ?_)
 refine WW.region (sg0 hS 2 [] [72] [.bool (pT==15)] [] (by kernel_rfl) fun s hS=>?_)
 refine KW.nil (bc h (fun hc81 h=>?_) fun hc81 h=>?_)
 refine WW.condK hS rfl hc81 (WW.seq ?_)
 refine WW.region ?_
 obtain⟨y82,hy82,h⟩:=bind_some h
 refine cR (g_11.ok hy82) hS 1 75 2 rfl (by kernel_rfl) fun s hS=>(KW.nil ?_)
 refine bc h (fun hc84 h=>?_) fun hc84 h=>?_
 refine WW.condK hS rfl hc84 (WW.region ?_)
 obtain⟨y85,hy85,h⟩:=bind_some h
 refine cR (g_y.ok hy85 hI) hS 1 77 2 rfl (by kernel_rfl) fun s hS=>(KW.nil ?_)
 cases h
 exact aG hS (.inl rfl) rfl ⟨_,_,_,(FLe.refl _),rfl,rfl,hO⟩
 refine WW.condF hS rfl hc84 (WW.skip ?_)
 cases h
 exact aG hS (.inl rfl) rfl ⟨_,_,_,(FLe.refl _),rfl,rfl,hO⟩
 refine WW.condF hS rfl hc81 ?_
 obtain⟨z87,hz87,h⟩:=bind_some h
 refine WW.seqJ (fun s=>Stt EV s [(0,.pointer (some ⟨iB,0,none⟩)),(1,.int .i64 pT),(78,.bool z87)] [[(iB,.row [aa pB,.slice aE pC.length zH,.int .i64 pI,.slice aM pJ.length zN,.bool pP] 99 0 true)],BP] F L F nx0) ?_ ?_
 refine WW.seq (WW.region ?_)
 refine sg0 hS 2 [] [78] [.bool (pT==16)] [] (by kernel_rfl) fun s hS=>(KW.nil ?_)
 refine bc hz87 (fun hc88 hz87=>?_) fun hc88 hz87=>?_
 replace hS:=hS.kb 78 hc88 rfl
 refine WW.condK hS rfl rfl (WW.skip ?_)
 obtain rfl:=Option.some.inj hz87
 exact(hS.subR rfl)
 replace hS:=hS.kb 78 hc88 rfl
 refine WW.condF hS rfl rfl (WW.region ?_)
 refine sg0 hS 2 [] [78] [.bool (pT==17)] [] (by kernel_rfl) fun s hS=>(KW.nil ?_)
 obtain rfl:=Option.some.inj hz87
 exact(hS.subR rfl)
 rintro s hS
 refine bc h (fun hc89 h=>?_) fun hc89 h=>?_
 refine WW.condK hS rfl hc89 (WW.region ?_)
 obtain⟨y90,hy90,h⟩:=bind_some h
 refine cK (g_1x.ok hy90 hI hG) hS 1 82 2 rfl (by kernel_rfl) fun s v S' F92 hp91 hF hS=>?_
 obtain⟨hF93,rfl,rfl⟩:=hp91
 refine KW.nil ?_
 cases h
 exact aG hS (.inl rfl) rfl ⟨_,_,_,(hF93),rfl,rfl,(hO.mono hF93)⟩
 refine WW.condF hS rfl hc89 (WW.region ?_)
 obtain⟨y94,hy94,h⟩:=bind_some h
 refine cK (g_1s.ok hy94 hI hO) hS 2 8 2 rfl (by kernel_rfl) fun s v S' F96 hp95 hF hS=>?_
 obtain⟨a97,z98,B100,hF101,rfl,rfl,h99⟩:=hp95
 refine KW.nil ?_
 cases h
 exact aG hS (.inl rfl) rfl ⟨_,_,_,(hF101),rfl,rfl,h99⟩
noncomputable def g_1c.f (pB:List UInt8) (pC:List Int) (pI:Int) (pJ:List Int) (pP:Bool) (pT:Int):Option (Int×List Int×Bool) :=
  Option.bind (g_29.f) fun y1=>(if 0≤pT∧pT<44∧pT<(y1.length:Int) then(if(pT==0) then Option.bind (g_1p.f pB pC pI pP) fun y5=>Option.bind (g_1n.f pB pC y5.1 y5.2) fun y7=>Option.bind (g_1v.f pB pC y7.1 y7.2 61) fun y9=>Option.bind (g_y.f pB pC y9.1 y9.2) fun y11=>some (y11.1,pJ,y11.2) else(if(pT==28) then Option.bind (g_1r.f pB pC pI pJ pP) fun y14=>Option.bind (g_1o.f y14.2.2.2 y14.1) fun y22=>Option.bind (g_1g.f pB pC y14.2.1 y22) fun y24=>some (y24.1,y14.2.2.1,y24.2) else(if(pT==40) then Option.bind (g_1r.f pB pC pI pJ pP) fun y27=>Option.bind (g_20.f pB pC y27.2.1 y27.2.2.1 y27.2.2.2 (gt y1 pT)) fun y35=>Option.bind (g_1p.f pB pC y35.1 y35.2.2) fun y41=>Option.bind (g_1n.f pB pC y41.1 y41.2) fun y43=>some (y43.1,y35.2.1,y43.2) else Option.bind (g_20.f pB pC pI pJ pP (gt y1 pT)) fun y45=>Option.bind (g_r.f pB pC y45.1 y45.2.1 y45.2.2 pT) fun y51=>some (y51.1,y51.2.1,y51.2.2)))) else none)
theorem g_1c.ok {iB:Nat} {aE:Option Addr} {zH:Nat} {aM:Option Addr} {zN:Nat} {BP:Seg} {pB:List UInt8} {pC:List Int} {pI:Int} {pJ:List Int} {pP:Bool} {pT:Int} {F:FZ} {r:Int×List Int×Bool} (h:g_1c.f pB pC pI pJ pP pT=some r) (hI:Frz (elI .i64 3) F aE zH pC) (hO:Own (elI .i64 3) F aM zN pJ BP) (hG:Gl F) :
    Cl EV 84 [.pointer (some ⟨iB,0,none⟩),.int .i64 pT] [[(iB,.row [aa pB,.slice aE pC.length zH,.int .i64 pI,.slice aM pJ.length zN,.bool pP] 99 0 true)],BP] F (fun v S' F'=> ∃(ra1:Option Addr) (rz2:Nat) (rB4:Seg),FLe F F'∧v= .tuple #[]∧S'= [[(iB,.row [aa pB,.slice aE pC.length zH,.int .i64 r.1,.slice ra1 r.2.1.length rz2,.bool r.2.2] 99 0 true)],rB4]∧Own (elI .i64 3) F' ra1 rz2 r.2.1 rB4):=by
 refine Cl.of Tryz.func84 rfl (fun _ _=>rfl) (by kernel_rfl) fun s L nx0 hS=>?_
 unfold g_1c.f at h
 refine WW.seq (WW.region ?_)
 obtain⟨y1,hy1,h⟩:=bind_some h
 refine cR (g_29.ok hy1) hS 0 5 0 rfl (by kernel_rfl) fun s hS=>(sg0 hS 1 [] [6] [.int .i64 pT] [] (by kernel_rfl) fun s hS=>?_)
 obtain⟨hk3,h⟩:=ac h
 refine aw hS (wn rfl) rfl rfl rfl (v:=aa (gt y1 pT)) (nF (f:=aa) (l:=y1) tv101 ts9 tl9 (fun _=>rfl) (hS.lk rfl) (hS.lk rfl) hk3) fun s hS=>(sg0 hS 1 [] [4] [aa (gt y1 pT)] [] (by kernel_rfl) fun s hS=>?_)
 refine KW.nil (WW.seq ?_)
 refine WW.region (sg0 hS 1 [] [8] [.int .i64 pT] [] (by kernel_rfl) fun s hS=>?_)
 refine KW.nil (WW.block ?_)
 refine WW.seq (WW.region ?_)
 refine sg0 hS 2 [] [15] [.bool (pT==0)] [] (by kernel_rfl) fun s hS=>(KW.nil ?_)
 refine bc h (fun hc4 h=>?_) fun hc4 h=>?_
 refine WW.condK hS rfl hc4 (WW.seq ?_)
 refine WW.region ?_
 obtain⟨y5,hy5,h⟩:=bind_some h
 refine cR (g_1p.ok hy5 hI) hS 1 18 2 rfl (by kernel_rfl) fun s hS=>(KW.nil ?_)
 refine WW.seq (WW.region ?_)
 obtain⟨y7,hy7,h⟩:=bind_some h
 refine cR (g_1n.ok hy7 hI) hS 1 20 2 rfl (by kernel_rfl) fun s hS=>(KW.nil ?_)
 refine WW.seq (WW.region ?_)
 obtain⟨y9,hy9,h⟩:=bind_some h
 refine cR (g_1v.ok hy9 hI) hS 1 22 2 rfl (by kernel_rfl) fun s hS=>(KW.nil ?_)
 refine WW.region ?_
 obtain⟨y11,hy11,h⟩:=bind_some h
 refine cR (g_y.ok hy11 hI) hS 1 24 2 rfl (by kernel_rfl) fun s hS=>(KW.nil ?_)
 cases h
 exact aG hS (.inl rfl) rfl ⟨_,_,_,(FLe.refl _),rfl,rfl,hO⟩
 refine WW.condF hS rfl hc4 (WW.seq ?_)
 refine WW.region (sg0 hS 2 [] [25] [.bool (pT==28)] [] (by kernel_rfl) fun s hS=>?_)
 refine KW.nil (bc h (fun hc13 h=>?_) fun hc13 h=>?_)
 refine WW.condK hS rfl hc13 (WW.seq ?_)
 refine WW.region (sg0 hS 2 [] [27,28] [.pointer (some ⟨iB,0,none⟩),.pointer (some ⟨iB,0,none⟩)] [] (by kernel_rfl) fun s hS=>?_)
 obtain⟨y14,hy14,h⟩:=bind_some h
 refine bu hS (wn rfl) (vs:=[.pointer (some ⟨iB,0,none⟩)]) (ws:=[.pointer (some ⟨iB,0,none⟩)]) rfl rfl rfl rfl rfl 2 rfl (g_1r.ok hy14 hI hO) fun s v S' F16 hp15 hF hS=>?_
 obtain⟨a17,z18,B20,hF21,rfl,rfl,h19⟩:=hp15
 obtain⟨y22,hy22,h⟩:=bind_some h
 refine cR (g_1o.ok hy22) hS 0 30 2 rfl (by kernel_rfl) fun s hS=>(KW.nil ?_)
 refine WW.region (sg0 hS 2 [] [31,32] [.pointer (some ⟨iB,0,none⟩),.pointer (some ⟨iB,0,none⟩)] [] (by kernel_rfl) fun s hS=>?_)
 refine aw hS (wn rfl) rfl rfl rfl (v:= .func (.func 110) #[.pointer (some ⟨iB,0,none⟩)] #[]) (cF (bb hS (vs:=[.pointer (some ⟨iB,0,none⟩)]) rfl) (bb hS (vs:=[]) rfl)) fun s hS=>?_
 obtain⟨y24,hy24,h⟩:=bind_some h
 refine cR (g_1g.ok hy24 (hI.mono hF21)) hS 0 34 2 rfl (by kernel_rfl) fun s hS=>(KW.nil ?_)
 cases h
 exact aG hS (.inl rfl) rfl ⟨_,_,_,(hF21),rfl,rfl,h19⟩
 refine WW.condF hS rfl hc13 (WW.seq ?_)
 refine WW.region (sg0 hS 2 [] [35] [.bool (pT==40)] [] (by kernel_rfl) fun s hS=>?_)
 refine KW.nil (bc h (fun hc26 h=>?_) fun hc26 h=>?_)
 refine WW.condK hS rfl hc26 (WW.seq ?_)
 refine WW.region ?_
 obtain⟨y27,hy27,h⟩:=bind_some h
 refine cK (g_1r.ok hy27 hI hO) hS 1 38 2 rfl (by kernel_rfl) fun s v S' F29 hp28 hF hS=>?_
 obtain⟨a30,z31,B33,hF34,rfl,rfl,h32⟩:=hp28
 refine KW.nil (WW.seq ?_)
 refine WW.region ?_
 obtain⟨y35,hy35,h⟩:=bind_some h
 refine cK (g_20.ok hy35 (hI.mono hF34) h32) hS 2 41 2 rfl (by kernel_rfl) fun s v S' F' hp36 hF hS=>?_
 obtain⟨a37,z38,B40,rfl,rfl,rfl,h39⟩:=hp36
 refine KW.nil (WW.seq ?_)
 refine WW.region ?_
 obtain⟨y41,hy41,h⟩:=bind_some h
 refine cR (g_1p.ok hy41 (hI.mono hF34)) hS 1 43 2 rfl (by kernel_rfl) fun s hS=>(KW.nil ?_)
 refine WW.region ?_
 obtain⟨y43,hy43,h⟩:=bind_some h
 refine cR (g_1n.ok hy43 (hI.mono hF34)) hS 1 45 2 rfl (by kernel_rfl) fun s hS=>(KW.nil ?_)
 cases h
 exact aG hS (.inl rfl) rfl ⟨_,_,_,(hF34),rfl,rfl,h39⟩
 refine WW.condF hS rfl hc26 (WW.seq ?_)
 refine WW.region ?_
 obtain⟨y45,hy45,h⟩:=bind_some h
 refine cK (g_20.ok hy45 hI hO) hS 2 11 2 rfl (by kernel_rfl) fun s v S' F' hp46 hF hS=>?_
 obtain⟨a47,z48,B50,rfl,rfl,rfl,h49⟩:=hp46
 refine KW.nil (WW.region ?_)
 obtain⟨y51,hy51,h⟩:=bind_some h
 refine cK (g_r.ok hy51 hI h49 hG) hS 2 14 2 rfl (by kernel_rfl) fun s v S' F53 hp52 hF hS=>?_
 obtain⟨a54,z55,B57,hF58,rfl,rfl,h56⟩:=hp52
 refine KW.nil ?_
 cases h
 exact aG hS (.inl rfl) rfl ⟨_,_,_,(hF58),rfl,rfl,h56⟩
noncomputable def g_n.b1 (y1:Int×Bool) (y7:(List (Int×Int×List Int))) (x15:(List (Int×Int×List Int))×Int) (x50:Int×List Int):Option ((Int×List Int)⊕(Int×List Int)) :=
  (if(decide (x50.1<(((gt y7 x15.2).2.2).length:Int))) then(if 0≤x50.1∧x50.1<(((gt y7 x15.2).2.2).length:Int) then(if x50.2.length+([(w64 ((gt ((gt y7 x15.2).2.2) x50.1)+y1.1))]:List Int).length<1000000000 then some (.inl ((w64 (x50.1+1)),(x50.2++([(w64 ((gt ((gt y7 x15.2).2.2) x50.1)+y1.1))]:List Int)))) else none) else none) else some (.inr (x50.1,x50.2)))
noncomputable def g_n.b0 (y1:Int×Bool) (y7:(List (Int×Int×List Int))) (x15:(List (Int×Int×List Int))×Int):Option (((List (Int×Int×List Int))×Int)⊕((List (Int×Int×List Int))×Int)) :=
  (if(decide (x15.2<(y7.length:Int))) then(if 0≤x15.2∧x15.2<(y7.length:Int) then Option.bind (g_21.f ((gt y7 x15.2).1)) fun y46=>(if(!y46) then some (.inl (x15.1,(w64 (x15.2+1)))) else Option.bind (iter (g_n.b1 y1 y7 x15) (0,([]:List Int))) fun o55=>(if x15.1.length+([(6,((gt y7 x15.2).1),o55.2)]:List (Int×Int×List Int)).length<1000000000 then some (.inl ((x15.1++([(6,((gt y7 x15.2).1),o55.2)]:List (Int×Int×List Int))),(w64 (x15.2+1)))) else none)) else none) else some (.inr (x15.1,x15.2)))
noncomputable def g_n.F (self:(List UInt8)→Option ((List (Int×Int×List Int)))) (pA:List UInt8):Option ((List (Int×Int×List Int))) :=
  Option.bind (g_j.f pA) fun y1=>(if(!y1.2) then some ([]:List (Int×Int×List Int)) else(if 0≤y1.1∧y1.1≤(pA.length:Int)∧(pA.length:Int)≤(pA.length:Int) then Option.bind (self (mid pA y1.1 (pA.length:Int))) fun y7=>Option.bind (iter (g_n.b0 y1 y7) (([]:List (Int×Int×List Int)),0)) fun o22=>some o22.1 else none))
theorem g_n.okS {self:(List UInt8)→Option ((List (Int×Int×List Int)))} (ih: ∀{pA:List UInt8} {F:FZ} {r:(List (Int×Int×List Int))} (h:self pA=some r) (hG:Gl F),Cl EV 52 [aa pA] [] F (fun v S' F'=> ∃(ra1:Option Addr) (rz2:Nat) (rB4:Seg),FLe F F'∧v= .slice ra1 r.length rz2∧S'= [rB4]∧Own fM F' ra1 rz2 r rB4)) {pA:List UInt8} {F:FZ} {r:(List (Int×Int×List Int))} (h:g_n.F self pA=some r) (hG:Gl F) :
    Cl EV 83 [aa pA] [] F (fun v S' F'=> ∃(ra1:Option Addr) (rz2:Nat) (rB4:Seg),FLe F F'∧v= .slice ra1 r.length rz2∧S'= [rB4]∧Own fM F' ra1 rz2 r rB4):=by
 refine Cl.of Tryz.func83 rfl (fun _ _=>rfl) (by kernel_rfl) fun s L nx0 hS=>?_
 unfold g_n.F at h
 refine WW.seq (WW.region ?_)
 refine sg0 hS 1 [] [2] [.slice none 0 0] [] (by kernel_rfl) fun s hS=>(KW.nil ?_)
 refine WW.seq (WW.region ?_)
 obtain⟨y1,hy1,h⟩:=bind_some h
 refine cK (g_j.ok hy1 hG) hS 1 13 0 rfl (by kernel_rfl) fun s v S' F3 hp2 hF hS=>?_
 obtain⟨hF4,rfl,rfl⟩:=hp2
 refine sg0 hS 5 [] [3,4] [.int .i64 y1.1,.bool y1.2] [] (by kernel_rfl) fun s hS=>(KW.nil ?_)
 refine WW.seq (WW.seq ?_)
 refine WW.region (sg0 hS 2 [] [17] [.bool (!y1.2)] [] (by kernel_rfl) fun s hS=>?_)
 refine KW.nil (bc h (fun hc5 h=>?_) fun hc5 h=>?_)
 refine WW.condK hS rfl hc5 (WW.seq ?_)
 refine WW.region (sg0 hS 1 [] [2] [.slice none 0 0] [] (by kernel_rfl) fun s hS=>?_)
 refine KW.nil (WW.ret ?_)
 replace hS:=hS.gap0
 cases h
 exact ax hS (.inr rfl) 2 rfl rfl ⟨_,_,_,(hF4),rfl,rfl,Own.nil⟩
 refine WW.condF hS rfl hc5 (WW.skip ?_)
 refine WW.seq (WW.region ?_)
 refine sg0 hS 1 [] [5] [.slice none 0 0] [] (by kernel_rfl) fun s hS=>(KW.nil ?_)
 refine WW.seq (WW.seq ?_)
 refine WW.region (sg0 hS 2 [] [18,19] [aa pA,.int .i64 y1.1] [] (by kernel_rfl) fun s hS=>?_)
 obtain⟨hk6,h⟩:=ac h
 refine aw hS (wn rfl) rfl rfl rfl (v:=aa (mid pA y1.1 (pA.length:Int))) (cU tu9 (hS.lk rfl) (i:=y1.1) (j:=(pA.length:Int)) (bF hS rfl) rfl hk6) fun s hS=>?_
 obtain⟨y7,hy7,h⟩:=bind_some h
 refine cK (ih hy7 (hG.mono hF4)) hS 0 21 0 rfl (by kernel_rfl) fun s v S' F9 hp8 hF hS=>?_
 obtain⟨a10,z11,B13,hF14,rfl,rfl,h12⟩:=hp8
 refine sg0 hS 2 [] [22,23] [.int .i64 (y7.length:Int),.int .i64 0] [] (by kernel_rfl) fun s hS=>(KW.nil ?_)
 refine WW.block ?_
 replace hS:=hS.gap0
 obtain⟨o22,ho22,h⟩:=bind_some h
 refine WW.loop (LW.iterE ho22 (fun(x15:(List (Int×Int×List Int))×Int) s=> ∃(a18:Option Addr) (z19:Nat) (B21:Seg) (F16:FZ),Stt EV s [(2,.slice none 0 0),(3,.int .i64 y1.1),(5,.slice a18 x15.1.length z19),(21,.slice a10 y7.length z11),(22,.int .i64 (y7.length:Int)),(23,.int .i64 x15.2)] [B21,B13] F16 L F nx0∧Own fM F16 a18 z19 x15.1 B21∧FLe F9 F16) 0 ⟨_,_,_,_,(hS.subR rfl),Own.nil,(FLe.refl _)⟩ ?_ ?_)
 clear hS
 rintro x15 s ⟨a18,z19,B21,F16,hS,h20,hF17⟩ o22' h30
 unfold g_n.b0 at h30
 refine WW.seq (WW.region ?_)
 refine sg0 hS 1 [] [24] [.bool (decide (x15.2<(y7.length:Int)))] [] (by kernel_rfl) fun s hS=>(KW.nil ?_)
 refine WW.seq (bc h30 (fun hc31 h30=>?_) fun hc31 h30=>?_)
 refine WW.condK hS rfl hc31 (WW.skip ?_)
 refine WW.seq (WW.block ?_)
 refine WW.seq (WW.region ?_)
 obtain⟨hk32,h30⟩:=ac h30
 obtain⟨i38,cs39,ex40,rfl,rfl,rfl,hC41⟩:=Own.some_ h12 (by omega)
 obtain⟨c33,hR34,hN36,hN35,hT37⟩:=ai.loadF (hC41.mono hF17) ex40 hk32 (z:=3) rfl
 obtain⟨a42,z43,rfl,hz44⟩:=hR34
 refine aw hS (wn rfl) rfl rfl rfl (v:= .pointer (some ⟨i38,0+(x15.2).toNat*3,none⟩)) (aF (hS.lk rfl) (hS.lk rfl) oT hk32) fun s hS=>(ja hS (wn rfl) rfl rfl rfl (hS.at (k:=1) rfl) jp g6 (vs:=[.int .i64 ((gt y7 x15.2).1),.int .i64 ((gt y7 x15.2).2.1),.slice a42 ((gt y7 x15.2).2.2).length z43]) hT37 fun s hS=>?_)
 refine bA hS (wn rfl) rfl rfl rfl (v:=fun i=> .pointer (some ⟨i,0,none⟩)) (b:= .row [.int .i64 0,.int .i64 0,.slice none 0 0] 24 0 true) (bf dw) fun s i45 hS=>(sg hS 1 [0] [] [] [i45] [[(i45,.row [.int .i64 ((gt y7 x15.2).1),.int .i64 ((gt y7 x15.2).2.1),.slice a42 ((gt y7 x15.2).2.2).length z43] 24 0 true)],B21,[(i38,.row (cs39++ex40) 24 3 true)]] (by kernel_rfl) fun s hS=>?_)
 refine KW.nil (WW.seq ?_)
 refine WW.seq (WW.region ?_)
 refine sg0 hS 2 [0] [28] [.int .i64 ((gt y7 x15.2).1)] [i45] (by kernel_rfl) fun s hS=>?_
 obtain⟨y46,hy46,h30⟩:=bind_some h30
 refine bu hS (wn rfl) (vs:=[.int .i64 ((gt y7 x15.2).1)]) (ws:=[.int .i64 ((gt y7 x15.2).1)]) rfl rfl rfl rfl rfl 0 rfl (g_21.ok hy46) fun s v S' F' hp47 hF hS=>?_
 obtain⟨rfl,rfl,rfl⟩:=hp47
 refine sg0 hS 1 [] [30] [.bool (!y46)] [] (by kernel_rfl) fun s hS=>(KW.nil ?_)
 refine bc h30 (fun hc48 h30=>?_) fun hc48 h30=>?_
 refine WW.condK hS rfl hc48 (WW.exit ?_)
 refine ae (af ?_)
 refine WW.region (sg0 hS 2 [] [23] [.int .i64 (w64 (x15.2+1))] [] (by kernel_rfl) fun s hS=>?_)
 refine KW.nil ?_
 replace hS:=hS.drop
 obtain rfl:=Option.some.inj h30
 exact⟨_,rfl,_,_,_,_,(hS.subR rfl),h20,hF17⟩
 refine WW.condF hS rfl hc48 (WW.skip ?_)
 refine WW.seq (WW.region ?_)
 refine sg0 hS 2 [0] [32] [.int .i64 ((gt y7 x15.2).1)] [i45] (by kernel_rfl) fun s hS=>(aw hS (wn rfl) rfl rfl rfl (v:= .agg #[.int .i64 6,.int .i64 ((gt y7 x15.2).1),.slice none 0 0]) (cn dw oU [(0,.int .i64 6),(1,.int .i64 ((gt y7 x15.2).1))] (av hS rfl) (cs:=[.int .i64 6,.int .i64 ((gt y7 x15.2).1),.slice none 0 0]) rfl) fun s hS=>?_)
 refine bA hS (wn rfl) rfl rfl rfl (v:=fun i=> .pointer (some ⟨i,0,none⟩)) (b:= .row [.int .i64 0,.int .i64 0,.slice none 0 0] 24 0 true) (bf dw) fun s i49 hS=>(sg hS 1 [0] [] [] [i49] [[(i49,.row [.int .i64 6,.int .i64 ((gt y7 x15.2).1),.slice none 0 0] 24 0 true)],[(i45,.row [.int .i64 ((gt y7 x15.2).1),.int .i64 ((gt y7 x15.2).2.1),.slice a42 ((gt y7 x15.2).2.2).length z43] 24 0 true)],B21,[(i38,.row (cs39++ex40) 24 3 true)]] (by kernel_rfl) fun s hS=>?_)
 refine KW.nil (WW.seq ?_)
 refine WW.seq (WW.region ?_)
 refine sg0 hS 4 [1] [35,36,37] [.slice a42 ((gt y7 x15.2).2.2).length z43,.int .i64 (((gt y7 x15.2).2.2).length:Int),.int .i64 0] [i45] (by kernel_rfl) fun s hS=>(KW.nil ?_)
 refine WW.block ?_
 replace hS:=hS.gap0
 obtain⟨o55,ho55,h30⟩:=bind_some h30
 refine WW.loop (LW.iterE ho55 (fun(x50:Int×List Int) s=> ∃(a51:Option Addr) (z52:Nat) (B54:Seg),Stt EV s [(2,.slice none 0 0),(3,.int .i64 y1.1),(5,.slice a18 x15.1.length z19),(8,.pointer (some ⟨i49,0,none⟩)),(21,.slice (some ⟨i38,0,none⟩) y7.length 3),(22,.int .i64 (y7.length:Int)),(23,.int .i64 x15.2),(35,.slice a42 ((gt y7 x15.2).2.2).length z43),(36,.int .i64 (((gt y7 x15.2).2.2).length:Int)),(37,.int .i64 x50.1)] [B54,[(i49,.row [.int .i64 6,.int .i64 ((gt y7 x15.2).1),.slice a51 x50.2.length z52] 24 0 true)],[(i45,.row [.int .i64 ((gt y7 x15.2).1),.int .i64 ((gt y7 x15.2).2.1),.slice a42 ((gt y7 x15.2).2.2).length z43] 24 0 true)],B21,[(i38,.row (cs39++ex40) 24 3 true)]] F16 L F nx0∧Own (elI .i64 3) F16 a51 z52 x50.2 B54) 2 ⟨_,_,_,(hS.subR rfl),Own.nil⟩ ?_ ?_)
 clear hS
 rintro x50 s ⟨a51,z52,B54,hS,h53⟩ o55' h61
 unfold g_n.b1 at h61
 refine WW.seq (WW.region ?_)
 refine sg0 hS 1 [] [38] [.bool (decide (x50.1<(((gt y7 x15.2).2.2).length:Int)))] [] (by kernel_rfl) fun s hS=>(KW.nil ?_)
 refine WW.seq (bc h61 (fun hc62 h61=>?_) fun hc62 h61=>?_)
 refine WW.condK hS rfl hc62 (WW.skip ?_)
 refine WW.seq (WW.block ?_)
 refine WW.seq (WW.region ?_)
 obtain⟨hk63,h61⟩:=ac h61
 obtain⟨i69,of70,rfl⟩:=Frz.addr hz44 (by omega)
 obtain⟨_,_,_,_,c64,hF71,hR65,hN66,hN67,hT68⟩:=Frz.at hz44 hk63 (m:=1) rfl
 obtain rfl:=hR65
 refine aw hS (wn rfl) rfl rfl rfl (v:= .pointer (some ⟨i69,of70+(x50.1).toNat*1,none⟩)) (aF (hS.lk rfl) (hS.lk rfl) dj hk63) fun s hS=>(eu hS (wn rfl) rfl rfl rfl (hS.fat hF71) tg3 (v:= .int .i64 (gt ((gt y7 x15.2).2.2) x50.1)) hN66 fun s hS=>?_)
 refine sg0 hS 1 [] [10] [.int .i64 (gt ((gt y7 x15.2).2.2) x50.1)] [] (by kernel_rfl) fun s hS=>(KW.nil ?_)
 refine WW.region (sg0 hS 5 [1] [42,45] [.slice a51 x50.2.length z52,.int .i64 (w64 ((gt ((gt y7 x15.2).2.2) x50.1)+y1.1))] [i49] (by kernel_rfl) fun s hS=>?_)
 refine bA hS (wn rfl) rfl rfl rfl (v:=fun i=> .slice (some ⟨i,0,none⟩) 1 1) (b:= .row [.int .i64 (w64 ((gt ((gt y7 x15.2).2.2) x50.1)+y1.1))] 3 1 true) (aW iM tz3 gp rfl [(0,.int .i64 (w64 ((gt ((gt y7 x15.2).2.2) x50.1)+y1.1)))] (av hS rfl) rfl) fun s i72 hS=>?_
 have hC73:ai (elI .i64 3) F16 ([(w64 ((gt ((gt y7 x15.2).2.2) x50.1)+y1.1))]:List Int) [.int .i64 (w64 ((gt ((gt y7 x15.2).2.2) x50.1)+y1.1))]:=⟨[.int .i64 (w64 ((gt ((gt y7 x15.2).2.2) x50.1)+y1.1))],[],rfl,rfl,rfl⟩
 obtain⟨hk77,h61⟩:=ac h61
 refine fU hS (wn rfl) (dd:=(elI .i64 3)) (lst:=x50.2) (m:=([(w64 ((gt ((gt y7 x15.2).2.2) x50.1)+y1.1))]:List Int)) rfl rfl dl rfl rfl h53 (Nat.succ_pos _) hC73 hk77 fun s i74 cs75 hC76 hS=>(sg hS 2 [1] [] [] [i49] [[(i74,.row cs75 3 1 true)],[(i49,.row [.int .i64 6,.int .i64 ((gt y7 x15.2).1),.slice (some ⟨i74,0,none⟩) (x50.2++([(w64 ((gt ((gt y7 x15.2).2.2) x50.1)+y1.1))]:List Int)).length 1] 24 0 true)],[(i45,.row [.int .i64 ((gt y7 x15.2).1),.int .i64 ((gt y7 x15.2).2.1),.slice (some ⟨i69,of70,none⟩) ((gt y7 x15.2).2.2).length z43] 24 0 true)],B21,[(i38,.row (cs39++ex40) 24 3 true)]] (by kernel_rfl) fun s hS=>?_)
 refine KW.nil (WW.region ?_)
 refine sg0 hS 2 [] [37] [.int .i64 (w64 (x50.1+1))] [] (by kernel_rfl) fun s hS=>(KW.nil ?_)
 obtain rfl:=Option.some.inj h61
 exact⟨_,rfl,_,_,_,(hS.subR rfl),(Own.blk0 hC76)⟩
 refine WW.condF hS rfl hc62 (WW.exit ?_)
 refine ae ?_
 obtain rfl:=Option.some.inj h61
 exact⟨_,rfl,rfl,_,_,_,(hS.subR rfl),h53⟩
 clear hS
 rintro e s ⟨rfl,a78,z79,B81,hS,h80⟩
 refine af (WW.region ?_)
 refine sg0 hS 2 [1] [50,51] [.slice a18 x15.1.length z19,.agg #[.int .i64 6,.int .i64 ((gt y7 x15.2).1),.slice a78 o55.2.length z79]] [i49] (by kernel_rfl) fun s hS=>?_
 obtain⟨F82,hF83,hS,hz84⟩:=hS.frzO h80
 refine bA hS (wn rfl) rfl rfl rfl (v:=fun i=> .slice (some ⟨i,0,none⟩) 1 3) (b:= .row [.int .i64 6,.int .i64 ((gt y7 x15.2).1),.slice a78 o55.2.length z79] 24 3 true) (aW tu36 g6 dw rfl [(0,.agg #[.int .i64 6,.int .i64 ((gt y7 x15.2).1),.slice a78 o55.2.length z79])] (av hS rfl) rfl) fun s i85 hS=>?_
 have hC86:ai fM F82 ([(6,((gt y7 x15.2).1),o55.2)]:List (Int×Int×List Int)) [.int .i64 6,.int .i64 ((gt y7 x15.2).1),.slice a78 o55.2.length z79]:=⟨[.int .i64 6,.int .i64 ((gt y7 x15.2).1),.slice a78 o55.2.length z79],[],rfl,⟨_,_,rfl,hz84⟩,rfl⟩
 obtain⟨hk90,h30⟩:=ac h30
 replace hS:=hS.pull 3
 replace hS:=hS.pull 1
 refine fU hS (wn rfl) (dd:=fM) (lst:=x15.1) (m:=([(6,((gt y7 x15.2).1),o55.2)]:List (Int×Int×List Int))) rfl rfl mA rfl rfl (h20.mono hF83) (Nat.succ_pos _) hC86 hk90 fun s i87 cs88 hC89 hS=>(sg0 hS 1 [] [5] [.slice (some ⟨i87,0,none⟩) (x15.1++([(6,((gt y7 x15.2).1),o55.2)]:List (Int×Int×List Int))).length 3] [] (by kernel_rfl) fun s hS=>?_)
 refine KW.nil (WW.region ?_)
 refine sg0 hS 2 [] [23] [.int .i64 (w64 (x15.2+1))] [] (by kernel_rfl) fun s hS=>(KW.nil ?_)
 replace hS:=(hS.pull 1).drop
 replace hS:=(hS.pull 1).drop
 obtain rfl:=Option.some.inj h30
 exact⟨_,rfl,_,_,_,_,(hS.subR rfl),(Own.blk0 hC89),(FLe.trans hF17 hF83)⟩
 refine WW.condF hS rfl hc31 (WW.exit ?_)
 refine ae ?_
 obtain rfl:=Option.some.inj h30
 exact⟨_,rfl,rfl,_,_,_,_,(hS.subR rfl),h20,hF17⟩
 clear hS
 rintro e s ⟨rfl,a93,z94,B96,F91,hS,h95,hF92⟩
 refine af (WW.seq ?_)
 refine WW.region (sg0 hS 2 [] [2] [.slice a93 o22.1.length z94] [] (by kernel_rfl) fun s hS=>?_)
 refine KW.nil (WW.ret ?_)
 replace hS:=(hS.pull 1).drop
 cases h
 exact ax hS (.inr rfl) 2 rfl rfl ⟨_,_,_,((FLe.trans hF4 (FLe.trans hF14 hF92))),rfl,rfl,h95⟩
noncomputable def g_25.b0 (pA:List UInt8) (self:(List UInt8)→Option ((List (Int×Int×List Int)))) (x1:(List (Int×Int×List Int))×Int):Option (((List (Int×Int×List Int))×Int)⊕((List (Int×Int×List Int))×Int)) :=
  (if(decide (x1.2<44)) then(if(x1.2==6) then Option.bind (g_n.F self pA) fun y19=>(if x1.1.length+y19.length<1000000000 then some (.inl ((x1.1++y19),(w64 (x1.2+1)))) else none) else Option.bind (g_22.f pA) fun y38=>Option.bind (g_1c.f y38.1 y38.2.1 y38.2.2.1 y38.2.2.2.1 y38.2.2.2.2 x1.2) fun y50=>Option.bind (g_1z.f y38.1 y50.1 y50.2.2) fun y58=>(if y58 then(if x1.1.length+([(x1.2,(-1),y50.2.1)]:List (Int×Int×List Int)).length<1000000000 then some (.inl ((x1.1++([(x1.2,(-1),y50.2.1)]:List (Int×Int×List Int))),(w64 (x1.2+1)))) else none) else some (.inl (x1.1,(w64 (x1.2+1)))))) else some (.inr (x1.1,x1.2)))
noncomputable def g_25.F (self:(List UInt8)→Option ((List (Int×Int×List Int)))) (pA:List UInt8):Option ((List (Int×Int×List Int))) :=
  Option.bind (iter (g_25.b0 pA self) (([]:List (Int×Int×List Int)),0)) fun o8=>some o8.1
noncomputable def g_25.f (pA:List UInt8):Option ((List (Int×Int×List Int))):=ri (fun self (x:List UInt8)=>g_25.F self x) pA
theorem g_25.okN (n:Nat): ∀{pA:List UInt8} {F:FZ} {r:(List (Int×Int×List Int))} (h:dY (fun self (x:List UInt8)=>g_25.F self x) n pA=some r) (hG:Gl F),
    Cl EV 52 [aa pA] [] F (fun v S' F'=> ∃(ra1:Option Addr) (rz2:Nat) (rB4:Seg),FLe F F'∧v= .slice ra1 r.length rz2∧S'= [rB4]∧Own fM F' ra1 rz2 r rB4):=by
 induction n with
 | zero=>intros; rename_i h _; cases ‹dY _ 0 _=some _›
 | succ n ih =>
 intro pA F r h hG
 refine Cl.of Tryz.func52 rfl (fun _ _=>rfl) (by kernel_rfl) fun s L nx0 hS=>?_
 replace h:g_25.F (dY (fun self (x:List UInt8)=>g_25.F self x) n) pA=some r:=h
 generalize hself:dY (fun self (x:List UInt8)=>g_25.F self x) n=self at h ih
 unfold g_25.F at h
 refine WW.seq (WW.region ?_)
 refine sg0 hS 1 [] [2] [.slice none 0 0] [] (by kernel_rfl) fun s hS=>(KW.nil ?_)
 refine WW.seq (WW.region ?_)
 refine sg0 hS 1 [] [3] [.slice none 0 0] [] (by kernel_rfl) fun s hS=>(KW.nil ?_)
 refine WW.seq (WW.seq ?_)
 refine WW.region (sg0 hS 1 [] [6] [.int .i64 0] [] (by kernel_rfl) fun s hS=>?_)
 refine KW.nil (WW.block ?_)
 replace hS:=hS.gap0
 obtain⟨o8,ho8,h⟩:=bind_some h
 refine WW.loop (LW.iterE ho8 (fun(x1:(List (Int×Int×List Int))×Int) s=> ∃(a4:Option Addr) (z5:Nat) (B7:Seg) (F2:FZ),Stt EV s [(0,aa pA),(2,.slice none 0 0),(3,.slice a4 x1.1.length z5),(6,.int .i64 x1.2)] [B7] F2 L F nx0∧Own fM F2 a4 z5 x1.1 B7∧FLe F F2) 0 ⟨_,_,_,_,(hS.subR rfl),Own.nil,(FLe.refl _)⟩ ?_ ?_)
 clear hS
 rintro x1 s ⟨a4,z5,B7,F2,hS,h6,hF3⟩ o8' h16
 unfold g_25.b0 at h16
 refine WW.seq (WW.region ?_)
 refine sg0 hS 1 [] [7] [.bool (decide (x1.2<44))] [] (by kernel_rfl) fun s hS=>(KW.nil ?_)
 refine WW.seq (bc h16 (fun hc17 h16=>?_) fun hc17 h16=>?_)
 refine WW.condK hS rfl hc17 (WW.skip ?_)
 refine WW.seq (WW.block ?_)
 refine WW.seq (WW.region ?_)
 refine sg0 hS 2 [] [4] [.int .i64 x1.2] [] (by kernel_rfl) fun s hS=>(KW.nil ?_)
 refine WW.seq (WW.seq ?_)
 refine WW.region (sg0 hS 2 [] [10] [.bool (x1.2==6)] [] (by kernel_rfl) fun s hS=>?_)
 refine KW.nil (bc h16 (fun hc18 h16=>?_) fun hc18 h16=>?_)
 refine WW.condK hS rfl hc18 (WW.seq ?_)
 refine WW.region (sg0 hS 2 [] [11,12] [.slice a4 x1.1.length z5,aa pA] [] (by kernel_rfl) fun s hS=>?_)
 obtain⟨y19,hy19,h16⟩:=bind_some h16
 refine bu hS (wn rfl) (vs:=[aa pA]) (ws:=[aa pA]) rfl rfl rfl rfl rfl 0 rfl (g_n.okS (@ih) hy19 (hG.mono hF3)) fun s v S' F21 hp20 hF hS=>?_
 obtain⟨a22,z23,B25,hF26,rfl,rfl,h24⟩:=hp20
 obtain⟨F30,hF31,hS,hz32⟩:=hS.frzO h24
 obtain⟨hk33,h16⟩:=ac h16
 refine q_apF hS (wn rfl) (dd:=fM) (lst:=x1.1) (m:=y19) rfl rfl mA rfl rfl (h6.mono (FLe.trans hF26 hF31)) hz32 hk33 fun s a34 z35 B36 hO37 hS=>(sg0 hS 1 [] [3] [.slice a34 (x1.1++y19).length z35] [] (by kernel_rfl) fun s hS=>?_)
 refine KW.nil (WW.exit ?_)
 refine ae (af ?_)
 refine WW.region (sg0 hS 2 [] [6] [.int .i64 (w64 (x1.2+1))] [] (by kernel_rfl) fun s hS=>?_)
 refine KW.nil ?_
 obtain rfl:=Option.some.inj h16
 exact⟨_,rfl,_,_,_,_,(hS.subR rfl),hO37,(FLe.trans hF3 (FLe.trans hF26 hF31))⟩
 refine WW.condF hS rfl hc18 (WW.skip ?_)
 refine WW.seq (WW.region ?_)
 obtain⟨y38,hy38,h16⟩:=bind_some h16
 refine cK (g_22.ok hy38 (hG.mono hF3)) hS 1 16 0 rfl (by kernel_rfl) fun s v S' F40 hp39 hF hS=>?_
 obtain⟨i41,a42,z43,a45,z46,B48,hF49,rfl,rfl,h44,h47⟩:=hp39
 refine sg0 hS 1 [] [5] [.pointer (some ⟨i41,0,none⟩)] [] (by kernel_rfl) fun s hS=>(KW.nil ?_)
 refine WW.seq (WW.region ?_)
 obtain⟨y50,hy50,h16⟩:=bind_some h16
 refine cK (g_1c.ok hy50 h44 h47 (hG.mono (FLe.trans hF3 hF49))) hS 2 19 2 rfl (by kernel_rfl) fun s v S' F52 hp51 hF hS=>?_
 obtain⟨a53,z54,B56,hF57,rfl,rfl,h55⟩:=hp51
 refine KW.nil (WW.seq ?_)
 refine WW.region ?_
 obtain⟨y58,hy58,h16⟩:=bind_some h16
 refine cR (g_1z.ok hy58) hS 1 21 2 rfl (by kernel_rfl) fun s hS=>(KW.nil ?_)
 refine bc h16 (fun hc60 h16=>?_) fun hc60 h16=>?_
 refine WW.condK hS rfl hc60 (WW.region ?_)
 refine sg0 hS 6 [0] [22,23,27] [.slice a4 x1.1.length z5,.int .i64 x1.2,.slice a53 y50.2.1.length z54] [i41] (by kernel_rfl) fun s hS=>(aw hS (wn rfl) rfl rfl rfl (v:= .agg #[.int .i64 x1.2,.int .i64 (-1),.slice a53 y50.2.1.length z54]) (cn dw oU [(0,.int .i64 x1.2),(1,.int .i64 (-1)),(2,.slice a53 y50.2.1.length z54)] (av hS rfl) (cs:=[.int .i64 x1.2,.int .i64 (-1),.slice a53 y50.2.1.length z54]) rfl) fun s hS=>?_)
 replace hS:=hS.pull 1
 obtain⟨F61,hF62,hS,hz63⟩:=hS.frzO h55
 refine bA hS (wn rfl) rfl rfl rfl (v:=fun i=> .slice (some ⟨i,0,none⟩) 1 3) (b:= .row [.int .i64 x1.2,.int .i64 (-1),.slice a53 y50.2.1.length z54] 24 3 true) (aW tu36 g6 dw rfl [(0,.agg #[.int .i64 x1.2,.int .i64 (-1),.slice a53 y50.2.1.length z54])] (av hS rfl) rfl) fun s i64 hS=>?_
 have hC65:ai fM F61 ([(x1.2,(-1),y50.2.1)]:List (Int×Int×List Int)) [.int .i64 x1.2,.int .i64 (-1),.slice a53 y50.2.1.length z54]:=⟨[.int .i64 x1.2,.int .i64 (-1),.slice a53 y50.2.1.length z54],[],rfl,⟨_,_,rfl,hz63⟩,rfl⟩
 obtain⟨hk69,h16⟩:=ac h16
 replace hS:=hS.pull 2
 replace hS:=hS.pull 1
 refine fU hS (wn rfl) (dd:=fM) (lst:=x1.1) (m:=([(x1.2,(-1),y50.2.1)]:List (Int×Int×List Int))) rfl rfl mA rfl rfl (h6.mono (FLe.trans hF49 (FLe.trans hF57 hF62))) (Nat.succ_pos _) hC65 hk69 fun s i66 cs67 hC68 hS=>(sg0 hS 1 [] [3] [.slice (some ⟨i66,0,none⟩) (x1.1++([(x1.2,(-1),y50.2.1)]:List (Int×Int×List Int))).length 3] [] (by kernel_rfl) fun s hS=>?_)
 refine KW.nil (WW.region ?_)
 refine sg0 hS 2 [] [6] [.int .i64 (w64 (x1.2+1))] [] (by kernel_rfl) fun s hS=>(KW.nil ?_)
 replace hS:=(hS.pull 1).drop
 obtain rfl:=Option.some.inj h16
 exact⟨_,rfl,_,_,_,_,(hS.subR rfl),(Own.blk0 hC68),(FLe.trans hF3 (FLe.trans hF49 (FLe.trans hF57 hF62)))⟩
 refine WW.condF hS rfl hc60 (WW.skip ?_)
 refine WW.region (sg0 hS 2 [] [6] [.int .i64 (w64 (x1.2+1))] [] (by kernel_rfl) fun s hS=>?_)
 refine KW.nil ?_
 replace hS:=hS.drop
 replace hS:=hS.drop
 obtain rfl:=Option.some.inj h16
 exact⟨_,rfl,_,_,_,_,(hS.subR rfl),(h6.mono (FLe.trans hF49 hF57)),(FLe.trans hF3 (FLe.trans hF49 hF57))⟩
 refine WW.condF hS rfl hc17 (WW.exit ?_)
 refine ae ?_
 obtain rfl:=Option.some.inj h16
 exact⟨_,rfl,rfl,_,_,_,_,(hS.subR rfl),h6,hF3⟩
 clear hS
 rintro e s ⟨rfl,a72,z73,B75,F70,hS,h74,hF71⟩
 refine af (WW.seq ?_)
 refine WW.region (sg0 hS 2 [] [2] [.slice a72 o8.1.length z73] [] (by kernel_rfl) fun s hS=>?_)
 refine KW.nil (WW.ret ?_)
 cases h
 exact ax hS (.inr rfl) 2 rfl rfl ⟨_,_,_,(hF71),rfl,rfl,h74⟩
theorem g_25.ok {pA:List UInt8} {F:FZ} {r:(List (Int×Int×List Int))} (h:g_25.f pA=some r) (hG:Gl F) :
    Cl EV 52 [aa pA] [] F (fun v S' F'=> ∃(ra1:Option Addr) (rz2:Nat) (rB4:Seg),FLe F F'∧v= .slice ra1 r.length rz2∧S'= [rB4]∧Own fM F' ra1 rz2 r rB4):=by
  obtain⟨n,hn⟩:=lG h
  exact g_25.okN n hn hG
noncomputable def g_e.f (pA:List UInt8):Option ((List (Int×Int×List Int))×Int) :=
  Option.bind (g_26.f pA) fun y1=>(if(y1 != 0) then some (([]:List (Int×Int×List Int)),y1) else Option.bind (g_25.f pA) fun y6=>some (y6,0))
theorem g_e.ok {pA:List UInt8} {F:FZ} {r:(List (Int×Int×List Int))×Int} (h:g_e.f pA=some r) (hG:Gl F) :
    Cl EV 19 [aa pA] [] F (fun v S' F'=> ∃(ra1:Option Addr) (rz2:Nat) (rB4:Seg),FLe F F'∧v= .tuple #[.slice ra1 r.1.length rz2,.int .i64 r.2]∧S'= [rB4]∧Own fM F' ra1 rz2 r.1 rB4):=by
 refine Cl.of Tryz.func19 rfl (fun _ _=>rfl) (by kernel_rfl) fun s L nx0 hS=>?_
 unfold g_e.f at h
 refine WW.seq (WW.region ?_)
 refine sg0 hS 2 [] [2,3] [.slice none 0 0,.int .i64 0] [] (by kernel_rfl) fun s hS=>(KW.nil ?_)
 refine WW.seq (WW.seq ?_)
 refine WW.region ?_
 obtain⟨y1,hy1,h⟩:=bind_some h
 refine cK (g_26.ok hy1 hG) hS 1 6 0 rfl (by kernel_rfl) fun s v S' F3 hp2 hF hS=>?_
 obtain⟨hF4,rfl,rfl⟩:=hp2
 refine sg0 hS 1 [] [4] [.int .i64 y1] [] (by kernel_rfl) fun s hS=>(KW.nil ?_)
 refine WW.seq (WW.region ?_)
 refine sg0 hS 2 [] [8] [.bool (y1 != 0)] [] (by kernel_rfl) fun s hS=>(KW.nil ?_)
 refine bc h (fun hc5 h=>?_) fun hc5 h=>?_
 refine WW.condK hS rfl hc5 (WW.seq ?_)
 refine WW.region (sg0 hS 3 [] [2,3] [.slice none 0 0,.int .i64 y1] [] (by kernel_rfl) fun s hS=>?_)
 refine KW.nil (WW.ret ?_)
 replace hS:=hS.gap0
 cases h
 exact bP hS (.inr rfl) 2 3 rfl rfl rfl ⟨_,_,_,(hF4),rfl,rfl,Own.nil⟩
 refine WW.condF hS rfl hc5 (WW.skip ?_)
 refine WW.seq (WW.region ?_)
 obtain⟨y6,hy6,h⟩:=bind_some h
 refine cK (g_25.ok hy6 (hG.mono hF4)) hS 1 11 0 rfl (by kernel_rfl) fun s v S' F8 hp7 hF hS=>?_
 obtain⟨a9,z10,B12,hF13,rfl,rfl,h11⟩:=hp7
 refine sg0 hS 2 [] [2,3] [.slice a9 y6.length z10,.int .i64 0] [] (by kernel_rfl) fun s hS=>(KW.nil ?_)
 refine WW.ret ?_
 cases h
 exact bP hS (.inr rfl) 2 3 rfl rfl rfl ⟨_,_,_,((FLe.trans hF4 hF13)),rfl,rfl,h11⟩
noncomputable def g_24.f (pA:Int) (pJ:Int):Option (Bool) :=
  some (pA==pJ)
theorem g_24.ok {aE:Option Addr} {zH:Nat} {iJ:Nat} {pA:Int} {pB:Int} {pC:List Int} {pJ:Int} {F:FZ} {r:Bool} (h:g_24.f pA pJ=some r) :
    Cl EV 86 [.agg #[.int .i64 pA,.int .i64 pB,.slice aE pC.length zH],.pointer (some ⟨iJ,0,none⟩)] [[(iJ,.row [.int .i64 pJ] 3 0 true)]] F (fun v S' F'=>F=F'∧v= .bool r∧S'= [[(iJ,.row [.int .i64 pJ] 3 0 true)]]):=by
 refine Cl.of Tryz.func86 rfl (fun _ _=>rfl) (by kernel_rfl) fun s L nx0 hS=>?_
 unfold g_24.f at h
 refine WW.seq (WW.region ?_)
 refine bA hS (wn rfl) rfl rfl rfl (v:=fun i=> .pointer (some ⟨i,0,none⟩)) (b:= .row [.int .i64 pA,.int .i64 pB,.slice aE pC.length zH] 24 0 true) (co (hS.lk rfl) rfl [.int .i64 pA,.int .i64 pB,.slice aE pC.length zH] rfl) fun s i1 hS=>(sg0 hS 1 [] [3] [.bool false] [] (by kernel_rfl) fun s hS=>?_)
 refine KW.nil (WW.seq ?_)
 refine WW.region (sg0 hS 5 [0,1] [3] [.bool (pA==pJ)] [i1,iJ] (by kernel_rfl) fun s hS=>?_)
 refine KW.nil (WW.ret ?_)
 replace hS:=hS.drop
 cases h
 exact ax hS (.inr rfl) 3 rfl rfl ⟨rfl,rfl,rfl⟩
noncomputable def g_2o.b0 (pA:List (Int×Int×List Int)) (pH:Int) (x1:Int):Option ((Int)⊕((Int)⊕(Int))) :=
  (if(decide (x1<(pA.length:Int))) then(if 0≤x1∧x1<(pA.length:Int) then Option.bind (g_24.f ((gt pA x1).1) pH) fun y18=>(if y18 then some (.inr (.inr x1)) else some (.inl (w64 (x1+1)))) else none) else some (.inr (.inl x1)))
noncomputable def g_2o.f (pA:List (Int×Int×List Int)) (pH:Int):Option (Int) :=
  Option.bind (iter (g_2o.b0 pA pH) 0) fun o2=>cu o2 fun y21=>some (-1)
theorem g_2o.ok {aC:Option Addr} {zD:Nat} {iH:Nat} {pA:List (Int×Int×List Int)} {pH:Int} {F:FZ} {r:Int} (h:g_2o.f pA pH=some r) (hE:Frz fM F aC zD pA) :
    Cl EV 81 [.slice aC pA.length zD,.func (.func 86) #[] #[.pointer (some ⟨iH,0,none⟩)]] [[(iH,.row [.int .i64 pH] 3 0 true)]] F (fun v S' F'=>F=F'∧v= .int .i64 r∧S'= [[(iH,.row [.int .i64 pH] 3 0 true)]]):=by
 refine Cl.of Tryz.func81 rfl (fun _ _=>rfl) (by kernel_rfl) fun s L nx0 hS=>?_
 unfold g_2o.f at h
 refine WW.seq (WW.region ?_)
 refine sg0 hS 1 [] [4] [.int .i64 0] [] (by kernel_rfl) fun s hS=>(KW.nil ?_)
 refine WW.seq (WW.seq ?_)
 refine WW.region (sg0 hS 3 [] [7,8] [.int .i64 (pA.length:Int),.int .i64 0] [] (by kernel_rfl) fun s hS=>?_)
 refine KW.nil (WW.block ?_)
 obtain⟨o2,ho2,h⟩:=bind_some h
 refine WW.loop (LW.iterS ho2 (fun(x1:Int) s=>Stt EV s [(0,.slice aC pA.length zD),(1,.func (.func 86) #[] #[.pointer (some ⟨iH,0,none⟩)]),(4,.int .i64 0),(7,.int .i64 (pA.length:Int)),(8,.int .i64 x1)] [[(iH,.row [.int .i64 pH] 3 0 true)]] F L F nx0) 0 (fun r=>ej EV Tryz.f81 L F nx0 (fun v S' F'=>F=F'∧v= .int .i64 r∧S'= [[(iH,.row [.int .i64 pH] 3 0 true)]])) (hS.subR rfl) ?_ ?_)
 clear hS
 rintro x1 s hS o2' h4
 unfold g_2o.b0 at h4
 refine WW.seq (WW.region ?_)
 refine sg0 hS 1 [] [9] [.bool (decide (x1<(pA.length:Int)))] [] (by kernel_rfl) fun s hS=>(KW.nil ?_)
 refine WW.seq (bc h4 (fun hc5 h4=>?_) fun hc5 h4=>?_)
 refine WW.condK hS rfl hc5 (WW.skip ?_)
 refine WW.seq (WW.block ?_)
 refine WW.seq (WW.region ?_)
 refine sg0 hS 2 [] [5] [.int .i64 x1] [] (by kernel_rfl) fun s hS=>(KW.nil ?_)
 refine WW.seq (WW.region ?_)
 refine sg0 hS 3 [] [11,12,13] [.func (.func 86) #[] #[.pointer (some ⟨iH,0,none⟩)],.slice aC pA.length zD,.int .i64 x1] [] (by kernel_rfl) fun s hS=>?_
 obtain⟨hk6,h4⟩:=ac h4
 obtain⟨i12,of13,rfl⟩:=Frz.addr hE (by omega)
 obtain⟨_,_,_,_,c7,hF14,hR8,hN9,hN10,hT11⟩:=Frz.at hE hk6 (m:=3) rfl
 obtain⟨a15,z16,rfl,hz17⟩:=hR8
 refine aw hS (wn rfl) rfl rfl rfl (v:= .pointer (some ⟨i12,of13+(x1).toNat*3,none⟩)) (aF (hS.lk rfl) (hS.lk rfl) oT hk6) fun s hS=>(ja hS (wn rfl) rfl rfl rfl (hS.fat hF14) jp g6 (vs:=[.int .i64 ((gt pA x1).1),.int .i64 ((gt pA x1).2.1),.slice a15 ((gt pA x1).2.2).length z16]) hT11 fun s hS=>?_)
 obtain⟨y18,hy18,h4⟩:=bind_some h4
 refine cR (ws:=[.agg #[.int .i64 ((gt pA x1).1),.int .i64 ((gt pA x1).2.1),.slice a15 ((gt pA x1).2.2).length z16],.pointer (some ⟨iH,0,none⟩)]) (g_24.ok hy18) hS 0 16 1 rfl (by kernel_rfl) fun s hS=>(KW.nil ?_)
 refine bc h4 (fun hc20 h4=>?_) fun hc20 h4=>?_
 refine WW.condK hS rfl hc20 (WW.seq ?_)
 refine WW.region (sg0 hS 2 [] [4] [.int .i64 x1] [] (by kernel_rfl) fun s hS=>?_)
 refine KW.nil (WW.ret ?_)
 cases h4
 exact⟨_,rfl,rfl,ax hS (.inr rfl) 4 rfl rfl ⟨rfl,rfl,rfl⟩⟩
 refine WW.condF hS rfl hc20 (WW.skip ?_)
 refine WW.region (sg0 hS 2 [] [8] [.int .i64 (w64 (x1+1))] [] (by kernel_rfl) fun s hS=>?_)
 refine KW.nil ?_
 obtain rfl:=Option.some.inj h4
 exact⟨_,rfl,(hS.subR rfl)⟩
 refine WW.condF hS rfl hc5 (WW.exit ?_)
 refine ae ?_
 obtain rfl:=Option.some.inj h4
 exact⟨_,rfl,rfl,(hS.subR rfl)⟩
 clear hS
 rcases o2 with y21 | y21
 rintro e s ⟨rfl,hS⟩
 replace h:=bp h
 refine af (WW.seq ?_)
 refine WW.region (sg0 hS 1 [] [4] [.int .i64 (-1)] [] (by kernel_rfl) fun s hS=>?_)
 refine KW.nil (WW.ret ?_)
 cases h
 exact ax hS (.inr rfl) 4 rfl rfl ⟨rfl,rfl,rfl⟩
 rintro e s ⟨rfl,hfin⟩
 replace h:=bq h
 obtain rfl:=Option.some.inj h
 exact hfin
noncomputable def g_23.f (pA:List (Int×Int×List Int)) (pE:Int):Option (Int×Int×List Int×Bool) :=
  Option.bind (g_2o.f pA pE) fun y3=>(if(decide (y3<0)) then some (0,0,([]:List Int),false) else(if 0≤y3∧y3<(pA.length:Int) then some (((gt pA y3).1),((gt pA y3).2.1),((gt pA y3).2.2),true) else none))
theorem g_23.ok {aC:Option Addr} {zD:Nat} {pA:List (Int×Int×List Int)} {pE:Int} {F:FZ} {r:Int×Int×List Int×Bool} (h:g_23.f pA pE=some r) (hE:Frz fM F aC zD pA) :
    Cl EV 53 [.slice aC pA.length zD,.int .i64 pE] [] F (fun v S' F'=> ∃(ra1:Option Addr) (rz2:Nat),F=F'∧v= .tuple #[.agg #[.int .i64 r.1,.int .i64 r.2.1,.slice ra1 r.2.2.1.length rz2],.bool r.2.2.2]∧S'= []∧Frz (elI .i64 3) F' ra1 rz2 r.2.2.1):=by
 refine Cl.of Tryz.func53 rfl (fun _ _=>rfl) (by kernel_rfl) fun s L nx0 hS=>?_
 unfold g_23.f at h
 refine WW.seq (WW.region ?_)
 refine bA hS (wn rfl) rfl rfl rfl (v:=fun i=> .pointer (some ⟨i,0,none⟩)) (b:= .row [.int .i64 pE] 3 0 true) (co (hS.lk rfl) rfl [.int .i64 pE] rfl) fun s i1 hS=>(bA hS (wn rfl) rfl rfl rfl (v:=fun i=> .pointer (some ⟨i,0,none⟩)) (b:= .row [.int .i64 0,.int .i64 0,.slice none 0 0] 24 0 true) (bf dw) fun s i2 hS=>?_)
 refine sg0 hS 1 [] [5] [.bool false] [] (by kernel_rfl) fun s hS=>(KW.nil ?_)
 refine WW.seq (WW.region ?_)
 refine sg0 hS 1 [] [7] [.slice aC pA.length zD] [] (by kernel_rfl) fun s hS=>(aw hS (wn rfl) rfl rfl rfl (v:= .func (.func 86) #[] #[.pointer (some ⟨i1,0,none⟩)]) (cF (bb hS (vs:=[]) rfl) (bb hS (vs:=[.pointer (some ⟨i1,0,none⟩)]) rfl)) fun s hS=>?_)
 obtain⟨y3,hy3,h⟩:=bind_some h
 replace hS:=hS.pull 1
 refine cR (g_2o.ok hy3 hE) hS 0 9 1 rfl (by kernel_rfl) fun s hS=>(sg0 hS 1 [] [6] [.int .i64 y3] [] (by kernel_rfl) fun s hS=>?_)
 refine KW.nil (WW.seq ?_)
 refine WW.seq (WW.region ?_)
 refine sg0 hS 2 [] [11] [.bool (decide (y3<0))] [] (by kernel_rfl) fun s hS=>(KW.nil ?_)
 refine bc h (fun hc5 h=>?_) fun hc5 h=>?_
 refine WW.condK hS rfl hc5 (WW.seq ?_)
 refine WW.region (aw hS (wn rfl) rfl rfl rfl (v:= .agg #[.int .i64 0,.int .i64 0,.slice none 0 0]) (cn dw oU [] (av hS rfl) (cs:=[.int .i64 0,.int .i64 0,.slice none 0 0]) rfl) fun s hS=>?_)
 refine sg hS 2 [1] [5] [.bool false] [i2] [[(i1,.row [.int .i64 pE] 3 0 true)],[(i2,.row [.int .i64 0,.int .i64 0,.slice none 0 0] 24 0 true)]] (by kernel_rfl) fun s hS=>(KW.nil ?_)
 refine WW.ret ?_
 have hres:=(bE hS (t:=4) (ty:=24) rfl (p:=1) rfl jp g6 (ws:=[.int .i64 0,.int .i64 0,.slice none ([]:List Int).length 0]) rfl (br hS (t:=5) (v:= .bool false) rfl (aY (E:=EV) (s:=s))))
 replace hS:=hS.drop
 replace hS:=hS.drop
 cases h
 exact fin hS (.inr rfl) hres (v:= .tuple #[.agg #[.int .i64 0,.int .i64 0,.slice none ([]:List Int).length 0],.bool false]) rfl ⟨_,_,rfl,rfl,rfl,Frz.nil⟩
 refine WW.condF hS rfl hc5 (WW.skip ?_)
 refine WW.seq (WW.region ?_)
 refine sg0 hS 2 [] [13,14] [.slice aC pA.length zD,.int .i64 y3] [] (by kernel_rfl) fun s hS=>?_
 obtain⟨hk6,h⟩:=ac h
 obtain⟨i12,of13,rfl⟩:=Frz.addr hE (by omega)
 obtain⟨_,_,_,_,c7,hF14,hR8,hN9,hN10,hT11⟩:=Frz.at hE hk6 (m:=3) rfl
 obtain⟨a15,z16,rfl,hz17⟩:=hR8
 refine aw hS (wn rfl) rfl rfl rfl (v:= .pointer (some ⟨i12,of13+(y3).toNat*3,none⟩)) (aF (hS.lk rfl) (hS.lk rfl) oT hk6) fun s hS=>(ja hS (wn rfl) rfl rfl rfl (hS.fat hF14) jp g6 (vs:=[.int .i64 ((gt pA y3).1),.int .i64 ((gt pA y3).2.1),.slice a15 ((gt pA y3).2.2).length z16]) hT11 fun s hS=>?_)
 refine sg hS 2 [1] [5] [.bool true] [i2] [[(i1,.row [.int .i64 pE] 3 0 true)],[(i2,.row [.int .i64 ((gt pA y3).1),.int .i64 ((gt pA y3).2.1),.slice a15 ((gt pA y3).2.2).length z16] 24 0 true)]] (by kernel_rfl) fun s hS=>(KW.nil ?_)
 refine WW.ret ?_
 have hres:=(bE hS (t:=4) (ty:=24) rfl (p:=1) rfl jp g6 (ws:=[.int .i64 ((gt pA y3).1),.int .i64 ((gt pA y3).2.1),.slice a15 ((gt pA y3).2.2).length z16]) rfl (br hS (t:=5) (v:= .bool true) rfl (aY (E:=EV) (s:=s))))
 replace hS:=hS.drop
 replace hS:=hS.drop
 cases h
 exact fin hS (.inr rfl) hres (v:= .tuple #[.agg #[.int .i64 ((gt pA y3).1),.int .i64 ((gt pA y3).2.1),.slice a15 ((gt pA y3).2.2).length z16],.bool true]) rfl ⟨_,_,rfl,rfl,rfl,hz17⟩
noncomputable def g_b.f (pA:List UInt8) (pB:Bool):Option (Int×Int×List Int×Int) :=
  Option.bind (g_e.f pA) fun y2=>(if(y2.2 != 0) then some (0,0,([]:List Int),y2.2) else(if((y2.1.length:Int)==0) then some (0,0,([]:List Int),12) else(if((y2.1.length:Int)==1) then(if 0≤(0:Int)∧(0:Int)<(y2.1.length:Int) then some (((gt y2.1 (0:Int)).1),((gt y2.1 (0:Int)).2.1),((gt y2.1 (0:Int)).2.2),0) else none) else Option.bind (g_23.f y2.1 40) fun y29=>(if(y29.2.2.2&&pB) then some (y29.1,y29.2.1,y29.2.2.1,0) else some (0,0,([]:List Int),30)))))
theorem g_b.ok {pA:List UInt8} {pB:Bool} {F:FZ} {r:Int×Int×List Int×Int} (h:g_b.f pA pB=some r) (hG:Gl F) :
    Cl EV 20 [aa pA,.bool pB] [] F (fun v S' F'=> ∃(ra1:Option Addr) (rz2:Nat),FLe F F'∧v= .tuple #[.agg #[.int .i64 r.1,.int .i64 r.2.1,.slice ra1 r.2.2.1.length rz2],.int .i64 r.2.2.2]∧S'= []∧Frz (elI .i64 3) F' ra1 rz2 r.2.2.1):=by
 refine Cl.of Tryz.func20 rfl (fun _ _=>rfl) (by kernel_rfl) fun s L nx0 hS=>?_
 unfold g_b.f at h
 refine WW.seq (WW.region ?_)
 refine bA hS (wn rfl) rfl rfl rfl (v:=fun i=> .pointer (some ⟨i,0,none⟩)) (b:= .row [.int .i64 0,.int .i64 0,.slice none 0 0] 24 0 true) (bf dw) fun s i1 hS=>(sg0 hS 1 [] [5] [.int .i64 0] [] (by kernel_rfl) fun s hS=>?_)
 refine KW.nil (WW.seq ?_)
 refine WW.region ?_
 obtain⟨y2,hy2,h⟩:=bind_some h
 refine cK (g_e.ok hy2 hG) hS 1 12 0 rfl (by kernel_rfl) fun s v S' F4 hp3 hF hS=>?_
 obtain⟨a5,z6,B8,hF9,rfl,rfl,h7⟩:=hp3
 refine sg0 hS 5 [] [6,7] [.slice a5 y2.1.length z6,.int .i64 y2.2] [] (by kernel_rfl) fun s hS=>(KW.nil ?_)
 refine WW.seq (WW.seq ?_)
 refine WW.region (sg0 hS 2 [] [16] [.bool (y2.2 != 0)] [] (by kernel_rfl) fun s hS=>?_)
 refine KW.nil (bc h (fun hc10 h=>?_) fun hc10 h=>?_)
 refine WW.condK hS rfl hc10 (WW.seq ?_)
 refine WW.region (aw hS (wn rfl) rfl rfl rfl (v:= .agg #[.int .i64 0,.int .i64 0,.slice none 0 0]) (cn dw oU [] (av hS rfl) (cs:=[.int .i64 0,.int .i64 0,.slice none 0 0]) rfl) fun s hS=>?_)
 refine sg hS 3 [1] [5] [.int .i64 y2.2] [i1] [B8,[(i1,.row [.int .i64 0,.int .i64 0,.slice none 0 0] 24 0 true)]] (by kernel_rfl) fun s hS=>(KW.nil ?_)
 refine WW.ret ?_
 have hres:=(bE hS (t:=4) (ty:=24) rfl (p:=1) rfl jp g6 (ws:=[.int .i64 0,.int .i64 0,.slice none ([]:List Int).length 0]) rfl (br hS (t:=5) (v:= .int .i64 y2.2) rfl (aY (E:=EV) (s:=s))))
 replace hS:=hS.drop
 replace hS:=hS.drop
 cases h
 exact fin hS (.inr rfl) hres (v:= .tuple #[.agg #[.int .i64 0,.int .i64 0,.slice none ([]:List Int).length 0],.int .i64 y2.2]) rfl ⟨_,_,(hF9),rfl,rfl,Frz.nil⟩
 refine WW.condF hS rfl hc10 (WW.skip ?_)
 refine WW.seq (WW.seq ?_)
 refine WW.region (sg0 hS 2 [] [20] [.int .i64 (y2.1.length:Int)] [] (by kernel_rfl) fun s hS=>?_)
 refine KW.nil (WW.block ?_)
 refine WW.seq (WW.region ?_)
 refine sg0 hS 2 [] [21] [.bool ((y2.1.length:Int)==0)] [] (by kernel_rfl) fun s hS=>(KW.nil ?_)
 refine bc h (fun hc11 h=>?_) fun hc11 h=>?_
 refine WW.condK hS rfl hc11 (WW.seq ?_)
 refine WW.region (aw hS (wn rfl) rfl rfl rfl (v:= .agg #[.int .i64 0,.int .i64 0,.slice none 0 0]) (cn dw oU [] (av hS rfl) (cs:=[.int .i64 0,.int .i64 0,.slice none 0 0]) rfl) fun s hS=>?_)
 refine sg hS 2 [1] [5] [.int .i64 12] [i1] [B8,[(i1,.row [.int .i64 0,.int .i64 0,.slice none 0 0] 24 0 true)]] (by kernel_rfl) fun s hS=>(KW.nil ?_)
 refine WW.ret ?_
 have hres:=(bE hS (t:=4) (ty:=24) rfl (p:=1) rfl jp g6 (ws:=[.int .i64 0,.int .i64 0,.slice none ([]:List Int).length 0]) rfl (br hS (t:=5) (v:= .int .i64 12) rfl (aY (E:=EV) (s:=s))))
 replace hS:=hS.drop
 replace hS:=hS.drop
 cases h
 exact fin hS (.inr rfl) hres (v:= .tuple #[.agg #[.int .i64 0,.int .i64 0,.slice none ([]:List Int).length 0],.int .i64 12]) rfl ⟨_,_,(hF9),rfl,rfl,Frz.nil⟩
 refine WW.condF hS rfl hc11 (WW.seq ?_)
 refine WW.region (sg0 hS 2 [] [24] [.bool ((y2.1.length:Int)==1)] [] (by kernel_rfl) fun s hS=>?_)
 refine KW.nil (bc h (fun hc12 h=>?_) fun hc12 h=>?_)
 refine WW.condK hS rfl hc12 (WW.seq ?_)
 refine WW.region (sg0 hS 1 [] [26] [.slice a5 y2.1.length z6] [] (by kernel_rfl) fun s hS=>?_)
 obtain⟨hk13,h⟩:=ac h
 obtain⟨i19,cs20,ex21,rfl,rfl,rfl,hC22⟩:=Own.some_ h7 (by omega)
 obtain⟨c14,hR15,hN17,hN16,hT18⟩:=ai.loadF hC22 ex21 hk13 (z:=3) rfl
 obtain⟨a23,z24,rfl,hz25⟩:=hR15
 refine aw hS (wn rfl) rfl rfl rfl (v:= .pointer (some ⟨i19,0+((0:Int)).toNat*3,none⟩)) (aF (hS.lk rfl) (hS.lk rfl) oT hk13) fun s hS=>(ja hS (wn rfl) rfl rfl rfl (hS.at (k:=0) rfl) jp g6 (vs:=[.int .i64 ((gt y2.1 (0:Int)).1),.int .i64 ((gt y2.1 (0:Int)).2.1),.slice a23 ((gt y2.1 (0:Int)).2.2).length z24]) hT18 fun s hS=>?_)
 refine sg hS 2 [1] [5] [.int .i64 0] [i1] [[(i19,.row (cs20++ex21) 24 3 true)],[(i1,.row [.int .i64 ((gt y2.1 (0:Int)).1),.int .i64 ((gt y2.1 (0:Int)).2.1),.slice a23 ((gt y2.1 (0:Int)).2.2).length z24] 24 0 true)]] (by kernel_rfl) fun s hS=>(KW.nil ?_)
 refine WW.ret ?_
 have hres:=(bE hS (t:=4) (ty:=24) rfl (p:=1) rfl jp g6 (ws:=[.int .i64 ((gt y2.1 (0:Int)).1),.int .i64 ((gt y2.1 (0:Int)).2.1),.slice a23 ((gt y2.1 (0:Int)).2.2).length z24]) rfl (br hS (t:=5) (v:= .int .i64 0) rfl (aY (E:=EV) (s:=s))))
 replace hS:=hS.drop
 replace hS:=hS.drop
 cases h
 exact fin hS (.inr rfl) hres (v:= .tuple #[.agg #[.int .i64 ((gt y2.1 (0:Int)).1),.int .i64 ((gt y2.1 (0:Int)).2.1),.slice a23 ((gt y2.1 (0:Int)).2.2).length z24],.int .i64 0]) rfl ⟨_,_,(hF9),rfl,rfl,hz25⟩
 refine WW.condF hS rfl hc12 (WW.skip ?_)
 refine WW.seq (WW.seq ?_)
 refine WW.region ?_
 obtain⟨F26,hF27,hS,hz28⟩:=hS.frzO h7
 obtain⟨y29,hy29,h⟩:=bind_some h
 refine cK (g_23.ok hy29 hz28) hS 1 31 0 rfl (by kernel_rfl) fun s v S' F' hp30 hF hS=>?_
 obtain⟨a31,z32,rfl,rfl,rfl,h33⟩:=hp30
 refine sg0 hS 3 [] [32,33] [.agg #[.int .i64 y29.1,.int .i64 y29.2.1,.slice a31 y29.2.2.1.length z32],.bool y29.2.2.2] [] (by kernel_rfl) fun s hS=>(bA hS (wn rfl) rfl rfl rfl (v:=fun i=> .pointer (some ⟨i,0,none⟩)) (b:= .row [.int .i64 0,.int .i64 0,.slice none 0 0] 24 0 true) (bf dw) fun s i34 hS=>?_)
 refine sg hS 2 [0] [9] [.bool y29.2.2.2] [i34] [[(i34,.row [.int .i64 y29.1,.int .i64 y29.2.1,.slice a31 y29.2.2.1.length z32] 24 0 true)],[(i1,.row [.int .i64 0,.int .i64 0,.slice none 0 0] 24 0 true)]] (by kernel_rfl) fun s hS=>(KW.nil ?_)
 refine WW.seq (WW.region ?_)
 refine sg0 hS 2 [] [35] [.bool y29.2.2.2] [] (by kernel_rfl) fun s hS=>(ay 2 (fun s=>Stt EV s [(37,.bool (y29.2.2.2&&pB)),(4,.pointer (some ⟨i1,0,none⟩)),(5,.int .i64 0),(8,.pointer (some ⟨i34,0,none⟩))] [[(i34,.row [.int .i64 y29.1,.int .i64 y29.2.1,.slice a31 y29.2.2.1.length z32] 24 0 true)],[(i1,.row [.int .i64 0,.int .i64 0,.slice none 0 0] 24 0 true)]] F26 L F nx0) ?_ fun s hS=>?_)
 rcases aj (y29.2.2.2) with hcj | hcj
 replace hS:=hS.know (t:=33) rfl (congrArg Value.bool hcj)
 replace hS:=hS.know (t:=9) rfl (congrArg Value.bool hcj)
 replace hS:=hS.know (t:=35) rfl (congrArg Value.bool hcj)
 refine sg0 hS 2 [] [37] [.bool pB] [] (by kernel_rfl) fun s hS=>(KW.nil ?_)
 exact(hS.know (t:=37) (u':= .bool (y29.2.2.2&&pB)) rfl (aJ hcj)).subR rfl
 replace hS:=hS.know (t:=33) rfl (congrArg Value.bool hcj)
 replace hS:=hS.know (t:=9) rfl (congrArg Value.bool hcj)
 replace hS:=hS.know (t:=35) rfl (congrArg Value.bool hcj)
 refine sg0 hS 2 [] [37] [.bool false] [] (by kernel_rfl) fun s hS=>(KW.nil ?_)
 exact(hS.know (t:=37) (u':= .bool (y29.2.2.2&&pB)) rfl (aL hcj)).subR rfl
 refine KW.nil (bc h (fun hc35 h=>?_) fun hc35 h=>?_)
 refine WW.condK hS rfl hc35 (WW.seq ?_)
 refine WW.region (sg hS 3 [0,1] [5] [.int .i64 0] [i34,i1] [[(i34,.row [.int .i64 y29.1,.int .i64 y29.2.1,.slice a31 y29.2.2.1.length z32] 24 0 true)],[(i1,.row [.int .i64 y29.1,.int .i64 y29.2.1,.slice a31 y29.2.2.1.length z32] 24 0 true)]] (by kernel_rfl) fun s hS=>?_)
 refine KW.nil (WW.ret ?_)
 have hres:=(bE hS (t:=4) (ty:=24) rfl (p:=1) rfl jp g6 (ws:=[.int .i64 y29.1,.int .i64 y29.2.1,.slice a31 y29.2.2.1.length z32]) rfl (br hS (t:=5) (v:= .int .i64 0) rfl (aY (E:=EV) (s:=s))))
 replace hS:=hS.drop
 replace hS:=hS.drop
 cases h
 exact fin hS (.inr rfl) hres (v:= .tuple #[.agg #[.int .i64 y29.1,.int .i64 y29.2.1,.slice a31 y29.2.2.1.length z32],.int .i64 0]) rfl ⟨_,_,((FLe.trans hF9 hF27)),rfl,rfl,h33⟩
 refine WW.condF hS rfl hc35 (WW.skip ?_)
 refine WW.seq (WW.region ?_)
 refine aw hS (wn rfl) rfl rfl rfl (v:= .agg #[.int .i64 0,.int .i64 0,.slice none 0 0]) (cn dw oU [] (av hS rfl) (cs:=[.int .i64 0,.int .i64 0,.slice none 0 0]) rfl) fun s hS=>(sg hS 2 [1] [5] [.int .i64 30] [i1] [[(i34,.row [.int .i64 y29.1,.int .i64 y29.2.1,.slice a31 y29.2.2.1.length z32] 24 0 true)],[(i1,.row [.int .i64 0,.int .i64 0,.slice none 0 0] 24 0 true)]] (by kernel_rfl) fun s hS=>?_)
 refine KW.nil (WW.ret ?_)
 have hres:=(bE hS (t:=4) (ty:=24) rfl (p:=1) rfl jp g6 (ws:=[.int .i64 0,.int .i64 0,.slice none ([]:List Int).length 0]) rfl (br hS (t:=5) (v:= .int .i64 30) rfl (aY (E:=EV) (s:=s))))
 replace hS:=hS.drop
 replace hS:=hS.drop
 cases h
 exact fin hS (.inr rfl) hres (v:= .tuple #[.agg #[.int .i64 0,.int .i64 0,.slice none ([]:List Int).length 0],.int .i64 30]) rfl ⟨_,_,((FLe.trans hF9 hF27)),rfl,rfl,Frz.nil⟩
noncomputable def g_2n.b0 (pA:List Int) (pE:List Int) (x2:Int):Option ((Int)⊕((Int)⊕(Bool))) :=
  (if(decide (x2<(pA.length:Int))) then(if 0≤x2∧x2<(pA.length:Int) then(if 0≤x2∧x2<(pE.length:Int) then(if((gt pA x2) != (gt pE x2)) then some (.inr (.inr false)) else some (.inl (w64 (x2+1)))) else none) else none) else some (.inr (.inl x2)))
noncomputable def g_2n.f (pA:List Int) (pE:List Int):Option (Bool) :=
  (if((pA.length:Int) != (pE.length:Int)) then some false else Option.bind (iter (g_2n.b0 pA pE) 0) fun o3=>cu o3 fun y26=>some true)
theorem g_2n.ok {aC:Option Addr} {zD:Nat} {aI:Option Addr} {zJ:Nat} {pA:List Int} {pE:List Int} {F:FZ} {r:Bool} (h:g_2n.f pA pE=some r) (hE:Frz (elI .i64 3) F aC zD pA) (hK:Frz (elI .i64 3) F aI zJ pE) :
    Cl EV 47 [.slice aC pA.length zD,.slice aI pE.length zJ] [] F (fun v S' F'=>F=F'∧v= .bool r∧S'= []):=by
 refine Cl.of Tryz.func47 rfl (fun _ _=>rfl) (by kernel_rfl) fun s L nx0 hS=>?_
 unfold g_2n.f at h
 refine WW.seq (WW.region ?_)
 refine sg0 hS 1 [] [4] [.bool false] [] (by kernel_rfl) fun s hS=>(KW.nil ?_)
 refine WW.seq (WW.seq ?_)
 refine WW.region (sg0 hS 5 [] [10] [.bool ((pA.length:Int) != (pE.length:Int))] [] (by kernel_rfl) fun s hS=>?_)
 refine KW.nil (bc h (fun hc1 h=>?_) fun hc1 h=>?_)
 refine WW.condK hS rfl hc1 (WW.seq ?_)
 refine WW.region (sg0 hS 1 [] [4] [.bool false] [] (by kernel_rfl) fun s hS=>?_)
 refine KW.nil (WW.ret ?_)
 cases h
 exact ax hS (.inr rfl) 4 rfl rfl ⟨rfl,rfl,rfl⟩
 refine WW.condF hS rfl hc1 (WW.skip ?_)
 refine WW.seq (WW.seq ?_)
 refine WW.region (sg0 hS 3 [] [12,13] [.int .i64 (pA.length:Int),.int .i64 0] [] (by kernel_rfl) fun s hS=>?_)
 refine KW.nil (WW.block ?_)
 obtain⟨o3,ho3,h⟩:=bind_some h
 refine WW.loop (LW.iterS ho3 (fun(x2:Int) s=>Stt EV s [(0,.slice aC pA.length zD),(1,.slice aI pE.length zJ),(4,.bool false),(12,.int .i64 (pA.length:Int)),(13,.int .i64 x2)] [] F L F nx0) 0 (fun r=>ej EV Tryz.f47 L F nx0 (fun v S' F'=>F=F'∧v= .bool r∧S'= [])) (hS.subR rfl) ?_ ?_)
 clear hS
 rintro x2 s hS o3' h5
 unfold g_2n.b0 at h5
 refine WW.seq (WW.region ?_)
 refine sg0 hS 1 [] [14] [.bool (decide (x2<(pA.length:Int)))] [] (by kernel_rfl) fun s hS=>(KW.nil ?_)
 refine WW.seq (bc h5 (fun hc6 h5=>?_) fun hc6 h5=>?_)
 refine WW.condK hS rfl hc6 (WW.skip ?_)
 refine WW.seq (WW.block ?_)
 refine WW.seq (WW.region ?_)
 refine sg0 hS 2 [] [5] [.int .i64 x2] [] (by kernel_rfl) fun s hS=>(KW.nil ?_)
 refine WW.seq (WW.regionD (i:=[[],[0],[],[],[3,2,1,0],[4,3,2,1,0],[3,2,1,0],[3,2,1,0],[]]) (by kernel_rfl) ?_)
 have hq:=RS.start []
 refine kg hS hq 2 [16,17] [.slice aC pA.length zD,.int .i64 x2] (by kernel_rfl) fun s rs hS hq=>?_
 obtain⟨hk7,h5⟩:=ac h5
 obtain⟨i13,of14,rfl⟩:=Frz.addr hE (by omega)
 obtain⟨_,_,_,_,c8,hF15,hR9,hN10,hN11,hT12⟩:=Frz.at hE hk7 (m:=1) rfl
 obtain rfl:=hR9
 refine K.pu hS hq rfl (wn rfl) rfl rfl rfl (v:= .pointer (some ⟨i13,of14+(x2).toNat*1,none⟩)) (aF (hS.lk rfl) (hS.lk rfl) dj hk7) fun s rs hS hq=>?_
 replace hq:=hq.more i13 rfl rfl rfl
 refine K.ld hS hq rfl (wn rfl) rfl rfl rfl (hS.fat hF15) tg3 (v:= .int .i64 (gt pA x2)) hN10 0 rfl rfl fun s rs hS hq=>(kg hS hq 2 [20,21] [.slice aI pE.length zJ,.int .i64 x2] (by kernel_rfl) fun s rs hS hq=>?_)
 obtain⟨hk16,h5⟩:=ac h5
 obtain⟨i22,of23,rfl⟩:=Frz.addr hK (by omega)
 obtain⟨_,_,_,_,c17,hF24,hR18,hN19,hN20,hT21⟩:=Frz.at hK hk16 (m:=1) rfl
 obtain rfl:=hR18
 refine K.pu hS hq rfl (wn rfl) rfl rfl rfl (v:= .pointer (some ⟨i22,of23+(x2).toNat*1,none⟩)) (aF (hS.lk rfl) (hS.lk rfl) dj hk16) fun s rs hS hq=>?_
 replace hq:=hq.more i22 rfl rfl rfl
 refine K.ld hS hq rfl (wn rfl) rfl rfl rfl (hS.fat hF24) tg3 (v:= .int .i64 (gt pE x2)) hN19 1 rfl rfl fun s rs hS hq=>(kg hS hq 1 [24] [.bool ((gt pA x2) != (gt pE x2))] (by kernel_rfl) fun s rs hS hq=>?_)
 refine KW.nil (bc h5 (fun hc25 h5=>?_) fun hc25 h5=>?_)
 refine WW.condK hS rfl hc25 (WW.seq ?_)
 refine WW.region (sg0 hS 1 [] [4] [.bool false] [] (by kernel_rfl) fun s hS=>?_)
 refine KW.nil (WW.ret ?_)
 cases h5
 exact⟨_,rfl,rfl,ax hS (.inr rfl) 4 rfl rfl ⟨rfl,rfl,rfl⟩⟩
 refine WW.condF hS rfl hc25 (WW.skip ?_)
 refine WW.region (sg0 hS 2 [] [13] [.int .i64 (w64 (x2+1))] [] (by kernel_rfl) fun s hS=>?_)
 refine KW.nil ?_
 obtain rfl:=Option.some.inj h5
 exact⟨_,rfl,(hS.subR rfl)⟩
 refine WW.condF hS rfl hc6 (WW.exit ?_)
 refine ae ?_
 obtain rfl:=Option.some.inj h5
 exact⟨_,rfl,rfl,(hS.subR rfl)⟩
 clear hS
 rcases o3 with y26 | y26
 rintro e s ⟨rfl,hS⟩
 replace h:=bp h
 refine af (WW.seq ?_)
 refine WW.region (sg0 hS 1 [] [4] [.bool true] [] (by kernel_rfl) fun s hS=>?_)
 refine KW.nil (WW.ret ?_)
 cases h
 exact ax hS (.inr rfl) 4 rfl rfl ⟨rfl,rfl,rfl⟩
 rintro e s ⟨rfl,hfin⟩
 replace h:=bq h
 obtain rfl:=Option.some.inj h
 exact hfin
noncomputable def g_9.f (pA:Int) (pB:Int) (pC:List Int) (pJ:Int) (pK:Int) (pM:List Int):Option (Bool) :=
  Option.bind ((if((pA==pJ)&&(pB==pK)) then Option.bind (g_2n.f pC pM) fun y4=>some y4 else some false)) fun z2=>some z2
theorem g_9.ok {aE:Option Addr} {zH:Nat} {iJ:Nat} {aO:Option Addr} {zP:Nat} {pA:Int} {pB:Int} {pC:List Int} {pJ:Int} {pK:Int} {pM:List Int} {F:FZ} {r:Bool} (h:g_9.f pA pB pC pJ pK pM=some r) (hI:Frz (elI .i64 3) F aE zH pC) (hT:Frz (elI .i64 3) F aO zP pM) :
    Cl EV 46 [.agg #[.int .i64 pA,.int .i64 pB,.slice aE pC.length zH],.pointer (some ⟨iJ,0,none⟩)] [[(iJ,.row [.int .i64 pJ,.int .i64 pK,.slice aO pM.length zP] 24 0 true)]] F (fun v S' F'=>F=F'∧v= .bool r∧S'= [[(iJ,.row [.int .i64 pJ,.int .i64 pK,.slice aO pM.length zP] 24 0 true)]]):=by
 refine Cl.of Tryz.func46 rfl (fun _ _=>rfl) (by kernel_rfl) fun s L nx0 hS=>?_
 unfold g_9.f at h
 refine WW.seq (WW.region ?_)
 refine bA hS (wn rfl) rfl rfl rfl (v:=fun i=> .pointer (some ⟨i,0,none⟩)) (b:= .row [.int .i64 pA,.int .i64 pB,.slice aE pC.length zH] 24 0 true) (co (hS.lk rfl) rfl [.int .i64 pA,.int .i64 pB,.slice aE pC.length zH] rfl) fun s i1 hS=>(sg0 hS 1 [] [3] [.bool false] [] (by kernel_rfl) fun s hS=>?_)
 refine KW.nil (WW.seq ?_)
 refine WW.region (sg0 hS 6 [0,1] [9] [.bool (pA==pJ)] [i1,iJ] (by kernel_rfl) fun s hS=>?_)
 refine ay 6 (fun s=>Stt EV s [(15,.bool ((pA==pJ)&&(pB==pK))),(1,.pointer (some ⟨iJ,0,none⟩)),(2,.pointer (some ⟨i1,0,none⟩)),(3,.bool false)] [[(i1,.row [.int .i64 pA,.int .i64 pB,.slice aE pC.length zH] 24 0 true)],[(iJ,.row [.int .i64 pJ,.int .i64 pK,.slice aO pM.length zP] 24 0 true)]] F L F nx0) ?_ fun s hS=>?_
 rcases aj ((pA==pJ)) with hcj | hcj
 replace hS:=hS.know (t:=9) rfl (congrArg Value.bool hcj)
 refine sg0 hS 6 [0,1] [15] [.bool (pB==pK)] [i1,iJ] (by kernel_rfl) fun s hS=>(KW.nil ?_)
 exact(hS.know (t:=15) (u':= .bool ((pA==pJ)&&(pB==pK))) rfl (aJ hcj)).subR rfl
 replace hS:=hS.know (t:=9) rfl (congrArg Value.bool hcj)
 refine sg0 hS 6 [] [15] [.bool false] [] (by kernel_rfl) fun s hS=>(KW.nil ?_)
 exact(hS.know (t:=15) (u':= .bool ((pA==pJ)&&(pB==pK))) rfl (aL hcj)).subR rfl
 refine sg0 hS 1 [] [16] [.bool ((pA==pJ)&&(pB==pK))] [] (by kernel_rfl) fun s hS=>?_
 obtain⟨z2,hz2,h⟩:=bind_some h
 refine ay 6 (fun s=>Stt EV s [(22,.bool z2),(3,.bool false)] [[(i1,.row [.int .i64 pA,.int .i64 pB,.slice aE pC.length zH] 24 0 true)],[(iJ,.row [.int .i64 pJ,.int .i64 pK,.slice aO pM.length zP] 24 0 true)]] F L F nx0) ?_ fun s hS=>?_
 refine bc hz2 (fun hc3 hz2=>?_) fun hc3 hz2=>?_
 replace hS:=hS.kb 15 hc3 rfl
 replace hS:=hS.kb 16 hc3 rfl
 refine sg0 hS 4 [0,1] [18,20] [.slice aE pC.length zH,.slice aO pM.length zP] [i1,iJ] (by kernel_rfl) fun s hS=>?_
 obtain⟨y4,hy4,hz2⟩:=bind_some hz2
 refine bu hS (wt hS rfl rfl rfl rfl) (vs:=[.slice aE pC.length zH,.slice aO pM.length zP]) (ws:=[.slice aE pC.length zH,.slice aO pM.length zP]) rfl rfl rfl rfl rfl 0 rfl (g_2n.ok hy4 hI hT) fun s v S' F' hp5 hF hS=>?_
 obtain⟨rfl,rfl,rfl⟩:=hp5
 refine sg0 hS 1 [] [22] [.bool y4] [] (by kernel_rfl) fun s hS=>(KW.nil ?_)
 obtain rfl:=Option.some.inj hz2
 exact hS.subR rfl
 replace hS:=hS.kb 15 hc3 rfl
 replace hS:=hS.kb 16 hc3 rfl
 refine sg0 hS 6 [] [22] [.bool false] [] (by kernel_rfl) fun s hS=>(KW.nil ?_)
 obtain rfl:=Option.some.inj hz2
 exact hS.subR rfl
 refine sg0 hS 1 [] [3] [.bool z2] [] (by kernel_rfl) fun s hS=>(KW.nil ?_)
 refine WW.ret ?_
 replace hS:=hS.drop
 cases h
 exact ax hS (.inr rfl) 3 rfl rfl ⟨rfl,rfl,rfl⟩
noncomputable def g_2p.b0 (pA:List (Int×Int×List Int)) (pH:Int) (pI:Int) (pJ:List Int) (x1:Int):Option ((Int)⊕((Int)⊕(Int))) :=
  (if(decide (x1<(pA.length:Int))) then(if 0≤x1∧x1<(pA.length:Int) then Option.bind (g_9.f ((gt pA x1).1) ((gt pA x1).2.1) ((gt pA x1).2.2) pH pI pJ) fun y18=>(if y18 then some (.inr (.inr x1)) else some (.inl (w64 (x1+1)))) else none) else some (.inr (.inl x1)))
noncomputable def g_2p.f (pA:List (Int×Int×List Int)) (pH:Int) (pI:Int) (pJ:List Int):Option (Int) :=
  Option.bind (iter (g_2p.b0 pA pH pI pJ) 0) fun o2=>cu o2 fun y21=>some (-1)
theorem g_2p.ok {aC:Option Addr} {zD:Nat} {iH:Nat} {aM:Option Addr} {zN:Nat} {pA:List (Int×Int×List Int)} {pH:Int} {pI:Int} {pJ:List Int} {F:FZ} {r:Int} (h:g_2p.f pA pH pI pJ=some r) (hE:Frz fM F aC zD pA) (hO:Frz (elI .i64 3) F aM zN pJ) :
    Cl EV 81 [.slice aC pA.length zD,.func (.func 46) #[] #[.pointer (some ⟨iH,0,none⟩)]] [[(iH,.row [.int .i64 pH,.int .i64 pI,.slice aM pJ.length zN] 24 0 true)]] F (fun v S' F'=>F=F'∧v= .int .i64 r∧S'= [[(iH,.row [.int .i64 pH,.int .i64 pI,.slice aM pJ.length zN] 24 0 true)]]):=by
 refine Cl.of Tryz.func81 rfl (fun _ _=>rfl) (by kernel_rfl) fun s L nx0 hS=>?_
 unfold g_2p.f at h
 refine WW.seq (WW.region ?_)
 refine sg0 hS 1 [] [4] [.int .i64 0] [] (by kernel_rfl) fun s hS=>(KW.nil ?_)
 refine WW.seq (WW.seq ?_)
 refine WW.region (sg0 hS 3 [] [7,8] [.int .i64 (pA.length:Int),.int .i64 0] [] (by kernel_rfl) fun s hS=>?_)
 refine KW.nil (WW.block ?_)
 obtain⟨o2,ho2,h⟩:=bind_some h
 refine WW.loop (LW.iterS ho2 (fun(x1:Int) s=>Stt EV s [(0,.slice aC pA.length zD),(1,.func (.func 46) #[] #[.pointer (some ⟨iH,0,none⟩)]),(4,.int .i64 0),(7,.int .i64 (pA.length:Int)),(8,.int .i64 x1)] [[(iH,.row [.int .i64 pH,.int .i64 pI,.slice aM pJ.length zN] 24 0 true)]] F L F nx0) 0 (fun r=>ej EV Tryz.f81 L F nx0 (fun v S' F'=>F=F'∧v= .int .i64 r∧S'= [[(iH,.row [.int .i64 pH,.int .i64 pI,.slice aM pJ.length zN] 24 0 true)]])) (hS.subR rfl) ?_ ?_)
 clear hS
 rintro x1 s hS o2' h4
 unfold g_2p.b0 at h4
 refine WW.seq (WW.region ?_)
 refine sg0 hS 1 [] [9] [.bool (decide (x1<(pA.length:Int)))] [] (by kernel_rfl) fun s hS=>(KW.nil ?_)
 refine WW.seq (bc h4 (fun hc5 h4=>?_) fun hc5 h4=>?_)
 refine WW.condK hS rfl hc5 (WW.skip ?_)
 refine WW.seq (WW.block ?_)
 refine WW.seq (WW.region ?_)
 refine sg0 hS 2 [] [5] [.int .i64 x1] [] (by kernel_rfl) fun s hS=>(KW.nil ?_)
 refine WW.seq (WW.region ?_)
 refine sg0 hS 3 [] [11,12,13] [.func (.func 46) #[] #[.pointer (some ⟨iH,0,none⟩)],.slice aC pA.length zD,.int .i64 x1] [] (by kernel_rfl) fun s hS=>?_
 obtain⟨hk6,h4⟩:=ac h4
 obtain⟨i12,of13,rfl⟩:=Frz.addr hE (by omega)
 obtain⟨_,_,_,_,c7,hF14,hR8,hN9,hN10,hT11⟩:=Frz.at hE hk6 (m:=3) rfl
 obtain⟨a15,z16,rfl,hz17⟩:=hR8
 refine aw hS (wn rfl) rfl rfl rfl (v:= .pointer (some ⟨i12,of13+(x1).toNat*3,none⟩)) (aF (hS.lk rfl) (hS.lk rfl) oT hk6) fun s hS=>(ja hS (wn rfl) rfl rfl rfl (hS.fat hF14) jp g6 (vs:=[.int .i64 ((gt pA x1).1),.int .i64 ((gt pA x1).2.1),.slice a15 ((gt pA x1).2.2).length z16]) hT11 fun s hS=>?_)
 obtain⟨y18,hy18,h4⟩:=bind_some h4
 refine cR (g_9.ok hy18 hz17 hO) hS 0 16 1 rfl (by kernel_rfl) fun s hS=>(KW.nil ?_)
 refine bc h4 (fun hc20 h4=>?_) fun hc20 h4=>?_
 refine WW.condK hS rfl hc20 (WW.seq ?_)
 refine WW.region (sg0 hS 2 [] [4] [.int .i64 x1] [] (by kernel_rfl) fun s hS=>?_)
 refine KW.nil (WW.ret ?_)
 cases h4
 exact⟨_,rfl,rfl,ax hS (.inr rfl) 4 rfl rfl ⟨rfl,rfl,rfl⟩⟩
 refine WW.condF hS rfl hc20 (WW.skip ?_)
 refine WW.region (sg0 hS 2 [] [8] [.int .i64 (w64 (x1+1))] [] (by kernel_rfl) fun s hS=>?_)
 refine KW.nil ?_
 obtain rfl:=Option.some.inj h4
 exact⟨_,rfl,(hS.subR rfl)⟩
 refine WW.condF hS rfl hc5 (WW.exit ?_)
 refine ae ?_
 obtain rfl:=Option.some.inj h4
 exact⟨_,rfl,rfl,(hS.subR rfl)⟩
 clear hS
 rcases o2 with y21 | y21
 rintro e s ⟨rfl,hS⟩
 replace h:=bp h
 refine af (WW.seq ?_)
 refine WW.region (sg0 hS 1 [] [4] [.int .i64 (-1)] [] (by kernel_rfl) fun s hS=>?_)
 refine KW.nil (WW.ret ?_)
 cases h
 exact ax hS (.inr rfl) 4 rfl rfl ⟨rfl,rfl,rfl⟩
 rintro e s ⟨rfl,hfin⟩
 replace h:=bq h
 obtain rfl:=Option.some.inj h
 exact hfin
noncomputable def g_2l.f (pA:List (Int×Int×List Int)) (pH:Int) (pI:Int) (pJ:List Int):Option (Bool) :=
  Option.bind (g_2p.f pA pH pI pJ) fun y1=>some (decide (y1≥0))
theorem g_2l.ok {aC:Option Addr} {zD:Nat} {iH:Nat} {aM:Option Addr} {zN:Nat} {pA:List (Int×Int×List Int)} {pH:Int} {pI:Int} {pJ:List Int} {F:FZ} {r:Bool} (h:g_2l.f pA pH pI pJ=some r) (hE:Frz fM F aC zD pA) (hO:Frz (elI .i64 3) F aM zN pJ) :
    Cl EV 48 [.slice aC pA.length zD,.func (.func 46) #[] #[.pointer (some ⟨iH,0,none⟩)]] [[(iH,.row [.int .i64 pH,.int .i64 pI,.slice aM pJ.length zN] 24 0 true)]] F (fun v S' F'=>F=F'∧v= .bool r∧S'= [[(iH,.row [.int .i64 pH,.int .i64 pI,.slice aM pJ.length zN] 24 0 true)]]):=by
 refine Cl.of Tryz.func48 rfl (fun _ _=>rfl) (by kernel_rfl) fun s L nx0 hS=>?_
 unfold g_2l.f at h
 refine WW.seq (WW.region ?_)
 refine sg0 hS 1 [] [4] [.bool false] [] (by kernel_rfl) fun s hS=>(KW.nil ?_)
 refine WW.seq (WW.region ?_)
 obtain⟨y1,hy1,h⟩:=bind_some h
 refine cR (g_2p.ok hy1 hE hO) hS 2 7 1 rfl (by kernel_rfl) fun s hS=>(sg0 hS 2 [] [4] [.bool (decide (y1≥0))] [] (by kernel_rfl) fun s hS=>?_)
 refine KW.nil (WW.ret ?_)
 cases h
 exact ax hS (.inr rfl) 4 rfl rfl ⟨rfl,rfl,rfl⟩
noncomputable def g_8.f (pA:List UInt8) (pB:Int) (pC:Int) (pD:List Int):Option (Int) :=
  Option.bind (g_e.f pA) fun y2=>(if(y2.2 != 0) then some y2.2 else Option.bind (g_28.f pB 0 43) fun y11=>(if(!y11) then some 15 else Option.bind (g_2l.f y2.1 pB pC pD) fun y17=>(if(!y17) then some 19 else some 0)))
theorem g_8.ok {aH:Option Addr} {zI:Nat} {pA:List UInt8} {pB:Int} {pC:Int} {pD:List Int} {F:FZ} {r:Int} (h:g_8.f pA pB pC pD=some r) (hJ:Frz (elI .i64 3) F aH zI pD) (hG:Gl F) :
    Cl EV 14 [aa pA,.agg #[.int .i64 pB,.int .i64 pC,.slice aH pD.length zI]] [] F (fun v S' F'=>FLe F F'∧v= .int .i64 r∧S'= []):=by
 refine Cl.of Tryz.func14 rfl (fun _ _=>rfl) (by kernel_rfl) fun s L nx0 hS=>?_
 unfold g_8.f at h
 refine WW.seq (WW.region ?_)
 refine bA hS (wn rfl) rfl rfl rfl (v:=fun i=> .pointer (some ⟨i,0,none⟩)) (b:= .row [.int .i64 pB,.int .i64 pC,.slice aH pD.length zI] 24 0 true) (co (hS.lk rfl) rfl [.int .i64 pB,.int .i64 pC,.slice aH pD.length zI] rfl) fun s i1 hS=>(sg0 hS 1 [] [4] [.int .i64 0] [] (by kernel_rfl) fun s hS=>?_)
 refine KW.nil (WW.seq ?_)
 refine WW.region ?_
 obtain⟨y2,hy2,h⟩:=bind_some h
 refine cK (g_e.ok hy2 hG) hS 1 10 0 rfl (by kernel_rfl) fun s v S' F4 hp3 hF hS=>?_
 obtain⟨a5,z6,B8,hF9,rfl,rfl,h7⟩:=hp3
 refine sg0 hS 5 [] [5,6] [.slice a5 y2.1.length z6,.int .i64 y2.2] [] (by kernel_rfl) fun s hS=>(KW.nil ?_)
 refine WW.seq (WW.seq ?_)
 refine WW.region (sg0 hS 2 [] [14] [.bool (y2.2 != 0)] [] (by kernel_rfl) fun s hS=>?_)
 refine KW.nil (bc h (fun hc10 h=>?_) fun hc10 h=>?_)
 refine WW.condK hS rfl hc10 (WW.seq ?_)
 refine WW.region (sg0 hS 2 [] [4] [.int .i64 y2.2] [] (by kernel_rfl) fun s hS=>?_)
 refine KW.nil (WW.ret ?_)
 replace hS:=hS.drop
 replace hS:=hS.drop
 cases h
 exact ax hS (.inr rfl) 4 rfl rfl ⟨(hF9),rfl,rfl⟩
 refine WW.condF hS rfl hc10 (WW.skip ?_)
 refine WW.seq (WW.seq ?_)
 refine WW.region (sg0 hS 2 [1] [17] [.int .i64 pB] [i1] (by kernel_rfl) fun s hS=>?_)
 obtain⟨y11,hy11,h⟩:=bind_some h
 refine bu hS (wn rfl) (vs:=[.int .i64 pB,.int .i64 0,.int .i64 43]) (ws:=[.int .i64 pB,.int .i64 0,.int .i64 43]) rfl rfl rfl rfl rfl 0 rfl (g_28.ok hy11) fun s v S' F' hp12 hF hS=>?_
 obtain⟨rfl,rfl,rfl⟩:=hp12
 refine sg0 hS 1 [] [19] [.bool (!y11)] [] (by kernel_rfl) fun s hS=>(KW.nil ?_)
 refine bc h (fun hc13 h=>?_) fun hc13 h=>?_
 refine WW.condK hS rfl hc13 (WW.seq ?_)
 refine WW.region (sg0 hS 1 [] [4] [.int .i64 15] [] (by kernel_rfl) fun s hS=>?_)
 refine KW.nil (WW.ret ?_)
 replace hS:=hS.drop
 replace hS:=hS.drop
 cases h
 exact ax hS (.inr rfl) 4 rfl rfl ⟨(hF9),rfl,rfl⟩
 refine WW.condF hS rfl hc13 (WW.skip ?_)
 refine WW.seq (WW.region ?_)
 refine aw hS (wn rfl) rfl rfl rfl (v:= .func (.func 46) #[] #[.pointer (some ⟨i1,0,none⟩)]) (cF (bb hS (vs:=[]) rfl) (bb hS (vs:=[.pointer (some ⟨i1,0,none⟩)]) rfl)) fun s hS=>(sg0 hS 1 [] [7] [.func (.func 46) #[] #[.pointer (some ⟨i1,0,none⟩)]] [] (by kernel_rfl) fun s hS=>?_)
 refine KW.nil (WW.seq ?_)
 refine WW.seq (WW.region ?_)
 obtain⟨F14,hF15,hS,hz16⟩:=hS.frzO h7
 obtain⟨y17,hy17,h⟩:=bind_some h
 refine cR (g_2l.ok hy17 hz16 (hJ.mono (FLe.trans hF9 hF15))) hS 2 23 1 rfl (by kernel_rfl) fun s hS=>(sg0 hS 1 [] [24] [.bool (!y17)] [] (by kernel_rfl) fun s hS=>?_)
 refine KW.nil (bc h (fun hc19 h=>?_) fun hc19 h=>?_)
 refine WW.condK hS rfl hc19 (WW.seq ?_)
 refine WW.region (sg0 hS 1 [] [4] [.int .i64 19] [] (by kernel_rfl) fun s hS=>?_)
 refine KW.nil (WW.ret ?_)
 replace hS:=hS.drop
 cases h
 exact ax hS (.inr rfl) 4 rfl rfl ⟨((FLe.trans hF9 hF15)),rfl,rfl⟩
 refine WW.condF hS rfl hc19 (WW.skip ?_)
 refine WW.seq (WW.region ?_)
 refine sg0 hS 1 [] [4] [.int .i64 0] [] (by kernel_rfl) fun s hS=>(KW.nil ?_)
 refine WW.ret ?_
 replace hS:=hS.drop
 cases h
 exact ax hS (.inr rfl) 4 rfl rfl ⟨((FLe.trans hF9 hF15)),rfl,rfl⟩
noncomputable def g_3a.f (pB:Bool) (pC:List UInt8) (pK:List UInt8):Option (Int×Bool×List UInt8) :=
  Option.bind (g_copyCheck.f pB) fun y1=>(if pC.length+pK.length<1000000000 then some ((pK.length:Int),y1,(pC++pK)) else none)
theorem g_3a.ok {iB:Nat} {aE:Option Addr} {zH:Nat} {BJ:Seg} {pB:Bool} {pC:List UInt8} {pK:List UInt8} {F:FZ} {r:Int×Bool×List UInt8} (h:g_3a.f pB pC pK=some r) (hI:Own (elB 5) F aE zH pC BJ) (hnK:(pC= []→aE=none)) :
    Cl EV 49 [.pointer (some ⟨iB,0,none⟩),aa pK] [[(iB,.row [kx iB pB,.slice aE pC.length zH] 81 0 true)],BJ] F (fun v S' F'=> ∃(ra1:Option Addr) (rz2:Nat) (rB4:Seg),F=F'∧v= .tuple #[.int .i64 r.1,.nilIface]∧S'= [[(iB,.row [kx iB r.2.1,.slice ra1 r.2.2.length rz2] 81 0 true)],rB4]∧Own (elB 5) F' ra1 rz2 r.2.2 rB4∧(r.2.2= []→ra1=none)):=by
 refine Cl.of Tryz.func49 rfl (fun _ _=>rfl) (by kernel_rfl) fun s L nx0 hS=>?_
 unfold g_3a.f at h
 refine WW.seq (WW.region ?_)
 refine sg0 hS 2 [] [4,5] [.int .i64 0,.nilIface] [] (by kernel_rfl) fun s hS=>(KW.nil ?_)
 refine WW.seq (WW.region ?_)
 obtain⟨y1,hy1,h⟩:=bind_some h
 refine cR (g_copyCheck.ok hy1) hS 1 7 2 rfl (by kernel_rfl) fun s hS=>(KW.nil ?_)
 refine WW.seq (WW.region ?_)
 refine sg0 hS 6 [0] [8,12,13] [.pointer (some ⟨iB,0,none⟩),.slice aE pC.length zH,aa pK] [iB] (by kernel_rfl) fun s hS=>?_
 obtain⟨hk6,h⟩:=ac h
 replace hS:=hS.pull 1
 refine q_apS hS (wn rfl) (eb:=5) (lst:=pC) (m:=pK) rfl rfl ta79_9 rfl rfl hI hk6 hnK fun s a7 z8 B9 hO10 hn11 hS=>(sg hS 3 [1] [] [] [iB] [B9,[(iB,.row [kx iB y1,.slice a7 (pC++pK).length z8] 81 0 true)]] (by kernel_rfl) fun s hS=>?_)
 refine KW.nil (WW.seq ?_)
 refine WW.region (sg0 hS 4 [] [4,5] [.int .i64 (pK.length:Int),.nilIface] [] (by kernel_rfl) fun s hS=>?_)
 refine KW.nil (WW.ret ?_)
 replace hS:=hS.pull 1
 cases h
 exact bP hS (.inr rfl) 4 5 rfl rfl rfl ⟨_,_,_,rfl,rfl,rfl,hO10,hn11⟩
noncomputable def g_h.b0 (pA:List UInt8) (pD:List Int) (x8:Int×Int×Bool×List UInt8):Option ((Int×Int×Bool×List UInt8)⊕(Int×Int×Bool×List UInt8)) :=
  (if(decide (x8.2.1<(pD.length:Int))) then(if 0≤x8.2.1∧x8.2.1<(pD.length:Int) then(if 0≤x8.1∧x8.1≤(gt pD x8.2.1)∧(gt pD x8.2.1)≤(pA.length:Int) then(if(mid pA x8.1 (gt pD x8.2.1)).length+([32]:List UInt8).length<1000000000 then Option.bind (g_3a.f x8.2.2.1 x8.2.2.2 ((mid pA x8.1 (gt pD x8.2.1))++ [32])) fun y34=>some (.inl ((gt pD x8.2.1),(w64 (x8.2.1+1)),y34.2.1,y34.2.2)) else none) else none) else none) else some (.inr (x8.1,x8.2.1,x8.2.2.1,x8.2.2.2)))
noncomputable def g_h.f (pA:List UInt8) (pB:Int) (pC:Int) (pD:List Int):Option (List UInt8×Int) :=
  Option.bind (g_8.f pA pB pC pD) fun y2=>(if(y2 != 0) then some ([],y2) else Option.bind (iter (g_h.b0 pA pD) (0,0,false,([]:List UInt8))) fun o14=>Option.bind (g_BString.f o14.2.2.2) fun y46=>(if 0≤o14.1∧o14.1≤(pA.length:Int)∧(pA.length:Int)≤(pA.length:Int) then(if y46.length+(mid pA o14.1 (pA.length:Int)).length<1000000000 then some ((y46++(mid pA o14.1 (pA.length:Int))),0) else none) else none))
theorem g_h.ok {aH:Option Addr} {zI:Nat} {pA:List UInt8} {pB:Int} {pC:Int} {pD:List Int} {F:FZ} {r:List UInt8×Int} (h:g_h.f pA pB pC pD=some r) (hJ:Frz (elI .i64 3) F aH zI pD) (hG:Gl F) :
    Cl EV 15 [aa pA,.agg #[.int .i64 pB,.int .i64 pC,.slice aH pD.length zI]] [] F (fun v S' F'=>FLe F F'∧v= .tuple #[aa r.1,.int .i64 r.2]∧S'= []):=by
 refine Cl.of Tryz.func15 rfl (fun _ _=>rfl) (by kernel_rfl) fun s L nx0 hS=>?_
 unfold g_h.f at h
 refine WW.seq (WW.region ?_)
 refine bA hS (wn rfl) rfl rfl rfl (v:=fun i=> .pointer (some ⟨i,0,none⟩)) (b:= .row [.int .i64 pB,.int .i64 pC,.slice aH pD.length zI] 24 0 true) (co (hS.lk rfl) rfl [.int .i64 pB,.int .i64 pC,.slice aH pD.length zI] rfl) fun s i1 hS=>(sg0 hS 2 [] [4,5] [aa ([]),.int .i64 0] [] (by kernel_rfl) fun s hS=>?_)
 refine KW.nil (WW.seq ?_)
 refine WW.seq (WW.region ?_)
 refine sg0 hS 2 [0] [11,12] [aa pA,.agg #[.int .i64 pB,.int .i64 pC,.slice aH pD.length zI]] [i1] (by kernel_rfl) fun s hS=>?_
 obtain⟨y2,hy2,h⟩:=bind_some h
 refine bu hS (wn rfl) (vs:=[aa pA,.agg #[.int .i64 pB,.int .i64 pC,.slice aH pD.length zI]]) (ws:=[aa pA,.agg #[.int .i64 pB,.int .i64 pC,.slice aH pD.length zI]]) rfl rfl rfl rfl rfl 0 rfl (g_8.ok hy2 hJ hG) fun s v S' F4 hp3 hF hS=>?_
 obtain⟨hF5,rfl,rfl⟩:=hp3
 refine sg0 hS 1 [] [6] [.int .i64 y2] [] (by kernel_rfl) fun s hS=>(KW.nil ?_)
 refine WW.seq (WW.region ?_)
 refine sg0 hS 2 [] [15] [.bool (y2 != 0)] [] (by kernel_rfl) fun s hS=>(KW.nil ?_)
 refine bc h (fun hc6 h=>?_) fun hc6 h=>?_
 refine WW.condK hS rfl hc6 (WW.seq ?_)
 refine WW.region (sg0 hS 3 [] [4,5] [aa ([]),.int .i64 y2] [] (by kernel_rfl) fun s hS=>?_)
 refine KW.nil (WW.ret ?_)
 replace hS:=hS.drop
 cases h
 exact bP hS (.inr rfl) 4 5 rfl rfl rfl ⟨(hF5),rfl,rfl⟩
 refine WW.condF hS rfl hc6 (WW.skip ?_)
 refine WW.seq (WW.region ?_)
 refine bA hS (wn rfl) rfl rfl rfl (v:=fun i=> .pointer (some ⟨i,0,none⟩)) (b:= .row [.pointer none,.slice none 0 0] 81 0 true) (bf t0_81) fun s i7 hS=>(KW.nil ?_)
 refine WW.seq (WW.region ?_)
 refine sg0 hS 1 [] [8] [.int .i64 0] [] (by kernel_rfl) fun s hS=>(KW.nil ?_)
 refine WW.seq (WW.seq ?_)
 refine WW.region (sg0 hS 4 [1] [18,19,20] [.slice aH pD.length zI,.int .i64 (pD.length:Int),.int .i64 0] [i1] (by kernel_rfl) fun s hS=>?_)
 refine KW.nil (WW.block ?_)
 replace hS:=hS.gap0
 obtain⟨o14,ho14,h⟩:=bind_some h
 refine WW.loop (LW.iterE ho14 (fun(x8:Int×Int×Bool×List UInt8) s=> ∃(a9:Option Addr) (z10:Nat) (B12:Seg),Stt EV s [(0,aa pA),(4,aa ([])),(5,.int .i64 0),(7,.pointer (some ⟨i7,0,none⟩)),(8,.int .i64 x8.1),(18,.slice aH pD.length zI),(19,.int .i64 (pD.length:Int)),(20,.int .i64 x8.2.1)] [B12,[(i7,.row [kx i7 x8.2.2.1,.slice a9 x8.2.2.2.length z10] 81 0 true)],[(i1,.row [.int .i64 pB,.int .i64 pC,.slice aH pD.length zI] 24 0 true)]] F4 L F nx0∧Own (elB 5) F4 a9 z10 x8.2.2.2 B12∧(x8.2.2.2= []→a9=none)) 0 ⟨_,_,_,(hS.subR rfl),Own.nil,(fun _=>rfl)⟩ ?_ ?_)
 clear hS
 rintro x8 s ⟨a9,z10,B12,hS,h11,hn13⟩ o14' h21
 unfold g_h.b0 at h21
 refine WW.seq (WW.region ?_)
 refine sg0 hS 1 [] [21] [.bool (decide (x8.2.1<(pD.length:Int)))] [] (by kernel_rfl) fun s hS=>(KW.nil ?_)
 refine WW.seq (bc h21 (fun hc22 h21=>?_) fun hc22 h21=>?_)
 refine WW.condK hS rfl hc22 (WW.skip ?_)
 refine WW.seq (WW.block ?_)
 refine WW.seq (WW.region ?_)
 obtain⟨hk23,h21⟩:=ac h21
 obtain⟨i29,of30,rfl⟩:=Frz.addr hJ (by omega)
 obtain⟨_,_,_,_,c24,hF31,hR25,hN26,hN27,hT28⟩:=Frz.at (hJ.mono hF5) hk23 (m:=1) rfl
 obtain rfl:=hR25
 refine aw hS (wn rfl) rfl rfl rfl (v:= .pointer (some ⟨i29,of30+(x8.2.1).toNat*1,none⟩)) (aF (hS.lk rfl) (hS.lk rfl) dj hk23) fun s hS=>(eu hS (wn rfl) rfl rfl rfl (hS.fat hF31) tg3 (v:= .int .i64 (gt pD x8.2.1)) hN26 fun s hS=>?_)
 refine sg0 hS 1 [] [10] [.int .i64 (gt pD x8.2.1)] [] (by kernel_rfl) fun s hS=>(KW.nil ?_)
 refine WW.seq (WW.region ?_)
 refine sg0 hS 3 [] [24,25,26] [aa pA,.int .i64 x8.1,.int .i64 (gt pD x8.2.1)] [] (by kernel_rfl) fun s hS=>?_
 obtain⟨hk32,h21⟩:=ac h21
 refine aw hS (wn rfl) rfl rfl rfl (v:=aa (mid pA x8.1 (gt pD x8.2.1))) (cU tu9 (hS.lk rfl) (i:=x8.1) (j:=(gt pD x8.2.1)) (bF hS rfl) (bF hS rfl) hk32) fun s hS=>?_
 obtain⟨hk33,h21⟩:=ac h21
 refine aw hS (wn rfl) rfl rfl rfl (v:=aa ((mid pA x8.1 (gt pD x8.2.1))++ [32])) (bS (hS.lk rfl) (hS.lk rfl) hk33) fun s hS=>?_
 obtain⟨y34,hy34,h21⟩:=bind_some h21
 replace hS:=hS.pull 1
 refine cK (g_3a.ok hy34 h11 hn13) hS 0 29 2 rfl (by kernel_rfl) fun s v S' F' hp35 hF hS=>?_
 obtain⟨a36,z37,B39,rfl,rfl,rfl,h38,hn40⟩:=hp35
 refine KW.nil (WW.region ?_)
 refine sg0 hS 2 [] [8] [.int .i64 (gt pD x8.2.1)] [] (by kernel_rfl) fun s hS=>(KW.nil ?_)
 refine WW.region (sg0 hS 2 [] [20] [.int .i64 (w64 (x8.2.1+1))] [] (by kernel_rfl) fun s hS=>?_)
 refine KW.nil ?_
 replace hS:=hS.pull 2
 replace hS:=hS.pull 1
 replace hS:=hS.pull 2
 obtain rfl:=Option.some.inj h21
 exact⟨_,rfl,_,_,_,(hS.subR rfl),h38,hn40⟩
 refine WW.condF hS rfl hc22 (WW.exit ?_)
 refine ae ?_
 obtain rfl:=Option.some.inj h21
 exact⟨_,rfl,rfl,_,_,_,(hS.subR rfl),h11,hn13⟩
 clear hS
 rintro e s ⟨rfl,a41,z42,B44,hS,h43,hn45⟩
 refine af (WW.seq ?_)
 refine WW.regionD (i:=[[],[0],[1,0],[0],[],[],[]]) (by kernel_rfl) ?_
 have hq:=RS.start [i7,i1]
 obtain⟨y46,hy46,h⟩:=bind_some h
 replace hS:=hS.pull 1
 refine K.cl hS hq rfl (wn rfl) (vs:=[.pointer (some ⟨i7,0,none⟩)]) (ws:=[.pointer (some ⟨i7,0,none⟩)]) rfl rfl rfl rfl rfl 2 rfl (g_BString.ok hy46 h43 hn45)  [1] rfl rfl (aP rfl mm0 bn) fun s rs v S' F' hp47 hF hS hq=>?_
 obtain⟨rfl,rfl,rfl⟩:=hp47
 refine kg hS hq 2 [33,34] [aa pA,.int .i64 o14.1] (by kernel_rfl) fun s rs hS hq=>?_
 obtain⟨hk48,h⟩:=ac h
 refine K.pu hS hq rfl (wn rfl) rfl rfl rfl (v:=aa (mid pA o14.1 (pA.length:Int))) (cU tu9 (hS.lk rfl) (i:=o14.1) (j:=(pA.length:Int)) (bF hS rfl) rfl hk48) fun s rs hS hq=>?_
 obtain⟨hk49,h⟩:=ac h
 refine K.pu hS hq rfl (wn rfl) rfl rfl rfl (v:=aa (y46++(mid pA o14.1 (pA.length:Int)))) (bS (hS.lk rfl) (hS.lk rfl) hk49) fun s rs hS hq=>(kg hS hq 2 [4,5] [aa (y46++(mid pA o14.1 (pA.length:Int))),.int .i64 0] (by kernel_rfl) fun s rs hS hq=>?_)
 refine KW.nil (WW.ret ?_)
 replace hS:=hS.drop
 cases h
 exact bP hS (.inr rfl) 4 5 rfl rfl rfl ⟨(hF5),rfl,rfl⟩
noncomputable def g_g.f (pA:Int) (pB:List UInt8) (pD:List UInt8) (pH:Int) (pJ:Int):Option (Int×Int) :=
  Option.bind (g_22.f pD) fun y1=>Option.bind (g_20.f y1.1 y1.2.1 y1.2.2.1 y1.2.2.2.1 y1.2.2.2.2 pB) fun y13=>(if(y13.2.2&&(decide ((pB.length:Int)>pH))) then some ((pB.length:Int),pA) else some (pH,pJ))
theorem g_g.ok {iD:Nat} {iH:Nat} {iJ:Nat} {pA:Int} {pB:List UInt8} {pD:List UInt8} {pH:Int} {pJ:Int} {F:FZ} {r:Int×Int} (h:g_g.f pA pB pD pH pJ=some r) (hG:Gl F) :
    Cl EV 56 [.int .i64 pA,aa pB,.pointer (some ⟨iD,0,none⟩),.pointer (some ⟨iH,0,none⟩),.pointer (some ⟨iJ,0,none⟩)] [[(iD,.row [aa pD] 9 0 true)],[(iH,.row [.int .i64 pH] 3 0 true)],[(iJ,.row [.int .i64 pJ] 3 0 true)]] F (fun v S' F'=>FLe F F'∧v= .tuple #[]∧S'= [[(iD,.row [aa pD] 9 0 true)],[(iH,.row [.int .i64 r.1] 3 0 true)],[(iJ,.row [.int .i64 r.2] 3 0 true)]]):=by
 refine Cl.of Tryz.func56 rfl (fun _ _=>rfl) (by kernel_rfl) fun s L nx0 hS=>?_
 unfold g_g.f at h
 refine WW.seq (WW.region ?_)
 refine sg0 hS 1 [0] [8] [aa pD] [iD] (by kernel_rfl) fun s hS=>?_
 obtain⟨y1,hy1,h⟩:=bind_some h
 refine bu hS (wn rfl) (vs:=[aa pD]) (ws:=[aa pD]) rfl rfl rfl rfl rfl 0 rfl (g_22.ok hy1 hG) fun s v S' F3 hp2 hF hS=>?_
 obtain⟨i4,a5,z6,a8,z9,B11,hF12,rfl,rfl,h7,h10⟩:=hp2
 refine sg0 hS 1 [] [7] [.pointer (some ⟨i4,0,none⟩)] [] (by kernel_rfl) fun s hS=>(KW.nil ?_)
 refine WW.seq (WW.region ?_)
 obtain⟨y13,hy13,h⟩:=bind_some h
 refine cK (g_20.ok hy13 h7 h10) hS 2 12 2 rfl (by kernel_rfl) fun s v S' F' hp14 hF hS=>?_
 obtain⟨a15,z16,B18,rfl,rfl,rfl,h17⟩:=hp14
 refine KW.nil (WW.seq ?_)
 refine WW.region (sg0 hS 5 [0] [17] [.bool y13.2.2] [i4] (by kernel_rfl) fun s hS=>?_)
 refine ay 5 (fun s=>Stt EV s [(22,.bool (y13.2.2&&(decide ((pB.length:Int)>pH)))),(0,.int .i64 pA),(1,aa pB),(3,.pointer (some ⟨iH,0,none⟩)),(4,.pointer (some ⟨iJ,0,none⟩))] [[(i4,.row [aa y1.1,.slice a5 y1.2.1.length z6,.int .i64 y13.1,.slice a15 y13.2.1.length z16,.bool y13.2.2] 99 0 true)],B18,[(iD,.row [aa pD] 9 0 true)],[(iH,.row [.int .i64 pH] 3 0 true)],[(iJ,.row [.int .i64 pJ] 3 0 true)]] F3 L F nx0) ?_ fun s hS=>?_
 rcases aj (y13.2.2) with hcj | hcj
 replace hS:=hS.know (t:=17) rfl (congrArg Value.bool hcj)
 refine sg0 hS 5 [3] [22] [.bool (decide ((pB.length:Int)>pH))] [iH] (by kernel_rfl) fun s hS=>(KW.nil ?_)
 exact(hS.know (t:=22) (u':= .bool (y13.2.2&&(decide ((pB.length:Int)>pH)))) rfl (aJ hcj)).subR rfl
 replace hS:=hS.know (t:=17) rfl (congrArg Value.bool hcj)
 refine sg0 hS 5 [] [22] [.bool false] [] (by kernel_rfl) fun s hS=>(KW.nil ?_)
 exact(hS.know (t:=22) (u':= .bool (y13.2.2&&(decide ((pB.length:Int)>pH)))) rfl (aL hcj)).subR rfl
 refine KW.nil (bc h (fun hc19 h=>?_) fun hc19 h=>?_)
 refine WW.condK hS rfl hc19 (WW.region ?_)
 refine sg hS 5 [4,3] [] [] [iJ,iH] [[(i4,.row [aa y1.1,.slice a5 y1.2.1.length z6,.int .i64 y13.1,.slice a15 y13.2.1.length z16,.bool y13.2.2] 99 0 true)],B18,[(iD,.row [aa pD] 9 0 true)],[(iH,.row [.int .i64 (pB.length:Int)] 3 0 true)],[(iJ,.row [.int .i64 pA] 3 0 true)]] (by kernel_rfl) fun s hS=>(KW.nil ?_)
 replace hS:=hS.drop
 replace hS:=hS.drop
 cases h
 exact aG hS (.inl rfl) rfl ⟨(hF12),rfl,rfl⟩
 refine WW.condF hS rfl hc19 (WW.skip ?_)
 replace hS:=hS.drop
 replace hS:=hS.drop
 cases h
 exact aG hS (.inl rfl) rfl ⟨(hF12),rfl,rfl⟩
noncomputable def g_f.b1 (pA:List UInt8) (x15:Int×Int×Int) (y30:List (List UInt8)) (x36:Int×Int×Int):Option ((Int×Int×Int)⊕(Int×Int×Int)) :=
  (if(decide (x36.1<(y30.length:Int))) then(if 0≤x36.1∧x36.1<(y30.length:Int) then Option.bind (g_g.f x15.1 (gt y30 x36.1) pA x36.2.1 x36.2.2) fun y55=>some (.inl ((w64 (x36.1+1)),y55.1,y55.2)) else none) else some (.inr (x36.1,x36.2.1,x36.2.2)))
noncomputable def g_f.b0 (pA:List UInt8) (y13:List (List UInt8)) (x15:Int×Int×Int):Option ((Int×Int×Int)⊕(Int×Int×Int)) :=
  (if(decide (x15.1<44)) then(if 0≤x15.1∧x15.1<44∧x15.1<(y13.length:Int) then Option.bind (g_g.f x15.1 (gt y13 x15.1) pA x15.2.1 x15.2.2) fun y25=>(if(x15.1==28) then Option.bind (g_27.f) fun y30=>Option.bind (iter (g_f.b1 pA x15 y30) (0,y25.1,y25.2)) fun o39=>some (.inl ((w64 (x15.1+1)),o39.2.1,o39.2.2)) else some (.inl ((w64 (x15.1+1)),y25.1,y25.2))) else none) else some (.inr (x15.1,x15.2.1,x15.2.2)))
noncomputable def g_f.f (pA:List UInt8):Option (Int×Int) :=
  Option.bind (g_e.f pA) fun y2=>(if((y2.2 != 0)||(decide ((y2.1.length:Int)>0))) then some (0,y2.2) else Option.bind (g_29.f) fun y13=>Option.bind (iter (g_f.b0 pA y13) (0,0,(-1))) fun o18=>(if(o18.2.2==(-1)) then some (o18.2.2,6) else Option.bind (Option.bind (g_j.f pA) fun y67=>Option.bind ((if((o18.2.2==5)&&y67.2) then(if 0≤y67.1∧y67.1<(pA.length:Int) then Option.bind (g_k.f (gt pA y67.1)) fun y74=>some (!y74) else none) else some false)) fun z71=>(if z71 then some 6 else some o18.2.2)) fun z64=>some (z64,3)))
theorem g_f.ok {pA:List UInt8} {F:FZ} {r:Int×Int} (h:g_f.f pA=some r) (hG:Gl F) :
    Cl EV 26 [aa pA] [] F (fun v S' F'=>FLe F F'∧v= .tuple #[.int .i64 r.1,.int .i64 r.2]∧S'= []):=by
 refine Cl.of Tryz.func26 rfl (fun _ _=>rfl) (by kernel_rfl) fun s L nx0 hS=>?_
 unfold g_f.f at h
 refine WW.seq (WW.region ?_)
 refine bA hS (wn rfl) rfl rfl rfl (v:=fun i=> .pointer (some ⟨i,0,none⟩)) (b:= .row [aa pA] 9 0 true) (co (hS.lk rfl) rfl [aa pA] rfl) fun s i1 hS=>(sg0 hS 2 [] [2,3] [.int .i64 0,.int .i64 0] [] (by kernel_rfl) fun s hS=>?_)
 refine KW.nil (WW.seq ?_)
 refine WW.region (sg0 hS 1 [0] [16] [aa pA] [i1] (by kernel_rfl) fun s hS=>?_)
 obtain⟨y2,hy2,h⟩:=bind_some h
 refine bu hS (wn rfl) (vs:=[aa pA]) (ws:=[aa pA]) rfl rfl rfl rfl rfl 0 rfl (g_e.ok hy2 hG) fun s v S' F4 hp3 hF hS=>?_
 obtain⟨a5,z6,B8,hF9,rfl,rfl,h7⟩:=hp3
 refine sg0 hS 5 [] [4,5] [.slice a5 y2.1.length z6,.int .i64 y2.2] [] (by kernel_rfl) fun s hS=>(KW.nil ?_)
 refine WW.seq (WW.seq ?_)
 refine WW.region (sg0 hS 3 [] [22] [.bool (y2.2 != 0)] [] (by kernel_rfl) fun s hS=>?_)
 refine ay 4 (fun s=>Stt EV s [(26,.bool ((y2.2 != 0)||(decide ((y2.1.length:Int)>0)))),(1,.pointer (some ⟨i1,0,none⟩)),(2,.int .i64 0),(3,.int .i64 0),(5,.int .i64 y2.2)] [B8,[(i1,.row [aa pA] 9 0 true)]] F4 L F nx0) ?_ fun s hS=>?_
 rcases aj ((y2.2 != 0)) with hcj | hcj
 replace hS:=hS.know (t:=22) rfl (congrArg Value.bool hcj)
 refine sg0 hS 4 [] [26] [.bool true] [] (by kernel_rfl) fun s hS=>(KW.nil ?_)
 exact(hS.know (t:=26) (u':= .bool ((y2.2 != 0)||(decide ((y2.1.length:Int)>0)))) rfl (bH hcj)).subR rfl
 replace hS:=hS.know (t:=22) rfl (congrArg Value.bool hcj)
 refine sg0 hS 4 [] [26] [.bool (decide ((y2.1.length:Int)>0))] [] (by kernel_rfl) fun s hS=>(KW.nil ?_)
 exact(hS.know (t:=26) (u':= .bool ((y2.2 != 0)||(decide ((y2.1.length:Int)>0)))) rfl (bI hcj)).subR rfl
 refine KW.nil (bc h (fun hc10 h=>?_) fun hc10 h=>?_)
 refine WW.condK hS rfl hc10 (WW.seq ?_)
 refine WW.region (sg0 hS 3 [] [2,3] [.int .i64 0,.int .i64 y2.2] [] (by kernel_rfl) fun s hS=>?_)
 refine KW.nil (WW.ret ?_)
 replace hS:=hS.drop
 replace hS:=hS.drop
 cases h
 exact bP hS (.inr rfl) 2 3 rfl rfl rfl ⟨(hF9),rfl,rfl⟩
 refine WW.condF hS rfl hc10 (WW.skip ?_)
 refine WW.seq (WW.region ?_)
 refine bA hS (wn rfl) rfl rfl rfl (v:=fun i=> .pointer (some ⟨i,0,none⟩)) (b:= .row [.int .i64 0] 3 0 true) (bf gp) fun s i11 hS=>(bA hS (wn rfl) rfl rfl rfl (v:=fun i=> .pointer (some ⟨i,0,none⟩)) (b:= .row [.int .i64 0] 3 0 true) (bf gp) fun s i12 hS=>?_)
 refine sg hS 2 [1,0] [] [] [i11,i12] [[(i12,.row [.int .i64 0] 3 0 true)],[(i11,.row [.int .i64 (-1)] 3 0 true)],B8,[(i1,.row [aa pA] 9 0 true)]] (by kernel_rfl) fun s hS=>(KW.nil ?_)
 refine WW.seq (WW.region ?_)
 refine aw hS (wn rfl) rfl rfl rfl (v:= .func (.func 56) #[] #[.pointer (some ⟨i1,0,none⟩),.pointer (some ⟨i12,0,none⟩),.pointer (some ⟨i11,0,none⟩)]) (cF (bb hS (vs:=[]) rfl) (bb hS (vs:=[.pointer (some ⟨i1,0,none⟩),.pointer (some ⟨i12,0,none⟩),.pointer (some ⟨i11,0,none⟩)]) rfl)) fun s hS=>(sg0 hS 1 [] [8] [.func (.func 56) #[] #[.pointer (some ⟨i1,0,none⟩),.pointer (some ⟨i12,0,none⟩),.pointer (some ⟨i11,0,none⟩)]] [] (by kernel_rfl) fun s hS=>?_)
 refine KW.nil (WW.seq ?_)
 refine WW.seq (WW.region ?_)
 obtain⟨y13,hy13,h⟩:=bind_some h
 refine cR (g_29.ok hy13) hS 0 29 0 rfl (by kernel_rfl) fun s hS=>(sg0 hS 1 [] [30] [.int .i64 0] [] (by kernel_rfl) fun s hS=>?_)
 refine KW.nil (WW.block ?_)
 obtain⟨o18,ho18,h⟩:=bind_some h
 refine WW.loop (LW.iterE ho18 (fun(x15:Int×Int×Int) s=> ∃(F16:FZ),Stt EV s [(1,.pointer (some ⟨i1,0,none⟩)),(2,.int .i64 0),(3,.int .i64 0),(6,.pointer (some ⟨i11,0,none⟩)),(8,.func (.func 56) #[] #[.pointer (some ⟨i1,0,none⟩),.pointer (some ⟨i12,0,none⟩),.pointer (some ⟨i11,0,none⟩)]),(29,.agg (List.map aa y13).toArray),(30,.int .i64 x15.1)] [[(i12,.row [.int .i64 x15.2.1] 3 0 true)],[(i11,.row [.int .i64 x15.2.2] 3 0 true)],B8,[(i1,.row [aa pA] 9 0 true)]] F16 L F nx0∧FLe F4 F16) 0 ⟨_,(hS.subR rfl),(FLe.refl _)⟩ ?_ ?_)
 clear hS
 rintro x15 s ⟨F16,hS,hF17⟩ o18' h22
 unfold g_f.b0 at h22
 refine WW.seq (WW.region ?_)
 refine sg0 hS 1 [] [31] [.bool (decide (x15.1<44))] [] (by kernel_rfl) fun s hS=>(KW.nil ?_)
 refine WW.seq (bc h22 (fun hc23 h22=>?_) fun hc23 h22=>?_)
 refine WW.condK hS rfl hc23 (WW.skip ?_)
 refine WW.seq (WW.block ?_)
 refine WW.seq (WW.region ?_)
 refine sg0 hS 1 [] [32] [.int .i64 x15.1] [] (by kernel_rfl) fun s hS=>?_
 obtain⟨hk24,h22⟩:=ac h22
 refine aw hS (wn rfl) rfl rfl rfl (v:=aa (gt y13 x15.1)) (nF (f:=aa) (l:=y13) tv101 ts9 tl9 (fun _=>rfl) (hS.lk rfl) (hS.lk rfl) hk24) fun s hS=>(sg0 hS 2 [] [9,10] [.int .i64 x15.1,aa (gt y13 x15.1)] [] (by kernel_rfl) fun s hS=>?_)
 refine KW.nil (WW.seq ?_)
 refine WW.region ?_
 obtain⟨y25,hy25,h22⟩:=bind_some h22
 replace hS:=hS.pull 1
 replace hS:=hS.pull 1
 replace hS:=hS.pull 3
 refine cK (g_g.ok hy25 (hG.mono (FLe.trans hF9 hF17))) hS 3 37 3 rfl (by kernel_rfl) fun s v S' F27 hp26 hF hS=>?_
 obtain⟨hF28,rfl,rfl⟩:=hp26
 refine KW.nil (WW.seq ?_)
 refine WW.region (sg0 hS 2 [] [39] [.bool (x15.1==28)] [] (by kernel_rfl) fun s hS=>?_)
 refine KW.nil (bc h22 (fun hc29 h22=>?_) fun hc29 h22=>?_)
 refine WW.condK hS rfl hc29 (WW.seq ?_)
 refine WW.region ?_
 obtain⟨y30,hy30,h22⟩:=bind_some h22
 refine cK (g_27.ok hy30) hS 0 40 0 rfl (by kernel_rfl) fun s v S' F' hp31 hF hS=>?_
 obtain⟨a32,z33,B35,rfl,rfl,rfl,h34⟩:=hp31
 refine sg0 hS 2 [] [41,42] [.int .i64 (y30.length:Int),.int .i64 0] [] (by kernel_rfl) fun s hS=>(KW.nil ?_)
 refine WW.block ?_
 obtain⟨o39,ho39,h22⟩:=bind_some h22
 refine WW.loop (LW.iterE ho39 (fun(x36:Int×Int×Int) s=> ∃(F37:FZ),Stt EV s [(1,.pointer (some ⟨i1,0,none⟩)),(2,.int .i64 0),(3,.int .i64 0),(6,.pointer (some ⟨i11,0,none⟩)),(8,.func (.func 56) #[] #[.pointer (some ⟨i1,0,none⟩),.pointer (some ⟨i12,0,none⟩),.pointer (some ⟨i11,0,none⟩)]),(9,.int .i64 x15.1),(29,.agg (List.map aa y13).toArray),(30,.int .i64 x15.1),(40,.slice a32 y30.length z33),(41,.int .i64 (y30.length:Int)),(42,.int .i64 x36.1)] [B35,[(i1,.row [aa pA] 9 0 true)],[(i12,.row [.int .i64 x36.2.1] 3 0 true)],[(i11,.row [.int .i64 x36.2.2] 3 0 true)],B8] F37 L F nx0∧FLe F27 F37) 2 ⟨_,(hS.subR rfl),(FLe.refl _)⟩ ?_ ?_)
 clear hS
 rintro x36 s ⟨F37,hS,hF38⟩ o39' h43
 unfold g_f.b1 at h43
 refine WW.seq (WW.region ?_)
 refine sg0 hS 1 [] [43] [.bool (decide (x36.1<(y30.length:Int)))] [] (by kernel_rfl) fun s hS=>(KW.nil ?_)
 refine WW.seq (bc h43 (fun hc44 h43=>?_) fun hc44 h43=>?_)
 refine WW.condK hS rfl hc44 (WW.skip ?_)
 refine WW.seq (WW.block ?_)
 refine WW.seq (WW.region ?_)
 obtain⟨hk45,h43⟩:=ac h43
 obtain⟨i51,cs52,ex53,rfl,rfl,rfl,hC54⟩:=Own.some_ h34 (by omega)
 obtain⟨c46,hR47,hN49,hN48,hT50⟩:=ai.loadF (hC54.mono hF38) ex53 hk45 (z:=1) rfl
 obtain rfl:=hR47
 refine aw hS (wn rfl) rfl rfl rfl (v:= .pointer (some ⟨i51,0+(x36.1).toNat*1,none⟩)) (aF (hS.lk rfl) (hS.lk rfl) tc hk45) fun s hS=>(eu hS (wn rfl) rfl rfl rfl (hS.at (k:=0) rfl) tg9 (v:=aa (gt y30 x36.1)) hN48 fun s hS=>?_)
 refine sg0 hS 1 [] [12] [aa (gt y30 x36.1)] [] (by kernel_rfl) fun s hS=>(KW.nil ?_)
 refine WW.region ?_
 obtain⟨y55,hy55,h43⟩:=bind_some h43
 replace hS:=hS.pull 3
 replace hS:=hS.pull 3
 replace hS:=hS.pull 3
 refine cK (g_g.ok hy55 (hG.mono (FLe.trans hF9 (FLe.trans hF17 (FLe.trans hF28 hF38))))) hS 3 49 3 rfl (by kernel_rfl) fun s v S' F57 hp56 hF hS=>?_
 obtain⟨hF58,rfl,rfl⟩:=hp56
 refine KW.nil (WW.region ?_)
 refine sg0 hS 2 [] [42] [.int .i64 (w64 (x36.1+1))] [] (by kernel_rfl) fun s hS=>(KW.nil ?_)
 replace hS:=hS.pull 4
 replace hS:=hS.pull 3
 replace hS:=hS.pull 3
 replace hS:=hS.pull 3
 replace hS:=hS.pull 4
 obtain rfl:=Option.some.inj h43
 exact⟨_,rfl,_,(hS.subR rfl),(FLe.trans hF38 hF58)⟩
 refine WW.condF hS rfl hc44 (WW.exit ?_)
 refine ae ?_
 obtain rfl:=Option.some.inj h43
 exact⟨_,rfl,rfl,_,(hS.subR rfl),hF38⟩
 clear hS
 rintro e s ⟨rfl,F59,hS,hF60⟩
 refine af (WW.region ?_)
 refine sg0 hS 2 [] [30] [.int .i64 (w64 (x15.1+1))] [] (by kernel_rfl) fun s hS=>(KW.nil ?_)
 replace hS:=hS.drop
 replace hS:=hS.pull 3
 replace hS:=hS.pull 3
 replace hS:=hS.pull 3
 obtain rfl:=Option.some.inj h22
 exact⟨_,rfl,_,(hS.subR rfl),(FLe.trans hF17 (FLe.trans hF28 hF60))⟩
 refine WW.condF hS rfl hc29 (WW.skip ?_)
 refine WW.region (sg0 hS 2 [] [30] [.int .i64 (w64 (x15.1+1))] [] (by kernel_rfl) fun s hS=>?_)
 refine KW.nil ?_
 replace hS:=hS.pull 3
 replace hS:=hS.pull 3
 replace hS:=hS.pull 3
 obtain rfl:=Option.some.inj h22
 exact⟨_,rfl,_,(hS.subR rfl),(FLe.trans hF17 hF28)⟩
 refine WW.condF hS rfl hc23 (WW.exit ?_)
 refine ae ?_
 obtain rfl:=Option.some.inj h22
 exact⟨_,rfl,rfl,_,(hS.subR rfl),hF17⟩
 clear hS
 rintro e s ⟨rfl,F61,hS,hF62⟩
 refine af (WW.seq ?_)
 refine WW.seq (WW.region ?_)
 refine sg0 hS 2 [1] [53] [.bool (o18.2.2==(-1))] [i11] (by kernel_rfl) fun s hS=>(KW.nil ?_)
 refine bc h (fun hc63 h=>?_) fun hc63 h=>?_
 refine WW.condK hS rfl hc63 (WW.seq ?_)
 refine WW.region (sg0 hS 3 [1] [2,3] [.int .i64 o18.2.2,.int .i64 6] [i11] (by kernel_rfl) fun s hS=>?_)
 refine KW.nil (WW.ret ?_)
 replace hS:=hS.drop
 replace hS:=hS.drop
 replace hS:=hS.drop
 replace hS:=hS.drop
 cases h
 exact bP hS (.inr rfl) 2 3 rfl rfl rfl ⟨((FLe.trans hF9 hF62)),rfl,rfl⟩
 refine WW.condF hS rfl hc63 (WW.skip ?_)
 obtain⟨z64,hz64,h⟩:=bind_some h
 refine WW.seqJ (fun s=> ∃(F65:FZ),Stt EV s [(2,.int .i64 0),(3,.int .i64 0),(6,.pointer (some ⟨i11,0,none⟩))] [[(i12,.row [.int .i64 o18.2.1] 3 0 true)],[(i11,.row [.int .i64 z64] 3 0 true)],B8,[(i1,.row [aa pA] 9 0 true)]] F65 L F nx0∧FLe F61 F65) ?_ ?_
 refine WW.seq (WW.region ?_)
 refine sg0 hS 1 [3] [56] [aa pA] [i1] (by kernel_rfl) fun s hS=>?_
 obtain⟨y67,hy67,hz64⟩:=bind_some hz64
 refine bu hS (wn rfl) (vs:=[aa pA]) (ws:=[aa pA]) rfl rfl rfl rfl rfl 0 rfl (g_j.ok hy67 (hG.mono (FLe.trans hF9 hF62))) fun s v S' F69 hp68 hF hS=>?_
 obtain⟨hF70,rfl,rfl⟩:=hp68
 refine sg0 hS 5 [] [13,14] [.int .i64 y67.1,.bool y67.2] [] (by kernel_rfl) fun s hS=>(KW.nil ?_)
 refine WW.seq (WW.region ?_)
 refine sg0 hS 3 [1] [62] [.bool (o18.2.2==5)] [i11] (by kernel_rfl) fun s hS=>(ay 2 (fun s=>Stt EV s [(64,.bool ((o18.2.2==5)&&y67.2)),(1,.pointer (some ⟨i1,0,none⟩)),(2,.int .i64 0),(3,.int .i64 0),(6,.pointer (some ⟨i11,0,none⟩)),(13,.int .i64 y67.1)] [[(i12,.row [.int .i64 o18.2.1] 3 0 true)],[(i11,.row [.int .i64 o18.2.2] 3 0 true)],B8,[(i1,.row [aa pA] 9 0 true)]] F69 L F nx0) ?_ fun s hS=>?_)
 rcases aj ((o18.2.2==5)) with hcj | hcj
 replace hS:=hS.know (t:=62) rfl (congrArg Value.bool hcj)
 refine sg0 hS 2 [] [64] [.bool y67.2] [] (by kernel_rfl) fun s hS=>(KW.nil ?_)
 exact(hS.know (t:=64) (u':= .bool ((o18.2.2==5)&&y67.2)) rfl (aJ hcj)).subR rfl
 replace hS:=hS.know (t:=62) rfl (congrArg Value.bool hcj)
 refine sg0 hS 2 [] [64] [.bool false] [] (by kernel_rfl) fun s hS=>(KW.nil ?_)
 exact(hS.know (t:=64) (u':= .bool ((o18.2.2==5)&&y67.2)) rfl (aL hcj)).subR rfl
 refine sg0 hS 1 [] [65] [.bool ((o18.2.2==5)&&y67.2)] [] (by kernel_rfl) fun s hS=>?_
 obtain⟨z71,hz71,hz64⟩:=bind_some hz64
 refine ay 6 (fun s=>Stt EV s [(71,.bool z71),(2,.int .i64 0),(3,.int .i64 0),(6,.pointer (some ⟨i11,0,none⟩))] [[(i12,.row [.int .i64 o18.2.1] 3 0 true)],[(i11,.row [.int .i64 o18.2.2] 3 0 true)],B8,[(i1,.row [aa pA] 9 0 true)]] F69 L F nx0) ?_ fun s hS=>?_
 refine bc hz71 (fun hc72 hz71=>?_) fun hc72 hz71=>?_
 replace hS:=hS.kb 64 hc72 rfl
 replace hS:=hS.kb 65 hc72 rfl
 refine sg0 hS 2 [3] [66,67] [aa pA,.int .i64 y67.1] [i1] (by kernel_rfl) fun s hS=>?_
 obtain⟨hk73,hz71⟩:=ac hz71
 refine aw hS (wt hS rfl rfl rfl rfl) rfl rfl rfl (v:=vB (gt pA y67.1)) (au tu9 (hS.lk rfl) (hS.lk rfl) hk73) fun s hS=>?_
 obtain⟨y74,hy74,hz71⟩:=bind_some hz71
 refine bu hS (wt hS rfl rfl rfl rfl) (vs:=[vB (gt pA y67.1)]) (ws:=[vB (gt pA y67.1)]) rfl rfl rfl rfl rfl 0 rfl (g_k.ok hy74) fun s v S' F' hp75 hF hS=>?_
 obtain⟨rfl,rfl,rfl⟩:=hp75
 refine sg0 hS 2 [] [71] [.bool (!y74)] [] (by kernel_rfl) fun s hS=>(KW.nil ?_)
 obtain rfl:=Option.some.inj hz71
 exact hS.subR rfl
 replace hS:=hS.kb 64 hc72 rfl
 replace hS:=hS.kb 65 hc72 rfl
 refine sg0 hS 6 [] [71] [.bool false] [] (by kernel_rfl) fun s hS=>(KW.nil ?_)
 obtain rfl:=Option.some.inj hz71
 exact hS.subR rfl
 refine KW.nil (bc hz64 (fun hc76 hz64=>?_) fun hc76 hz64=>?_)
 refine WW.condK hS rfl hc76 (WW.region ?_)
 refine sg hS 1 [1] [] [] [i11] [[(i12,.row [.int .i64 o18.2.1] 3 0 true)],[(i11,.row [.int .i64 6] 3 0 true)],B8,[(i1,.row [aa pA] 9 0 true)]] (by kernel_rfl) fun s hS=>(KW.nil ?_)
 obtain rfl:=Option.some.inj hz64
 exact⟨_,(hS.subR rfl),hF70⟩
 refine WW.condF hS rfl hc76 (WW.skip ?_)
 obtain rfl:=Option.some.inj hz64
 exact⟨_,(hS.subR rfl),hF70⟩
 rintro s ⟨F65,hS,hF66⟩
 refine WW.seq (WW.region ?_)
 refine sg0 hS 3 [1] [2,3] [.int .i64 z64,.int .i64 3] [i11] (by kernel_rfl) fun s hS=>(KW.nil ?_)
 refine WW.ret ?_
 replace hS:=hS.drop
 replace hS:=hS.drop
 replace hS:=hS.drop
 replace hS:=hS.drop
 cases h
 exact bP hS (.inr rfl) 2 3 rfl rfl rfl ⟨((FLe.trans hF9 (FLe.trans hF62 hF66))),rfl,rfl⟩
noncomputable def g_0.F (self:(List Int×List Int)→Option (Bool)) (pA:List Int) (pE:List Int):Option (Bool) :=
  (if(((pA.length:Int)==0)||((pE.length:Int)==0)) then some (decide ((pA.length:Int)<(pE.length:Int))) else(if 0≤(0:Int)∧(0:Int)<(pA.length:Int) then(if 0≤(0:Int)∧(0:Int)<(pE.length:Int) then(if(decide ((gt pA (0:Int))<(gt pE (0:Int)))) then some true else(if 0≤(0:Int)∧(0:Int)<(pA.length:Int) then(if 0≤(0:Int)∧(0:Int)<(pE.length:Int) then(if((gt pA (0:Int))==(gt pE (0:Int))) then(if 0≤(1:Int)∧(1:Int)≤(pA.length:Int)∧(pA.length:Int)≤(pA.length:Int) then(if 0≤(1:Int)∧(1:Int)≤(pE.length:Int)∧(pE.length:Int)≤(pE.length:Int) then Option.bind (self ((mid pA (1:Int) (pA.length:Int)),(mid pE (1:Int) (pE.length:Int)))) fun y44=>some y44 else none) else none) else some false) else none) else none)) else none) else none))
noncomputable def g_0.f (pA:List Int) (pE:List Int):Option (Bool):=ri (fun self (x:List Int×List Int)=>g_0.F self x.1 x.2) (pA,pE)
theorem g_0.okN (n:Nat): ∀{aC:Option Addr} {zD:Nat} {aI:Option Addr} {zJ:Nat} {pA:List Int} {pE:List Int} {F:FZ} {r:Bool} (h:dY (fun self (x:List Int×List Int)=>g_0.F self x.1 x.2) n (pA,pE)=some r) (hE:Frz (elI .i64 3) F aC zD pA) (hK:Frz (elI .i64 3) F aI zJ pE),
    Cl EV 74 [.slice aC pA.length zD,.slice aI pE.length zJ] [] F (fun v S' F'=>F=F'∧v= .bool r∧S'= []):=by
 induction n with
 | zero=>intros; rename_i h _; cases ‹dY _ 0 _=some _›
 | succ n ih =>
 intro aC zD aI zJ pA pE F r h hE hK
 refine Cl.of Tryz.func74 rfl (fun _ _=>rfl) (by kernel_rfl) fun s L nx0 hS=>?_
 replace h:g_0.F (dY (fun self (x:List Int×List Int)=>g_0.F self x.1 x.2) n) pA pE=some r:=h
 generalize hself:dY (fun self (x:List Int×List Int)=>g_0.F self x.1 x.2) n=self at h ih
 unfold g_0.F at h
 refine WW.seq (WW.region ?_)
 refine sg0 hS 1 [] [4] [.bool false] [] (by kernel_rfl) fun s hS=>(KW.nil ?_)
 refine WW.seq (WW.seq ?_)
 refine WW.region (sg0 hS 4 [] [8] [.bool ((pA.length:Int)==0)] [] (by kernel_rfl) fun s hS=>?_)
 refine ay 4 (fun s=>Stt EV s [(12,.bool (((pA.length:Int)==0)||((pE.length:Int)==0))),(0,.slice aC pA.length zD),(1,.slice aI pE.length zJ),(4,.bool false)] [] F L F nx0) ?_ fun s hS=>?_
 rcases aj (((pA.length:Int)==0)) with hcj | hcj
 replace hS:=hS.know (t:=8) rfl (congrArg Value.bool hcj)
 refine sg0 hS 4 [] [12] [.bool true] [] (by kernel_rfl) fun s hS=>(KW.nil ?_)
 exact(hS.know (t:=12) (u':= .bool (((pA.length:Int)==0)||((pE.length:Int)==0))) rfl (bH hcj)).subR rfl
 replace hS:=hS.know (t:=8) rfl (congrArg Value.bool hcj)
 refine sg0 hS 4 [] [12] [.bool ((pE.length:Int)==0)] [] (by kernel_rfl) fun s hS=>(KW.nil ?_)
 exact(hS.know (t:=12) (u':= .bool (((pA.length:Int)==0)||((pE.length:Int)==0))) rfl (bI hcj)).subR rfl
 refine KW.nil (bc h (fun hc1 h=>?_) fun hc1 h=>?_)
 refine WW.condK hS rfl hc1 (WW.seq ?_)
 refine WW.region (sg0 hS 6 [] [4] [.bool (decide ((pA.length:Int)<(pE.length:Int)))] [] (by kernel_rfl) fun s hS=>?_)
 refine KW.nil (WW.ret ?_)
 cases h
 exact ax hS (.inr rfl) 4 rfl rfl ⟨rfl,rfl,rfl⟩
 refine WW.condF hS rfl hc1 (WW.skip ?_)
 refine WW.seq (WW.regionD (i:=[[],[],[],[2,1,0],[2,1,0],[2,1,0],[],[],[],[],[],[10,9,8],[10,9,8],[10,9,8],[],[],[],[],[17,16],[17,16],[],[],[],[]]) (by kernel_rfl) ?_)
 have hq:=RS.start []
 refine kg hS hq 1 [18] [.slice aC pA.length zD] (by kernel_rfl) fun s rs hS hq=>?_
 obtain⟨hk2,h⟩:=ac h
 obtain⟨i8,of9,rfl⟩:=Frz.addr hE (by omega)
 obtain⟨_,_,_,_,c3,hF10,hR4,hN5,hN6,hT7⟩:=Frz.at hE hk2 (m:=1) rfl
 obtain rfl:=hR4
 refine K.pu hS hq rfl (wn rfl) rfl rfl rfl (v:= .pointer (some ⟨i8,of9+((0:Int)).toNat*1,none⟩)) (aF (hS.lk rfl) (hS.lk rfl) dj hk2) fun s rs hS hq=>?_
 replace hq:=hq.more i8 rfl rfl rfl
 refine K.ld hS hq rfl (wn rfl) rfl rfl rfl (hS.fat hF10) tg3 (v:= .int .i64 (gt pA (0:Int))) hN5 0 rfl rfl fun s rs hS hq=>(kg hS hq 1 [21] [.slice aI pE.length zJ] (by kernel_rfl) fun s rs hS hq=>?_)
 obtain⟨hk11,h⟩:=ac h
 obtain⟨i17,of18,rfl⟩:=Frz.addr hK (by omega)
 obtain⟨_,_,_,_,c12,hF19,hR13,hN14,hN15,hT16⟩:=Frz.at hK hk11 (m:=1) rfl
 obtain rfl:=hR13
 refine K.pu hS hq rfl (wn rfl) rfl rfl rfl (v:= .pointer (some ⟨i17,of18+((0:Int)).toNat*1,none⟩)) (aF (hS.lk rfl) (hS.lk rfl) dj hk11) fun s rs hS hq=>?_
 replace hq:=hq.more i17 rfl rfl rfl
 refine K.ld hS hq rfl (wn rfl) rfl rfl rfl (hS.fat hF19) tg3 (v:= .int .i64 (gt pE (0:Int))) hN14 1 rfl rfl fun s rs hS hq=>(kg hS hq 2 [25] [.bool (decide ((gt pA (0:Int))<(gt pE (0:Int))))] (by kernel_rfl) fun s rs hS hq=>?_)
 refine bc h (fun hc20 h=>?_) fun hc20 h=>?_
 replace hS:=hS.kb 25 hc20 rfl
 refine kg hS hq 8 [33] [undef] (by kernel_rfl) fun s rs hS hq=>(K.no hS hq rfl (wu hS rfl rfl rfl) rfl fun s rs hS hq=>?_)
 refine K.no hS hq rfl (wu hS rfl rfl rfl) rfl fun s rs hS hq=>(K.no hS hq rfl (wu hS rfl rfl rfl) rfl fun s rs hS hq=>?_)
 refine K.no hS hq rfl (wu hS rfl rfl rfl) rfl fun s rs hS hq=>(K.no hS hq rfl (wu hS rfl rfl rfl) rfl fun s rs hS hq=>?_)
 refine kg hS hq 3 [4] [.bool true] (by kernel_rfl) fun s rs hS hq=>(KW.nil ?_)
 refine WW.ret ?_
 cases h
 exact ax hS (.inr rfl) 4 rfl rfl ⟨rfl,rfl,rfl⟩
 replace hS:=hS.kb 25 hc20 rfl
 refine kg hS hq 1 [26] [.slice (some ⟨i8,of9,none⟩) pA.length zD] (by kernel_rfl) fun s rs hS hq=>?_
 obtain⟨hk21,h⟩:=ac h
 obtain⟨_,_,_,_,c22,hF27,hR23,hN24,hN25,hT26⟩:=Frz.at hE hk21 (m:=1) rfl
 obtain rfl:=hR23
 refine K.pu hS hq rfl (wt hS rfl rfl rfl rfl) rfl rfl rfl (v:= .pointer (some ⟨i8,of9+((0:Int)).toNat*1,none⟩)) (aF (hS.lk rfl) (hS.lk rfl) dj hk21) fun s rs hS hq=>(K.ld hS hq rfl (wt hS rfl rfl rfl rfl) rfl rfl rfl (hS.fat hF27) tg3 (v:= .int .i64 (gt pA (0:Int))) hN24 0 rfl rfl fun s rs hS hq=>?_)
 refine kg hS hq 1 [29] [.slice (some ⟨i17,of18,none⟩) pE.length zJ] (by kernel_rfl) fun s rs hS hq=>?_
 obtain⟨hk28,h⟩:=ac h
 obtain⟨_,_,_,_,c29,hF34,hR30,hN31,hN32,hT33⟩:=Frz.at hK hk28 (m:=1) rfl
 obtain rfl:=hR30
 refine K.pu hS hq rfl (wt hS rfl rfl rfl rfl) rfl rfl rfl (v:= .pointer (some ⟨i17,of18+((0:Int)).toNat*1,none⟩)) (aF (hS.lk rfl) (hS.lk rfl) dj hk28) fun s rs hS hq=>(K.ld hS hq rfl (wt hS rfl rfl rfl rfl) rfl rfl rfl (hS.fat hF34) tg3 (v:= .int .i64 (gt pE (0:Int))) hN31 1 rfl rfl fun s rs hS hq=>?_)
 refine kg hS hq 2 [33] [.bool ((gt pA (0:Int))==(gt pE (0:Int)))] (by kernel_rfl) fun s rs hS hq=>(bc h (fun hc35 h=>?_) fun hc35 h=>?_)
 replace hS:=hS.kb 33 hc35 rfl
 refine kg hS hq 1 [34] [.slice (some ⟨i8,of9,none⟩) pA.length zD] (by kernel_rfl) fun s rs hS hq=>?_
 obtain⟨hk36,h⟩:=ac h
 obtain⟨a37,he38,hz39⟩:=Frz.slice hE hk36 (m:=1) rfl
 refine K.pu hS hq rfl (wt hS rfl rfl rfl rfl) rfl rfl rfl (v:= .slice a37 (mid pA (1:Int) (pA.length:Int)).length zD) (fi dj (hS.lk rfl) (i:=(1:Int)) (h:=(pA.length:Int)) (bF hS rfl) rfl he38) fun s rs hS hq=>(kg hS hq 1 [36] [.slice (some ⟨i17,of18,none⟩) pE.length zJ] (by kernel_rfl) fun s rs hS hq=>?_)
 obtain⟨hk40,h⟩:=ac h
 obtain⟨a41,he42,hz43⟩:=Frz.slice hK hk40 (m:=1) rfl
 refine K.pu hS hq rfl (wt hS rfl rfl rfl rfl) rfl rfl rfl (v:= .slice a41 (mid pE (1:Int) (pE.length:Int)).length zJ) (fi dj (hS.lk rfl) (i:=(1:Int)) (h:=(pE.length:Int)) (bF hS rfl) rfl he42) fun s rs hS hq=>?_
 obtain⟨y44,hy44,h⟩:=bind_some h
 refine K.cl hS hq rfl (wt hS rfl rfl rfl rfl) (vs:=[.slice a37 (mid pA (1:Int) (pA.length:Int)).length zD,.slice a41 (mid pE (1:Int) (pE.length:Int)).length zJ]) (ws:=[.slice a37 (mid pA (1:Int) (pA.length:Int)).length zD,.slice a41 (mid pE (1:Int) (pE.length:Int)).length zJ]) rfl rfl rfl rfl rfl 0 rfl (ih hy44 hz39 hz43)  [0,1] rfl rfl (nD rfl hF27 (nD rfl hF34 bn)) fun s rs v S' F' hp45 hF hS hq=>?_
 obtain⟨rfl,rfl,rfl⟩:=hp45
 refine kg hS hq 3 [4] [.bool y44] (by kernel_rfl) fun s rs hS hq=>(KW.nil ?_)
 refine WW.ret ?_
 cases h
 exact ax hS (.inr rfl) 4 rfl rfl ⟨rfl,rfl,rfl⟩
 replace hS:=hS.kb 33 hc35 rfl
 refine kg hS hq 8 [4] [.bool false] (by kernel_rfl) fun s rs hS hq=>(KW.nil ?_)
 refine WW.ret ?_
 cases h
 exact ax hS (.inr rfl) 4 rfl rfl ⟨rfl,rfl,rfl⟩
theorem g_0.ok {aC:Option Addr} {zD:Nat} {aI:Option Addr} {zJ:Nat} {pA:List Int} {pE:List Int} {F:FZ} {r:Bool} (h:g_0.f pA pE=some r) (hE:Frz (elI .i64 3) F aC zD pA) (hK:Frz (elI .i64 3) F aI zJ pE) :
    Cl EV 74 [.slice aC pA.length zD,.slice aI pE.length zJ] [] F (fun v S' F'=>F=F'∧v= .bool r∧S'= []):=by
  obtain⟨n,hn⟩:=lG h
  exact g_0.okN n hn hE hK
noncomputable def g_1.f (pA:List Int) (pE:List Int):Option (Bool) :=
  Option.bind ((if((pA.length:Int)==(pE.length:Int)) then Option.bind (g_0.f pA pE) fun y3=>some (!y3) else some false)) fun z1=>Option.bind ((if z1 then Option.bind (g_0.f pE pA) fun y7=>some (!y7) else some false)) fun z5=>some z5
theorem g_1.ok {aC:Option Addr} {zD:Nat} {aI:Option Addr} {zJ:Nat} {pA:List Int} {pE:List Int} {F:FZ} {r:Bool} (h:g_1.f pA pE=some r) (hE:Frz (elI .i64 3) F aC zD pA) (hK:Frz (elI .i64 3) F aI zJ pE) :
    Cl EV 42 [.slice aC pA.length zD,.slice aI pE.length zJ] [] F (fun v S' F'=>F=F'∧v= .bool r∧S'= []):=by
 refine Cl.of Tryz.func42 rfl (fun _ _=>rfl) (by kernel_rfl) fun s L nx0 hS=>?_
 unfold g_1.f at h
 refine WW.seq (WW.region ?_)
 refine sg0 hS 1 [] [4] [.bool false] [] (by kernel_rfl) fun s hS=>(KW.nil ?_)
 refine WW.seq (WW.region ?_)
 refine sg0 hS 6 [] [10] [.bool ((pA.length:Int)==(pE.length:Int))] [] (by kernel_rfl) fun s hS=>?_
 obtain⟨z1,hz1,h⟩:=bind_some h
 refine ay 5 (fun s=>Stt EV s [(15,.bool z1),(0,.slice aC pA.length zD),(1,.slice aI pE.length zJ),(4,.bool false)] [] F L F nx0) ?_ fun s hS=>?_
 refine bc hz1 (fun hc2 hz1=>?_) fun hc2 hz1=>?_
 replace hS:=hS.kb 10 hc2 rfl
 refine sg0 hS 2 [] [11,12] [.slice aC pA.length zD,.slice aI pE.length zJ] [] (by kernel_rfl) fun s hS=>?_
 obtain⟨y3,hy3,hz1⟩:=bind_some hz1
 refine bu hS (wt hS rfl rfl rfl rfl) (vs:=[.slice aC pA.length zD,.slice aI pE.length zJ]) (ws:=[.slice aC pA.length zD,.slice aI pE.length zJ]) rfl rfl rfl rfl rfl 0 rfl (g_0.ok hy3 hE hK) fun s v S' F' hp4 hF hS=>?_
 obtain⟨rfl,rfl,rfl⟩:=hp4
 refine sg0 hS 2 [] [15] [.bool (!y3)] [] (by kernel_rfl) fun s hS=>(KW.nil ?_)
 obtain rfl:=Option.some.inj hz1
 exact hS.subR rfl
 replace hS:=hS.kb 10 hc2 rfl
 refine sg0 hS 5 [] [15] [.bool false] [] (by kernel_rfl) fun s hS=>(KW.nil ?_)
 obtain rfl:=Option.some.inj hz1
 exact hS.subR rfl
 refine sg0 hS 1 [] [16] [.bool z1] [] (by kernel_rfl) fun s hS=>?_
 obtain⟨z5,hz5,h⟩:=bind_some h
 refine ay 5 (fun s=>Stt EV s [(21,.bool z5),(4,.bool false)] [] F L F nx0) ?_ fun s hS=>?_
 refine bc hz5 (fun hc6 hz5=>?_) fun hc6 hz5=>?_
 replace hS:=hS.kb 15 hc6 rfl
 replace hS:=hS.kb 16 hc6 rfl
 refine sg0 hS 2 [] [17,18] [.slice aI pE.length zJ,.slice aC pA.length zD] [] (by kernel_rfl) fun s hS=>?_
 obtain⟨y7,hy7,hz5⟩:=bind_some hz5
 refine bu hS (wt hS rfl rfl rfl rfl) (vs:=[.slice aI pE.length zJ,.slice aC pA.length zD]) (ws:=[.slice aI pE.length zJ,.slice aC pA.length zD]) rfl rfl rfl rfl rfl 0 rfl (g_0.ok hy7 hK hE) fun s v S' F' hp8 hF hS=>?_
 obtain⟨rfl,rfl,rfl⟩:=hp8
 refine sg0 hS 2 [] [21] [.bool (!y7)] [] (by kernel_rfl) fun s hS=>(KW.nil ?_)
 obtain rfl:=Option.some.inj hz5
 exact hS.subR rfl
 replace hS:=hS.kb 15 hc6 rfl
 replace hS:=hS.kb 16 hc6 rfl
 refine sg0 hS 5 [] [21] [.bool false] [] (by kernel_rfl) fun s hS=>(KW.nil ?_)
 obtain rfl:=Option.some.inj hz5
 exact hS.subR rfl
 refine sg0 hS 1 [] [4] [.bool z5] [] (by kernel_rfl) fun s hS=>(KW.nil ?_)
 refine WW.ret ?_
 cases h
 exact ax hS (.inr rfl) 4 rfl rfl ⟨rfl,rfl,rfl⟩
noncomputable def g_2d.f:Option (Bool) :=
  Option.bind (g_b.f ([71,79,84,79,49,48]) false) fun y1=>Option.bind (g_e.f ([82,69,65,76,70,85,78,67,84,73,79,78,70,40,88,41])) fun y9=>Option.bind (g_b.f ([73,70,40,65,46,71,84,46,48,41,71,79,84,79,49,48]) false) fun y17=>Option.bind (g_h.f ([68,79,49,48,73,61,49,44,49,48]) 11 (-1) ([2,4]:List Int)) fun y30=>Option.bind (g_f.f ([67,65,76,76,49])) fun y34=>(if((y1.2.2.2==0)&&(y1.1==2)) then Option.bind (g_1.f y1.2.2.1 ([4]:List Int)) fun y44=>Option.bind ((if((y44&&(y9.2==0))&&((y9.1.length:Int)==2)) then(if 0≤(0:Int)∧(0:Int)<(y9.1.length:Int) then some (((gt y9.1 (0:Int)).1)==28) else none) else some false)) fun z46=>Option.bind ((if z46 then(if 0≤(1:Int)∧(1:Int)<(y9.1.length:Int) then some (((gt y9.1 (1:Int)).1)==40) else none) else some false)) fun z61=>some (((((((z61&&(y17.2.2.2==0))&&(y17.1==6))&&(y17.2.1==2))&&(y30.2==0))&&(decide (y30.1= [68,79,32,49,48,32,73,61,49,44,49,48])))&&(y34.2==3))&&(y34.1==14)) else some false)
theorem g_2d.ok  {F:FZ} {r:Bool} (h:g_2d.f=some r) (hG:Gl F) :
    Cl EV 11 [] [] F (fun v S' F'=>FLe F F'∧v= .bool r∧S'= []):=by
 refine Cl.of Tryz.func11 rfl (fun _ _=>rfl) (by kernel_rfl) fun s L nx0 hS=>?_
 unfold g_2d.f at h
 refine WW.seq (WW.region ?_)
 refine sg0 hS 1 [] [0] [.bool false] [] (by kernel_rfl) fun s hS=>(KW.nil ?_)
 refine WW.seq (WW.region ?_)
 obtain⟨y1,hy1,h⟩:=bind_some h
 refine cK (g_b.ok hy1 hG) hS 0 12 0 rfl (by kernel_rfl) fun s v S' F3 hp2 hF hS=>?_
 obtain⟨a4,z5,hF7,rfl,rfl,h6⟩:=hp2
 refine sg0 hS 3 [] [13,14] [.agg #[.int .i64 y1.1,.int .i64 y1.2.1,.slice a4 y1.2.2.1.length z5],.int .i64 y1.2.2.2] [] (by kernel_rfl) fun s hS=>(bA hS (wn rfl) rfl rfl rfl (v:=fun i=> .pointer (some ⟨i,0,none⟩)) (b:= .row [.int .i64 0,.int .i64 0,.slice none 0 0] 24 0 true) (bf dw) fun s i8 hS=>?_)
 refine sg hS 2 [0] [2] [.int .i64 y1.2.2.2] [i8] [[(i8,.row [.int .i64 y1.1,.int .i64 y1.2.1,.slice a4 y1.2.2.1.length z5] 24 0 true)]] (by kernel_rfl) fun s hS=>(KW.nil ?_)
 refine WW.seq (WW.region ?_)
 obtain⟨y9,hy9,h⟩:=bind_some h
 refine cK (g_e.ok hy9 (hG.mono hF7)) hS 0 16 0 rfl (by kernel_rfl) fun s v S' F11 hp10 hF hS=>?_
 obtain⟨a12,z13,B15,hF16,rfl,rfl,h14⟩:=hp10
 refine sg0 hS 5 [] [3,4] [.slice a12 y9.1.length z13,.int .i64 y9.2] [] (by kernel_rfl) fun s hS=>(KW.nil ?_)
 refine WW.seq (WW.region ?_)
 obtain⟨y17,hy17,h⟩:=bind_some h
 refine cK (g_b.ok hy17 (hG.mono (FLe.trans hF7 hF16))) hS 0 20 0 rfl (by kernel_rfl) fun s v S' F19 hp18 hF hS=>?_
 obtain⟨a20,z21,hF23,rfl,rfl,h22⟩:=hp18
 refine sg0 hS 3 [] [21,22] [.agg #[.int .i64 y17.1,.int .i64 y17.2.1,.slice a20 y17.2.2.1.length z21],.int .i64 y17.2.2.2] [] (by kernel_rfl) fun s hS=>(bA hS (wn rfl) rfl rfl rfl (v:=fun i=> .pointer (some ⟨i,0,none⟩)) (b:= .row [.int .i64 0,.int .i64 0,.slice none 0 0] 24 0 true) (bf dw) fun s i24 hS=>?_)
 refine sg hS 2 [0] [6] [.int .i64 y17.2.2.2] [i24] [[(i24,.row [.int .i64 y17.1,.int .i64 y17.2.1,.slice a20 y17.2.2.1.length z21] 24 0 true)],B15,[(i8,.row [.int .i64 y1.1,.int .i64 y1.2.1,.slice a4 y1.2.2.1.length z5] 24 0 true)]] (by kernel_rfl) fun s hS=>(KW.nil ?_)
 refine WW.seq (WW.region ?_)
 refine bA hS (wn rfl) rfl rfl rfl (v:=fun i=> .slice (some ⟨i,0,none⟩) 2 1) (b:= .row [.int .i64 2,.int .i64 4] 3 1 true) (aW iM tz3 gp rfl [(0,.int .i64 2),(1,.int .i64 4)] (av hS rfl) rfl) fun s i25 hS=>?_
 have hC26:ai (elI .i64 3) F19 ([2,4]:List Int) [.int .i64 2,.int .i64 4]:=⟨[.int .i64 2],[.int .i64 4],rfl,rfl,⟨[.int .i64 4],[],rfl,rfl,rfl⟩⟩
 refine aw hS (wn rfl) rfl rfl rfl (v:= .agg #[.int .i64 11,.int .i64 (-1),.slice (some ⟨i25,0,none⟩) ([2,4]:List Int).length 1]) (cn dw oU [(0,.int .i64 11),(1,.int .i64 (-1)),(2,.slice (some ⟨i25,0,none⟩) ([2,4]:List Int).length 1)] (av hS rfl) (cs:=[.int .i64 11,.int .i64 (-1),.slice (some ⟨i25,0,none⟩) ([2,4]:List Int).length 1]) rfl) fun s hS=>?_
 obtain⟨F27,hF28,hS,hz29⟩:=hS.frzO (Own.blk0 hC26)
 obtain⟨y30,hy30,h⟩:=bind_some h
 refine cK (g_h.ok hy30 hz29 (hG.mono (FLe.trans hF7 (FLe.trans hF16 (FLe.trans hF23 hF28))))) hS 0 26 0 rfl (by kernel_rfl) fun s v S' F32 hp31 hF hS=>?_
 obtain⟨hF33,rfl,rfl⟩:=hp31
 refine sg0 hS 5 [] [7,8] [aa y30.1,.int .i64 y30.2] [] (by kernel_rfl) fun s hS=>(KW.nil ?_)
 refine WW.seq (WW.region ?_)
 obtain⟨y34,hy34,h⟩:=bind_some h
 refine cK (g_f.ok hy34 (hG.mono (FLe.trans hF7 (FLe.trans hF16 (FLe.trans hF23 (FLe.trans hF28 hF33)))))) hS 0 30 0 rfl (by kernel_rfl) fun s v S' F36 hp35 hF hS=>?_
 obtain⟨hF37,rfl,rfl⟩:=hp35
 refine sg0 hS 5 [] [9,10] [.int .i64 y34.1,.int .i64 y34.2] [] (by kernel_rfl) fun s hS=>(KW.nil ?_)
 refine WW.seq (WW.region ?_)
 refine sg0 hS 3 [] [35] [.bool (y1.2.2.2==0)] [] (by kernel_rfl) fun s hS=>(ay 4 (fun s=>Stt EV s [(39,.bool ((y1.2.2.2==0)&&(y1.1==2))),(0,.bool false),(1,.pointer (some ⟨i8,0,none⟩)),(3,.slice a12 y9.1.length z13),(4,.int .i64 y9.2),(5,.pointer (some ⟨i24,0,none⟩)),(6,.int .i64 y17.2.2.2),(7,aa y30.1),(8,.int .i64 y30.2),(9,.int .i64 y34.1),(10,.int .i64 y34.2)] [[(i24,.row [.int .i64 y17.1,.int .i64 y17.2.1,.slice a20 y17.2.2.1.length z21] 24 0 true)],B15,[(i8,.row [.int .i64 y1.1,.int .i64 y1.2.1,.slice a4 y1.2.2.1.length z5] 24 0 true)]] F36 L F nx0) ?_ fun s hS=>?_)
 rcases aj ((y1.2.2.2==0)) with hcj | hcj
 replace hS:=hS.know (t:=35) rfl (congrArg Value.bool hcj)
 refine sg0 hS 4 [2] [39] [.bool (y1.1==2)] [i8] (by kernel_rfl) fun s hS=>(KW.nil ?_)
 exact(hS.know (t:=39) (u':= .bool ((y1.2.2.2==0)&&(y1.1==2))) rfl (aJ hcj)).subR rfl
 replace hS:=hS.know (t:=35) rfl (congrArg Value.bool hcj)
 refine sg0 hS 4 [] [39] [.bool false] [] (by kernel_rfl) fun s hS=>(KW.nil ?_)
 exact(hS.know (t:=39) (u':= .bool ((y1.2.2.2==0)&&(y1.1==2))) rfl (aL hcj)).subR rfl
 refine sg0 hS 1 [] [40] [.bool ((y1.2.2.2==0)&&(y1.1==2))] [] (by kernel_rfl) fun s hS=>(bc h (fun hc38 h=>?_) fun hc38 h=>?_)
 replace hS:=hS.kb 39 hc38 rfl
 replace hS:=hS.kb 40 hc38 rfl
 refine sg0 hS 2 [2] [42] [.slice a4 y1.2.2.1.length z5] [i8] (by kernel_rfl) fun s hS=>(bA hS (wt hS rfl rfl rfl rfl) rfl rfl rfl (v:=fun i=> .slice (some ⟨i,0,none⟩) 1 1) (b:= .row [.int .i64 4] 3 1 true) (aW iM tz3 gp rfl [(0,.int .i64 4)] (av hS rfl) rfl) fun s i39 hS=>?_)
 have hC40:ai (elI .i64 3) F36 ([4]:List Int) [.int .i64 4]:=⟨[.int .i64 4],[],rfl,rfl,rfl⟩
 obtain⟨F41,hF42,hS,hz43⟩:=hS.frzO (Own.blk0 hC40)
 obtain⟨y44,hy44,h⟩:=bind_some h
 refine bu hS (wt hS rfl rfl rfl rfl) (vs:=[.slice a4 y1.2.2.1.length z5,.slice (some ⟨i39,0,none⟩) ([4]:List Int).length 1]) (ws:=[.slice a4 y1.2.2.1.length z5,.slice (some ⟨i39,0,none⟩) ([4]:List Int).length 1]) rfl rfl rfl rfl rfl 0 rfl (g_1.ok hy44 (h6.mono (FLe.trans hF16 (FLe.trans hF23 (FLe.trans hF28 (FLe.trans hF33 (FLe.trans hF37 hF42)))))) hz43) fun s v S' F' hp45 hF hS=>?_
 obtain⟨rfl,rfl,rfl⟩:=hp45
 refine sg0 hS 2 [] [46] [.bool y44] [] (by kernel_rfl) fun s hS=>(ay 3 (fun s=>Stt EV s [(49,.bool (y44&&(y9.2==0))),(0,.bool false),(3,.slice a12 y9.1.length z13),(5,.pointer (some ⟨i24,0,none⟩)),(6,.int .i64 y17.2.2.2),(7,aa y30.1),(8,.int .i64 y30.2),(9,.int .i64 y34.1),(10,.int .i64 y34.2)] [[(i24,.row [.int .i64 y17.1,.int .i64 y17.2.1,.slice a20 y17.2.2.1.length z21] 24 0 true)],B15,[(i8,.row [.int .i64 y1.1,.int .i64 y1.2.1,.slice a4 y1.2.2.1.length z5] 24 0 true)]] F41 L F nx0) ?_ fun s hS=>?_)
 rcases aj (y44) with hcj | hcj
 replace hS:=hS.know (t:=44) rfl (congrArg Value.bool hcj)
 replace hS:=hS.know (t:=46) rfl (congrArg Value.bool hcj)
 refine sg0 hS 3 [] [49] [.bool (y9.2==0)] [] (by kernel_rfl) fun s hS=>(KW.nil ?_)
 exact(hS.know (t:=49) (u':= .bool (y44&&(y9.2==0))) rfl (aJ hcj)).subR rfl
 replace hS:=hS.know (t:=44) rfl (congrArg Value.bool hcj)
 replace hS:=hS.know (t:=46) rfl (congrArg Value.bool hcj)
 refine sg0 hS 3 [] [49] [.bool false] [] (by kernel_rfl) fun s hS=>(KW.nil ?_)
 exact(hS.know (t:=49) (u':= .bool (y44&&(y9.2==0))) rfl (aL hcj)).subR rfl
 refine sg0 hS 1 [] [50] [.bool (y44&&(y9.2==0))] [] (by kernel_rfl) fun s hS=>(ay 4 (fun s=>Stt EV s [(54,.bool ((y44&&(y9.2==0))&&((y9.1.length:Int)==2))),(0,.bool false),(3,.slice a12 y9.1.length z13),(5,.pointer (some ⟨i24,0,none⟩)),(6,.int .i64 y17.2.2.2),(7,aa y30.1),(8,.int .i64 y30.2),(9,.int .i64 y34.1),(10,.int .i64 y34.2)] [[(i24,.row [.int .i64 y17.1,.int .i64 y17.2.1,.slice a20 y17.2.2.1.length z21] 24 0 true)],B15,[(i8,.row [.int .i64 y1.1,.int .i64 y1.2.1,.slice a4 y1.2.2.1.length z5] 24 0 true)]] F41 L F nx0) ?_ fun s hS=>?_)
 rcases aj ((y44&&(y9.2==0))) with hcj | hcj
 replace hS:=hS.know (t:=49) rfl (congrArg Value.bool hcj)
 replace hS:=hS.know (t:=50) rfl (congrArg Value.bool hcj)
 refine sg0 hS 4 [] [54] [.bool ((y9.1.length:Int)==2)] [] (by kernel_rfl) fun s hS=>(KW.nil ?_)
 exact(hS.know (t:=54) (u':= .bool ((y44&&(y9.2==0))&&((y9.1.length:Int)==2))) rfl (aJ hcj)).subR rfl
 replace hS:=hS.know (t:=49) rfl (congrArg Value.bool hcj)
 replace hS:=hS.know (t:=50) rfl (congrArg Value.bool hcj)
 refine sg0 hS 4 [] [54] [.bool false] [] (by kernel_rfl) fun s hS=>(KW.nil ?_)
 exact(hS.know (t:=54) (u':= .bool ((y44&&(y9.2==0))&&((y9.1.length:Int)==2))) rfl (aL hcj)).subR rfl
 refine sg0 hS 1 [] [55] [.bool ((y44&&(y9.2==0))&&((y9.1.length:Int)==2))] [] (by kernel_rfl) fun s hS=>?_
 obtain⟨z46,hz46,h⟩:=bind_some h
 refine ay 6 (fun s=>Stt EV s [(61,.bool z46),(0,.bool false),(3,.slice a12 y9.1.length z13),(5,.pointer (some ⟨i24,0,none⟩)),(6,.int .i64 y17.2.2.2),(7,aa y30.1),(8,.int .i64 y30.2),(9,.int .i64 y34.1),(10,.int .i64 y34.2)] [[(i24,.row [.int .i64 y17.1,.int .i64 y17.2.1,.slice a20 y17.2.2.1.length z21] 24 0 true)],B15,[(i8,.row [.int .i64 y1.1,.int .i64 y1.2.1,.slice a4 y1.2.2.1.length z5] 24 0 true)]] F41 L F nx0) ?_ fun s hS=>?_
 refine bc hz46 (fun hc47 hz46=>?_) fun hc47 hz46=>?_
 replace hS:=hS.kb 54 hc47 rfl
 replace hS:=hS.kb 55 hc47 rfl
 refine sg0 hS 1 [] [56] [.slice a12 y9.1.length z13] [] (by kernel_rfl) fun s hS=>?_
 obtain⟨hk48,hz46⟩:=ac hz46
 obtain⟨i54,cs55,ex56,rfl,rfl,rfl,hC57⟩:=Own.some_ h14 (by omega)
 obtain⟨c49,hR50,hN52,hN51,hT53⟩:=ai.loadF (hC57.mono (FLe.trans hF23 (FLe.trans hF28 (FLe.trans hF33 (FLe.trans hF37 hF42))))) ex56 hk48 (z:=3) rfl
 obtain⟨a58,z59,rfl,hz60⟩:=hR50
 refine aw hS (wt hS rfl rfl rfl rfl) rfl rfl rfl (v:= .pointer (some ⟨i54,0+((0:Int)).toNat*3,none⟩)) (aF (hS.lk rfl) (hS.lk rfl) oT hk48) fun s hS=>(aw hS (wt hS rfl rfl rfl rfl) rfl rfl rfl (v:= .pointer (some ⟨i54,0+((0:Int)).toNat*3+0,none⟩)) (iI (hS.lk rfl) te rfl rfl) fun s hS=>?_)
 refine eu hS (wt hS rfl rfl rfl rfl) rfl rfl rfl (hS.at (k:=1) rfl) tg3 (v:= .int .i64 ((gt y9.1 (0:Int)).1)) (hN52 0 (by decide)) fun s hS=>(sg0 hS 2 [] [61] [.bool (((gt y9.1 (0:Int)).1)==28)] [] (by kernel_rfl) fun s hS=>?_)
 refine KW.nil ?_
 obtain rfl:=Option.some.inj hz46
 exact hS.subR rfl
 replace hS:=hS.kb 54 hc47 rfl
 replace hS:=hS.kb 55 hc47 rfl
 refine sg0 hS 6 [] [61] [.bool false] [] (by kernel_rfl) fun s hS=>(KW.nil ?_)
 obtain rfl:=Option.some.inj hz46
 exact hS.subR rfl
 refine sg0 hS 1 [] [62] [.bool z46] [] (by kernel_rfl) fun s hS=>?_
 obtain⟨z61,hz61,h⟩:=bind_some h
 refine ay 6 (fun s=>Stt EV s [(68,.bool z61),(0,.bool false),(5,.pointer (some ⟨i24,0,none⟩)),(6,.int .i64 y17.2.2.2),(7,aa y30.1),(8,.int .i64 y30.2),(9,.int .i64 y34.1),(10,.int .i64 y34.2)] [[(i24,.row [.int .i64 y17.1,.int .i64 y17.2.1,.slice a20 y17.2.2.1.length z21] 24 0 true)],B15,[(i8,.row [.int .i64 y1.1,.int .i64 y1.2.1,.slice a4 y1.2.2.1.length z5] 24 0 true)]] F41 L F nx0) ?_ fun s hS=>?_
 refine bc hz61 (fun hc62 hz61=>?_) fun hc62 hz61=>?_
 replace hS:=hS.kb 61 hc62 rfl
 replace hS:=hS.kb 62 hc62 rfl
 refine sg0 hS 1 [] [63] [.slice a12 y9.1.length z13] [] (by kernel_rfl) fun s hS=>?_
 obtain⟨hk63,hz61⟩:=ac hz61
 obtain⟨i69,cs70,ex71,rfl,rfl,rfl,hC72⟩:=Own.some_ h14 (by omega)
 obtain⟨c64,hR65,hN67,hN66,hT68⟩:=ai.loadF (hC72.mono (FLe.trans hF23 (FLe.trans hF28 (FLe.trans hF33 (FLe.trans hF37 hF42))))) ex71 hk63 (z:=3) rfl
 obtain⟨a73,z74,rfl,hz75⟩:=hR65
 refine aw hS (wt hS rfl rfl rfl rfl) rfl rfl rfl (v:= .pointer (some ⟨i69,0+((1:Int)).toNat*3,none⟩)) (aF (hS.lk rfl) (hS.lk rfl) oT hk63) fun s hS=>(aw hS (wt hS rfl rfl rfl rfl) rfl rfl rfl (v:= .pointer (some ⟨i69,0+((1:Int)).toNat*3+0,none⟩)) (iI (hS.lk rfl) te rfl rfl) fun s hS=>?_)
 refine eu hS (wt hS rfl rfl rfl rfl) rfl rfl rfl (hS.at (k:=1) rfl) tg3 (v:= .int .i64 ((gt y9.1 (1:Int)).1)) (hN67 0 (by decide)) fun s hS=>(sg0 hS 2 [] [68] [.bool (((gt y9.1 (1:Int)).1)==40)] [] (by kernel_rfl) fun s hS=>?_)
 refine KW.nil ?_
 obtain rfl:=Option.some.inj hz61
 exact hS.subR rfl
 replace hS:=hS.kb 61 hc62 rfl
 replace hS:=hS.kb 62 hc62 rfl
 refine sg0 hS 6 [] [68] [.bool false] [] (by kernel_rfl) fun s hS=>(KW.nil ?_)
 obtain rfl:=Option.some.inj hz61
 exact hS.subR rfl
 refine sg0 hS 1 [] [69] [.bool z61] [] (by kernel_rfl) fun s hS=>(ay 3 (fun s=>Stt EV s [(72,.bool (z61&&(y17.2.2.2==0))),(0,.bool false),(5,.pointer (some ⟨i24,0,none⟩)),(7,aa y30.1),(8,.int .i64 y30.2),(9,.int .i64 y34.1),(10,.int .i64 y34.2)] [[(i24,.row [.int .i64 y17.1,.int .i64 y17.2.1,.slice a20 y17.2.2.1.length z21] 24 0 true)],B15,[(i8,.row [.int .i64 y1.1,.int .i64 y1.2.1,.slice a4 y1.2.2.1.length z5] 24 0 true)]] F41 L F nx0) ?_ fun s hS=>?_)
 rcases aj (z61) with hcj | hcj
 replace hS:=hS.know (t:=68) rfl (congrArg Value.bool hcj)
 replace hS:=hS.know (t:=69) rfl (congrArg Value.bool hcj)
 refine sg0 hS 3 [] [72] [.bool (y17.2.2.2==0)] [] (by kernel_rfl) fun s hS=>(KW.nil ?_)
 exact(hS.know (t:=72) (u':= .bool (z61&&(y17.2.2.2==0))) rfl (aJ hcj)).subR rfl
 replace hS:=hS.know (t:=68) rfl (congrArg Value.bool hcj)
 replace hS:=hS.know (t:=69) rfl (congrArg Value.bool hcj)
 refine sg0 hS 3 [] [72] [.bool false] [] (by kernel_rfl) fun s hS=>(KW.nil ?_)
 exact(hS.know (t:=72) (u':= .bool (z61&&(y17.2.2.2==0))) rfl (aL hcj)).subR rfl
 refine sg0 hS 1 [] [73] [.bool (z61&&(y17.2.2.2==0))] [] (by kernel_rfl) fun s hS=>(ay 4 (fun s=>Stt EV s [(77,.bool ((z61&&(y17.2.2.2==0))&&(y17.1==6))),(0,.bool false),(5,.pointer (some ⟨i24,0,none⟩)),(7,aa y30.1),(8,.int .i64 y30.2),(9,.int .i64 y34.1),(10,.int .i64 y34.2)] [[(i24,.row [.int .i64 y17.1,.int .i64 y17.2.1,.slice a20 y17.2.2.1.length z21] 24 0 true)],B15,[(i8,.row [.int .i64 y1.1,.int .i64 y1.2.1,.slice a4 y1.2.2.1.length z5] 24 0 true)]] F41 L F nx0) ?_ fun s hS=>?_)
 rcases aj ((z61&&(y17.2.2.2==0))) with hcj | hcj
 replace hS:=hS.know (t:=72) rfl (congrArg Value.bool hcj)
 replace hS:=hS.know (t:=73) rfl (congrArg Value.bool hcj)
 refine sg0 hS 4 [0] [77] [.bool (y17.1==6)] [i24] (by kernel_rfl) fun s hS=>(KW.nil ?_)
 exact(hS.know (t:=77) (u':= .bool ((z61&&(y17.2.2.2==0))&&(y17.1==6))) rfl (aJ hcj)).subR rfl
 replace hS:=hS.know (t:=72) rfl (congrArg Value.bool hcj)
 replace hS:=hS.know (t:=73) rfl (congrArg Value.bool hcj)
 refine sg0 hS 4 [] [77] [.bool false] [] (by kernel_rfl) fun s hS=>(KW.nil ?_)
 exact(hS.know (t:=77) (u':= .bool ((z61&&(y17.2.2.2==0))&&(y17.1==6))) rfl (aL hcj)).subR rfl
 refine sg0 hS 1 [] [78] [.bool ((z61&&(y17.2.2.2==0))&&(y17.1==6))] [] (by kernel_rfl) fun s hS=>(ay 4 (fun s=>Stt EV s [(82,.bool (((z61&&(y17.2.2.2==0))&&(y17.1==6))&&(y17.2.1==2))),(0,.bool false),(7,aa y30.1),(8,.int .i64 y30.2),(9,.int .i64 y34.1),(10,.int .i64 y34.2)] [[(i24,.row [.int .i64 y17.1,.int .i64 y17.2.1,.slice a20 y17.2.2.1.length z21] 24 0 true)],B15,[(i8,.row [.int .i64 y1.1,.int .i64 y1.2.1,.slice a4 y1.2.2.1.length z5] 24 0 true)]] F41 L F nx0) ?_ fun s hS=>?_)
 rcases aj (((z61&&(y17.2.2.2==0))&&(y17.1==6))) with hcj | hcj
 replace hS:=hS.know (t:=77) rfl (congrArg Value.bool hcj)
 replace hS:=hS.know (t:=78) rfl (congrArg Value.bool hcj)
 refine sg0 hS 4 [0] [82] [.bool (y17.2.1==2)] [i24] (by kernel_rfl) fun s hS=>(KW.nil ?_)
 exact(hS.know (t:=82) (u':= .bool (((z61&&(y17.2.2.2==0))&&(y17.1==6))&&(y17.2.1==2))) rfl (aJ hcj)).subR rfl
 replace hS:=hS.know (t:=77) rfl (congrArg Value.bool hcj)
 replace hS:=hS.know (t:=78) rfl (congrArg Value.bool hcj)
 refine sg0 hS 4 [] [82] [.bool false] [] (by kernel_rfl) fun s hS=>(KW.nil ?_)
 exact(hS.know (t:=82) (u':= .bool (((z61&&(y17.2.2.2==0))&&(y17.1==6))&&(y17.2.1==2))) rfl (aL hcj)).subR rfl
 refine sg0 hS 1 [] [83] [.bool (((z61&&(y17.2.2.2==0))&&(y17.1==6))&&(y17.2.1==2))] [] (by kernel_rfl) fun s hS=>(ay 3 (fun s=>Stt EV s [(86,.bool ((((z61&&(y17.2.2.2==0))&&(y17.1==6))&&(y17.2.1==2))&&(y30.2==0))),(0,.bool false),(7,aa y30.1),(9,.int .i64 y34.1),(10,.int .i64 y34.2)] [[(i24,.row [.int .i64 y17.1,.int .i64 y17.2.1,.slice a20 y17.2.2.1.length z21] 24 0 true)],B15,[(i8,.row [.int .i64 y1.1,.int .i64 y1.2.1,.slice a4 y1.2.2.1.length z5] 24 0 true)]] F41 L F nx0) ?_ fun s hS=>?_)
 rcases aj ((((z61&&(y17.2.2.2==0))&&(y17.1==6))&&(y17.2.1==2))) with hcj | hcj
 replace hS:=hS.know (t:=82) rfl (congrArg Value.bool hcj)
 replace hS:=hS.know (t:=83) rfl (congrArg Value.bool hcj)
 refine sg0 hS 3 [] [86] [.bool (y30.2==0)] [] (by kernel_rfl) fun s hS=>(KW.nil ?_)
 exact(hS.know (t:=86) (u':= .bool ((((z61&&(y17.2.2.2==0))&&(y17.1==6))&&(y17.2.1==2))&&(y30.2==0))) rfl (aJ hcj)).subR rfl
 replace hS:=hS.know (t:=82) rfl (congrArg Value.bool hcj)
 replace hS:=hS.know (t:=83) rfl (congrArg Value.bool hcj)
 refine sg0 hS 3 [] [86] [.bool false] [] (by kernel_rfl) fun s hS=>(KW.nil ?_)
 exact(hS.know (t:=86) (u':= .bool ((((z61&&(y17.2.2.2==0))&&(y17.1==6))&&(y17.2.1==2))&&(y30.2==0))) rfl (aL hcj)).subR rfl
 refine sg0 hS 1 [] [87] [.bool ((((z61&&(y17.2.2.2==0))&&(y17.1==6))&&(y17.2.1==2))&&(y30.2==0))] [] (by kernel_rfl) fun s hS=>(ay 3 (fun s=>Stt EV s [(90,.bool (((((z61&&(y17.2.2.2==0))&&(y17.1==6))&&(y17.2.1==2))&&(y30.2==0))&&(decide (y30.1= [68,79,32,49,48,32,73,61,49,44,49,48])))),(0,.bool false),(9,.int .i64 y34.1),(10,.int .i64 y34.2)] [[(i24,.row [.int .i64 y17.1,.int .i64 y17.2.1,.slice a20 y17.2.2.1.length z21] 24 0 true)],B15,[(i8,.row [.int .i64 y1.1,.int .i64 y1.2.1,.slice a4 y1.2.2.1.length z5] 24 0 true)]] F41 L F nx0) ?_ fun s hS=>?_)
 rcases aj (((((z61&&(y17.2.2.2==0))&&(y17.1==6))&&(y17.2.1==2))&&(y30.2==0))) with hcj | hcj
 replace hS:=hS.know (t:=86) rfl (congrArg Value.bool hcj)
 replace hS:=hS.know (t:=87) rfl (congrArg Value.bool hcj)
 refine sg0 hS 1 [] [88] [aa y30.1] [] (by kernel_rfl) fun s hS=>(aw hS (wt hS rfl rfl rfl rfl) rfl rfl rfl (v:= .bool (decide (y30.1= [68,79,32,49,48,32,73,61,49,44,49,48]))) (gV (hS.lk rfl) (hS.lk rfl)) fun s hS=>?_)
 refine sg0 hS 1 [] [90] [.bool (decide (y30.1= [68,79,32,49,48,32,73,61,49,44,49,48]))] [] (by kernel_rfl) fun s hS=>(KW.nil ?_)
 exact(hS.know (t:=90) (u':= .bool (((((z61&&(y17.2.2.2==0))&&(y17.1==6))&&(y17.2.1==2))&&(y30.2==0))&&(decide (y30.1= [68,79,32,49,48,32,73,61,49,44,49,48])))) rfl (aJ hcj)).subR rfl
 replace hS:=hS.know (t:=86) rfl (congrArg Value.bool hcj)
 replace hS:=hS.know (t:=87) rfl (congrArg Value.bool hcj)
 refine sg0 hS 3 [] [90] [.bool false] [] (by kernel_rfl) fun s hS=>(KW.nil ?_)
 exact(hS.know (t:=90) (u':= .bool (((((z61&&(y17.2.2.2==0))&&(y17.1==6))&&(y17.2.1==2))&&(y30.2==0))&&(decide (y30.1= [68,79,32,49,48,32,73,61,49,44,49,48])))) rfl (aL hcj)).subR rfl
 refine sg0 hS 1 [] [91] [.bool (((((z61&&(y17.2.2.2==0))&&(y17.1==6))&&(y17.2.1==2))&&(y30.2==0))&&(decide (y30.1= [68,79,32,49,48,32,73,61,49,44,49,48])))] [] (by kernel_rfl) fun s hS=>(ay 3 (fun s=>Stt EV s [(94,.bool ((((((z61&&(y17.2.2.2==0))&&(y17.1==6))&&(y17.2.1==2))&&(y30.2==0))&&(decide (y30.1= [68,79,32,49,48,32,73,61,49,44,49,48])))&&(y34.2==3))),(0,.bool false),(9,.int .i64 y34.1)] [[(i24,.row [.int .i64 y17.1,.int .i64 y17.2.1,.slice a20 y17.2.2.1.length z21] 24 0 true)],B15,[(i8,.row [.int .i64 y1.1,.int .i64 y1.2.1,.slice a4 y1.2.2.1.length z5] 24 0 true)]] F41 L F nx0) ?_ fun s hS=>?_)
 rcases aj ((((((z61&&(y17.2.2.2==0))&&(y17.1==6))&&(y17.2.1==2))&&(y30.2==0))&&(decide (y30.1= [68,79,32,49,48,32,73,61,49,44,49,48])))) with hcj | hcj
 replace hS:=hS.know (t:=90) rfl (congrArg Value.bool hcj)
 replace hS:=hS.know (t:=91) rfl (congrArg Value.bool hcj)
 refine sg0 hS 3 [] [94] [.bool (y34.2==3)] [] (by kernel_rfl) fun s hS=>(KW.nil ?_)
 exact(hS.know (t:=94) (u':= .bool ((((((z61&&(y17.2.2.2==0))&&(y17.1==6))&&(y17.2.1==2))&&(y30.2==0))&&(decide (y30.1= [68,79,32,49,48,32,73,61,49,44,49,48])))&&(y34.2==3))) rfl (aJ hcj)).subR rfl
 replace hS:=hS.know (t:=90) rfl (congrArg Value.bool hcj)
 replace hS:=hS.know (t:=91) rfl (congrArg Value.bool hcj)
 refine sg0 hS 3 [] [94] [.bool false] [] (by kernel_rfl) fun s hS=>(KW.nil ?_)
 exact(hS.know (t:=94) (u':= .bool ((((((z61&&(y17.2.2.2==0))&&(y17.1==6))&&(y17.2.1==2))&&(y30.2==0))&&(decide (y30.1= [68,79,32,49,48,32,73,61,49,44,49,48])))&&(y34.2==3))) rfl (aL hcj)).subR rfl
 refine sg0 hS 1 [] [95] [.bool ((((((z61&&(y17.2.2.2==0))&&(y17.1==6))&&(y17.2.1==2))&&(y30.2==0))&&(decide (y30.1= [68,79,32,49,48,32,73,61,49,44,49,48])))&&(y34.2==3))] [] (by kernel_rfl) fun s hS=>(ay 3 (fun s=>Stt EV s [(98,.bool (((((((z61&&(y17.2.2.2==0))&&(y17.1==6))&&(y17.2.1==2))&&(y30.2==0))&&(decide (y30.1= [68,79,32,49,48,32,73,61,49,44,49,48])))&&(y34.2==3))&&(y34.1==14))),(0,.bool false)] [[(i24,.row [.int .i64 y17.1,.int .i64 y17.2.1,.slice a20 y17.2.2.1.length z21] 24 0 true)],B15,[(i8,.row [.int .i64 y1.1,.int .i64 y1.2.1,.slice a4 y1.2.2.1.length z5] 24 0 true)]] F41 L F nx0) ?_ fun s hS=>?_)
 rcases aj (((((((z61&&(y17.2.2.2==0))&&(y17.1==6))&&(y17.2.1==2))&&(y30.2==0))&&(decide (y30.1= [68,79,32,49,48,32,73,61,49,44,49,48])))&&(y34.2==3))) with hcj | hcj
 replace hS:=hS.know (t:=94) rfl (congrArg Value.bool hcj)
 replace hS:=hS.know (t:=95) rfl (congrArg Value.bool hcj)
 refine sg0 hS 3 [] [98] [.bool (y34.1==14)] [] (by kernel_rfl) fun s hS=>(KW.nil ?_)
 exact(hS.know (t:=98) (u':= .bool (((((((z61&&(y17.2.2.2==0))&&(y17.1==6))&&(y17.2.1==2))&&(y30.2==0))&&(decide (y30.1= [68,79,32,49,48,32,73,61,49,44,49,48])))&&(y34.2==3))&&(y34.1==14))) rfl (aJ hcj)).subR rfl
 replace hS:=hS.know (t:=94) rfl (congrArg Value.bool hcj)
 replace hS:=hS.know (t:=95) rfl (congrArg Value.bool hcj)
 refine sg0 hS 3 [] [98] [.bool false] [] (by kernel_rfl) fun s hS=>(KW.nil ?_)
 exact(hS.know (t:=98) (u':= .bool (((((((z61&&(y17.2.2.2==0))&&(y17.1==6))&&(y17.2.1==2))&&(y30.2==0))&&(decide (y30.1= [68,79,32,49,48,32,73,61,49,44,49,48])))&&(y34.2==3))&&(y34.1==14))) rfl (aL hcj)).subR rfl
 refine sg0 hS 1 [] [0] [.bool (((((((z61&&(y17.2.2.2==0))&&(y17.1==6))&&(y17.2.1==2))&&(y30.2==0))&&(decide (y30.1= [68,79,32,49,48,32,73,61,49,44,49,48])))&&(y34.2==3))&&(y34.1==14))] [] (by kernel_rfl) fun s hS=>(KW.nil ?_)
 refine WW.ret ?_
 replace hS:=hS.drop
 replace hS:=hS.drop
 replace hS:=hS.drop
 cases h
 exact ax hS (.inr rfl) 0 rfl rfl ⟨((FLe.trans hF7 (FLe.trans hF16 (FLe.trans hF23 (FLe.trans hF28 (FLe.trans hF33 (FLe.trans hF37 hF42))))))),rfl,rfl⟩
 replace hS:=hS.kb 39 hc38 rfl
 replace hS:=hS.kb 40 hc38 rfl
 refine sg0 hS 59 [] [0] [.bool false] [] (by kernel_rfl) fun s hS=>(KW.nil ?_)
 refine WW.ret ?_
 replace hS:=hS.drop
 replace hS:=hS.drop
 replace hS:=hS.drop
 cases h
 exact ax hS (.inr rfl) 0 rfl rfl ⟨((FLe.trans hF7 (FLe.trans hF16 (FLe.trans hF23 (FLe.trans hF28 (FLe.trans hF33 hF37)))))),rfl,rfl⟩
noncomputable def g_5.f (pA:Int) (pB:Int) (pC:Int):Option (Bool) :=
  some (!((decide (pA<pB))||(decide (pA>pC))))
theorem g_5.ok {pA:Int} {pB:Int} {pC:Int} {F:FZ} {r:Bool} (h:g_5.f pA pB pC=some r) :
    Cl EV 22 [.int .i64 pA,.int .i64 pB,.int .i64 pC] [] F (fun v S' F'=>F=F'∧v= .bool r∧S'= []):=by
 refine Cl.of Tryz.func22 rfl (fun _ _=>rfl) (by kernel_rfl) fun s L nx0 hS=>?_
 unfold g_5.f at h
 refine WW.seq (WW.region ?_)
 refine sg0 hS 1 [] [6] [.bool false] [] (by kernel_rfl) fun s hS=>(KW.nil ?_)
 refine WW.seq (WW.region ?_)
 refine sg0 hS 4 [] [10] [.bool (decide (pA<pB))] [] (by kernel_rfl) fun s hS=>(ay 4 (fun s=>Stt EV s [(14,.bool ((decide (pA<pB))||(decide (pA>pC)))),(6,.bool false)] [] F L F nx0) ?_ fun s hS=>?_)
 rcases aj ((decide (pA<pB))) with hcj | hcj
 replace hS:=hS.know (t:=10) rfl (congrArg Value.bool hcj)
 refine sg0 hS 4 [] [14] [.bool true] [] (by kernel_rfl) fun s hS=>(KW.nil ?_)
 exact(hS.know (t:=14) (u':= .bool ((decide (pA<pB))||(decide (pA>pC)))) rfl (bH hcj)).subR rfl
 replace hS:=hS.know (t:=10) rfl (congrArg Value.bool hcj)
 refine sg0 hS 4 [] [14] [.bool (decide (pA>pC))] [] (by kernel_rfl) fun s hS=>(KW.nil ?_)
 exact(hS.know (t:=14) (u':= .bool ((decide (pA<pB))||(decide (pA>pC)))) rfl (bI hcj)).subR rfl
 refine sg0 hS 2 [] [6] [.bool (!((decide (pA<pB))||(decide (pA>pC))))] [] (by kernel_rfl) fun s hS=>(KW.nil ?_)
 refine WW.ret ?_
 cases h
 exact ax hS (.inr rfl) 6 rfl rfl ⟨rfl,rfl,rfl⟩
noncomputable def g_7.f (pA:UInt8):Option (Bool) :=
  Option.bind (g_5.f (IntKind.i64.wrap ((pA ||| 32).toNat:Int)) 97 122) fun y1=>some y1
theorem g_7.ok {pA:UInt8} {F:FZ} {r:Bool} (h:g_7.f pA=some r) :
    Cl EV 98 [vB pA] [] F (fun v S' F'=>F=F'∧v= .bool r∧S'= []):=by
 refine Cl.of Tryz.func98 rfl (fun _ _=>rfl) (by kernel_rfl) fun s L nx0 hS=>?_
 unfold g_7.f at h
 refine WW.seq (WW.region ?_)
 refine sg0 hS 1 [] [2] [.bool false] [] (by kernel_rfl) fun s hS=>(KW.nil ?_)
 refine WW.seq (WW.region ?_)
 refine sg0 hS 1 [] [3] [vB pA] [] (by kernel_rfl) fun s hS=>(aw hS (wn rfl) rfl rfl rfl (v:=vB (pA ||| 32)) (sQ (hS.lk rfl) (hS.lk rfl)) fun s hS=>?_)
 refine aw hS (wn rfl) rfl rfl (kr hS rfl rfl) (v:= .int .i64 (IntKind.i64.wrap ((pA ||| 32).toNat:Int))) (gU (hS.lk rfl) tu5 tu3) fun s hS=>?_
 obtain⟨y1,hy1,h⟩:=bind_some h
 refine cR (g_5.ok hy1) hS 0 6 0 rfl (by kernel_rfl) fun s hS=>(sg0 hS 1 [] [2] [.bool y1] [] (by kernel_rfl) fun s hS=>?_)
 refine KW.nil (WW.ret ?_)
 cases h
 exact ax hS (.inr rfl) 2 rfl rfl ⟨rfl,rfl,rfl⟩
noncomputable def g_6.f (pA:UInt8):Option (Bool) :=
  Option.bind (g_5.f (IntKind.i64.wrap (pA.toNat:Int)) 48 57) fun y1=>some y1
theorem g_6.ok {pA:UInt8} {F:FZ} {r:Bool} (h:g_6.f pA=some r) :
    Cl EV 99 [vB pA] [] F (fun v S' F'=>F=F'∧v= .bool r∧S'= []):=by
 refine Cl.of Tryz.func99 rfl (fun _ _=>rfl) (by kernel_rfl) fun s L nx0 hS=>?_
 unfold g_6.f at h
 refine WW.seq (WW.region ?_)
 refine sg0 hS 1 [] [2] [.bool false] [] (by kernel_rfl) fun s hS=>(KW.nil ?_)
 refine WW.seq (WW.region ?_)
 refine sg0 hS 1 [] [3] [vB pA] [] (by kernel_rfl) fun s hS=>(aw hS (wn rfl) rfl rfl (kr hS rfl rfl) (v:= .int .i64 (IntKind.i64.wrap (pA.toNat:Int))) (gU (hS.lk rfl) tu5 tu3) fun s hS=>?_)
 obtain⟨y1,hy1,h⟩:=bind_some h
 refine cR (g_5.ok hy1) hS 0 5 0 rfl (by kernel_rfl) fun s hS=>(sg0 hS 1 [] [2] [.bool y1] [] (by kernel_rfl) fun s hS=>?_)
 refine KW.nil (WW.ret ?_)
 cases h
 exact ax hS (.inr rfl) 2 rfl rfl ⟨rfl,rfl,rfl⟩
noncomputable def g_3.b0 (pA:List UInt8) (x7:Int):Option ((Int)⊕((Int)⊕(Bool))) :=
  (if(decide (x7<(pA.length:Int))) then(if 0≤x7∧x7<(pA.length:Int) then Option.bind ((if(((gt pA x7).toNat:Int) != ((95:UInt8).toNat:Int)) then Option.bind (g_7.f (gt pA x7)) fun y15=>some (!y15) else some false)) fun z13=>Option.bind ((if z13 then Option.bind (g_6.f (gt pA x7)) fun y19=>some (!y19) else some false)) fun z17=>(if z17 then some (.inr (.inr false)) else some (.inl (w64 (x7+1)))) else none) else some (.inr (.inl x7)))
noncomputable def g_3.f (pA:List UInt8):Option (Bool) :=
  Option.bind ((if((decide (pA= []))||(decide ((pA.length:Int)>31))) then some true else(if 0≤(0:Int)∧(0:Int)<(pA.length:Int) then Option.bind (g_7.f (gt pA (0:Int))) fun y4=>some (!y4) else none))) fun z1=>(if z1 then some false else Option.bind (iter (g_3.b0 pA) 0) fun o8=>cu o8 fun y22=>some true)
theorem g_3.ok {pA:List UInt8} {F:FZ} {r:Bool} (h:g_3.f pA=some r) :
    Cl EV 75 [aa pA] [] F (fun v S' F'=>F=F'∧v= .bool r∧S'= []):=by
 refine Cl.of Tryz.func75 rfl (fun _ _=>rfl) (by kernel_rfl) fun s L nx0 hS=>?_
 unfold g_3.f at h
 refine WW.seq (WW.region ?_)
 refine sg0 hS 1 [] [2] [.bool false] [] (by kernel_rfl) fun s hS=>(KW.nil ?_)
 refine WW.seq (WW.seq ?_)
 refine WW.region (sg0 hS 1 [] [5] [aa pA] [] (by kernel_rfl) fun s hS=>?_)
 refine aw hS (wn rfl) rfl rfl rfl (v:= .bool (decide (pA= []))) (gV (hS.lk rfl) (hS.lk rfl)) fun s hS=>(sg0 hS 1 [] [7] [.bool (decide (pA= []))] [] (by kernel_rfl) fun s hS=>?_)
 refine ay 4 (fun s=>Stt EV s [(11,.bool ((decide (pA= []))||(decide ((pA.length:Int)>31)))),(0,aa pA),(2,.bool false)] [] F L F nx0) ?_ fun s hS=>?_
 rcases aj ((decide (pA= []))) with hcj | hcj
 replace hS:=hS.know (t:=6) rfl (congrArg Value.bool hcj)
 replace hS:=hS.know (t:=7) rfl (congrArg Value.bool hcj)
 refine sg0 hS 4 [] [11] [.bool true] [] (by kernel_rfl) fun s hS=>(KW.nil ?_)
 exact(hS.know (t:=11) (u':= .bool ((decide (pA= []))||(decide ((pA.length:Int)>31)))) rfl (bH hcj)).subR rfl
 replace hS:=hS.know (t:=6) rfl (congrArg Value.bool hcj)
 replace hS:=hS.know (t:=7) rfl (congrArg Value.bool hcj)
 refine sg0 hS 4 [] [11] [.bool (decide ((pA.length:Int)>31))] [] (by kernel_rfl) fun s hS=>(KW.nil ?_)
 exact(hS.know (t:=11) (u':= .bool ((decide (pA= []))||(decide ((pA.length:Int)>31)))) rfl (bI hcj)).subR rfl
 refine sg0 hS 1 [] [12] [.bool ((decide (pA= []))||(decide ((pA.length:Int)>31)))] [] (by kernel_rfl) fun s hS=>?_
 obtain⟨z1,hz1,h⟩:=bind_some h
 refine ay 5 (fun s=>Stt EV s [(17,.bool z1),(0,aa pA),(2,.bool false)] [] F L F nx0) ?_ fun s hS=>?_
 refine bc hz1 (fun hc2 hz1=>?_) fun hc2 hz1=>?_
 replace hS:=hS.kb 11 hc2 rfl
 replace hS:=hS.kb 12 hc2 rfl
 refine sg0 hS 5 [] [17] [.bool true] [] (by kernel_rfl) fun s hS=>(KW.nil ?_)
 obtain rfl:=Option.some.inj hz1
 exact hS.subR rfl
 replace hS:=hS.kb 11 hc2 rfl
 replace hS:=hS.kb 12 hc2 rfl
 refine sg0 hS 1 [] [13] [aa pA] [] (by kernel_rfl) fun s hS=>?_
 obtain⟨hk3,hz1⟩:=ac hz1
 refine aw hS (wt hS rfl rfl rfl rfl) rfl rfl rfl (v:=vB (gt pA (0:Int))) (au tu9 (hS.lk rfl) (hS.lk rfl) hk3) fun s hS=>?_
 obtain⟨y4,hy4,hz1⟩:=bind_some hz1
 refine bu hS (wt hS rfl rfl rfl rfl) (vs:=[vB (gt pA (0:Int))]) (ws:=[vB (gt pA (0:Int))]) rfl rfl rfl rfl rfl 0 rfl (g_7.ok hy4) fun s v S' F' hp5 hF hS=>?_
 obtain⟨rfl,rfl,rfl⟩:=hp5
 refine sg0 hS 2 [] [17] [.bool (!y4)] [] (by kernel_rfl) fun s hS=>(KW.nil ?_)
 obtain rfl:=Option.some.inj hz1
 exact hS.subR rfl
 refine KW.nil (bc h (fun hc6 h=>?_) fun hc6 h=>?_)
 refine WW.condK hS rfl hc6 (WW.seq ?_)
 refine WW.region (sg0 hS 1 [] [2] [.bool false] [] (by kernel_rfl) fun s hS=>?_)
 refine KW.nil (WW.ret ?_)
 cases h
 exact ax hS (.inr rfl) 2 rfl rfl ⟨rfl,rfl,rfl⟩
 refine WW.condF hS rfl hc6 (WW.skip ?_)
 refine WW.seq (WW.seq ?_)
 refine WW.region (sg0 hS 3 [] [19,20] [.int .i64 (pA.length:Int),.int .i64 0] [] (by kernel_rfl) fun s hS=>?_)
 refine KW.nil (WW.block ?_)
 obtain⟨o8,ho8,h⟩:=bind_some h
 refine WW.loop (LW.iterS ho8 (fun(x7:Int) s=>Stt EV s [(0,aa pA),(2,.bool false),(19,.int .i64 (pA.length:Int)),(20,.int .i64 x7)] [] F L F nx0) 0 (fun r=>ej EV Tryz.f75 L F nx0 (fun v S' F'=>F=F'∧v= .bool r∧S'= [])) (hS.subR rfl) ?_ ?_)
 clear hS
 rintro x7 s hS o8' h10
 unfold g_3.b0 at h10
 refine WW.seq (WW.region ?_)
 refine sg0 hS 1 [] [21] [.bool (decide (x7<(pA.length:Int)))] [] (by kernel_rfl) fun s hS=>(KW.nil ?_)
 refine WW.seq (bc h10 (fun hc11 h10=>?_) fun hc11 h10=>?_)
 refine WW.condK hS rfl hc11 (WW.skip ?_)
 refine WW.seq (WW.block ?_)
 refine WW.seq (WW.region ?_)
 refine sg0 hS 2 [] [3] [.int .i64 x7] [] (by kernel_rfl) fun s hS=>(KW.nil ?_)
 refine WW.seq (WW.region ?_)
 refine sg0 hS 2 [] [23,24] [aa pA,.int .i64 x7] [] (by kernel_rfl) fun s hS=>?_
 obtain⟨hk12,h10⟩:=ac h10
 refine aw hS (wn rfl) rfl rfl rfl (v:=vB (gt pA x7)) (au tu9 (hS.lk rfl) (hS.lk rfl) hk12) fun s hS=>(sg0 hS 1 [] [4] [vB (gt pA x7)] [] (by kernel_rfl) fun s hS=>?_)
 refine KW.nil (WW.seq ?_)
 refine WW.region (sg0 hS 3 [] [28] [.bool (((gt pA x7).toNat:Int) != ((95:UInt8).toNat:Int))] [] (by kernel_rfl) fun s hS=>?_)
 obtain⟨z13,hz13,h10⟩:=bind_some h10
 refine ay 4 (fun s=>Stt EV s [(32,.bool z13),(0,aa pA),(2,.bool false),(4,vB (gt pA x7)),(19,.int .i64 (pA.length:Int)),(20,.int .i64 x7)] [] F L F nx0) ?_ fun s hS=>?_
 refine bc hz13 (fun hc14 hz13=>?_) fun hc14 hz13=>?_
 replace hS:=hS.kb 28 hc14 rfl
 refine sg0 hS 1 [] [29] [vB (gt pA x7)] [] (by kernel_rfl) fun s hS=>?_
 obtain⟨y15,hy15,hz13⟩:=bind_some hz13
 refine bu hS (wt hS rfl rfl rfl rfl) (vs:=[vB (gt pA x7)]) (ws:=[vB (gt pA x7)]) rfl rfl rfl rfl rfl 0 rfl (g_7.ok hy15) fun s v S' F' hp16 hF hS=>?_
 obtain⟨rfl,rfl,rfl⟩:=hp16
 refine sg0 hS 2 [] [32] [.bool (!y15)] [] (by kernel_rfl) fun s hS=>(KW.nil ?_)
 obtain rfl:=Option.some.inj hz13
 exact hS.subR rfl
 replace hS:=hS.kb 28 hc14 rfl
 refine sg0 hS 4 [] [32] [.bool false] [] (by kernel_rfl) fun s hS=>(KW.nil ?_)
 obtain rfl:=Option.some.inj hz13
 exact hS.subR rfl
 refine sg0 hS 1 [] [33] [.bool z13] [] (by kernel_rfl) fun s hS=>?_
 obtain⟨z17,hz17,h10⟩:=bind_some h10
 refine ay 4 (fun s=>Stt EV s [(37,.bool z17),(0,aa pA),(2,.bool false),(19,.int .i64 (pA.length:Int)),(20,.int .i64 x7)] [] F L F nx0) ?_ fun s hS=>?_
 refine bc hz17 (fun hc18 hz17=>?_) fun hc18 hz17=>?_
 replace hS:=hS.kb 32 hc18 rfl
 replace hS:=hS.kb 33 hc18 rfl
 refine sg0 hS 1 [] [34] [vB (gt pA x7)] [] (by kernel_rfl) fun s hS=>?_
 obtain⟨y19,hy19,hz17⟩:=bind_some hz17
 refine bu hS (wt hS rfl rfl rfl rfl) (vs:=[vB (gt pA x7)]) (ws:=[vB (gt pA x7)]) rfl rfl rfl rfl rfl 0 rfl (g_6.ok hy19) fun s v S' F' hp20 hF hS=>?_
 obtain⟨rfl,rfl,rfl⟩:=hp20
 refine sg0 hS 2 [] [37] [.bool (!y19)] [] (by kernel_rfl) fun s hS=>(KW.nil ?_)
 obtain rfl:=Option.some.inj hz17
 exact hS.subR rfl
 replace hS:=hS.kb 32 hc18 rfl
 replace hS:=hS.kb 33 hc18 rfl
 refine sg0 hS 4 [] [37] [.bool false] [] (by kernel_rfl) fun s hS=>(KW.nil ?_)
 obtain rfl:=Option.some.inj hz17
 exact hS.subR rfl
 refine KW.nil (bc h10 (fun hc21 h10=>?_) fun hc21 h10=>?_)
 refine WW.condK hS rfl hc21 (WW.seq ?_)
 refine WW.region (sg0 hS 1 [] [2] [.bool false] [] (by kernel_rfl) fun s hS=>?_)
 refine KW.nil (WW.ret ?_)
 cases h10
 exact⟨_,rfl,rfl,ax hS (.inr rfl) 2 rfl rfl ⟨rfl,rfl,rfl⟩⟩
 refine WW.condF hS rfl hc21 (WW.skip ?_)
 refine WW.region (sg0 hS 2 [] [20] [.int .i64 (w64 (x7+1))] [] (by kernel_rfl) fun s hS=>?_)
 refine KW.nil ?_
 obtain rfl:=Option.some.inj h10
 exact⟨_,rfl,(hS.subR rfl)⟩
 refine WW.condF hS rfl hc11 (WW.exit ?_)
 refine ae ?_
 obtain rfl:=Option.some.inj h10
 exact⟨_,rfl,rfl,(hS.subR rfl)⟩
 clear hS
 rcases o8 with y22 | y22
 rintro e s ⟨rfl,hS⟩
 replace h:=bp h
 refine af (WW.seq ?_)
 refine WW.region (sg0 hS 1 [] [2] [.bool true] [] (by kernel_rfl) fun s hS=>?_)
 refine KW.nil (WW.ret ?_)
 cases h
 exact ax hS (.inr rfl) 2 rfl rfl ⟨rfl,rfl,rfl⟩
 rintro e s ⟨rfl,hfin⟩
 replace h:=bq h
 obtain rfl:=Option.some.inj h
 exact hfin
end Go.Proofs.YtcafgoomipkljaaGreatDoorAi
