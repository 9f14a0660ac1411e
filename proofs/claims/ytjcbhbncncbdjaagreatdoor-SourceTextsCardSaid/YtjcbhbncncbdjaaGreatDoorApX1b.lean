import Derived.Test.YtjcbhbncncbdjaaGreatDoorApX1a
namespace Go.Proofs.YtjcbhbncncbdjaaGreatDoorAi
set_option maxHeartbeats 4000000
open Go Go.RowKit
set_option linter.unusedVariables false
set_option linter.unusedSimpArgs false
set_option maxRecDepth 100000
noncomputable def g_r.f (pA:List UInt8) (pB:Bool) (pC:List (List UInt8)):Option ((List (Int×List UInt8×(List (Int×Int×Int))))×Int×Int) :=
  Option.bind (g_1i.f pA pB pC) fun y2=>(oP y2.1 ((if(y2.2.2 != 0) then some (([]:List (Int×List UInt8×(List (Int×Int×Int)))),y2.2.1,y2.2.2) else none)) fun x10=>(if(y2.2.2 != 0) then some (([]:List (Int×List UInt8×(List (Int×Int×Int)))),y2.2.1,y2.2.2) else some (x10.2.2,0,0)))
theorem g_r.ok {aE:Option Addr} {zH:Nat} {pA:List UInt8} {pB:Bool} {pC:List (List UInt8)} {F:FZ} {r:(List (Int×List UInt8×(List (Int×Int×Int))))×Int×Int} (h:g_r.f pA pB pC=some r) (hI:Frz (elS 9) F aE zH pC) :
    Cl EV 17 [.agg #[aa pA,.bool pB,.slice aE pC.length zH]] [] F (fun v S' F'=> ∃(ra1:Option Addr) (rz2:Nat) (rB4:Seg),FLe F F'∧v= .tuple #[.slice ra1 r.1.length rz2,.int .i64 r.2.1,.int .i64 r.2.2]∧S'= [rB4]∧Own bs F' ra1 rz2 r.1 rB4):=by
 refine Cl.of Tryz.func17 rfl (fun _ _=>rfl) (by kernel_rfl) fun s L nx0 hS=>?_
 unfold g_r.f at h
 refine WW.seq (WW.region ?_)
 refine bf hS (wn rfl) rfl rfl rfl (v:=fun i=> .pointer (some ⟨i,0,none⟩)) (b:= .row [aa pA,.bool pB,.slice aE pC.length zH] 38 0 true) (br (hS.lk rfl) rfl [aa pA,.bool pB,.slice aE pC.length zH] rfl) fun s i1 hS=>(sg0 hS 3 [] [2,3,4] [.slice none 0 0,.int .i64 0,.int .i64 0] [] (by kernel_rfl) fun s hS=>?_)
 refine KW.nil (WW.seq ?_)
 refine WW.region (sg0 hS 1 [0] [9] [.agg #[aa pA,.bool pB,.slice aE pC.length zH]] [i1] (by kernel_rfl) fun s hS=>?_)
 obtain⟨y2,hy2,h⟩:=bind_some h
 refine bE hS (wn rfl) (vs:=[.agg #[aa pA,.bool pB,.slice aE pC.length zH]]) (ws:=[.agg #[aa pA,.bool pB,.slice aE pC.length zH]]) rfl rfl rfl rfl rfl 0 rfl (g_1i.ok hy2 hI) fun s v S' F4 hp3 hF hS=>?_
 obtain⟨v6,S7,hF5,rfl,rfl,ho8⟩:=hp3
 rcases ho8 with⟨hq9,rfl,rfl⟩ | ⟨x10,i11,a12,z13,a15,z16,B18,a19,z20,B22,hq9,rfl,rfl,h14,h17,h21⟩
 rw[hq9] at h; replace h:=jG h
 refine sg0 hS 7 [] [5,6,7] [.pointer none,.int .i64 y2.2.1,.int .i64 y2.2.2] [] (by kernel_rfl) fun s hS=>(KW.nil ?_)
 refine WW.seq (WW.seq ?_)
 refine WW.region (sg0 hS 2 [] [15] [.bool (y2.2.2 != 0)] [] (by kernel_rfl) fun s hS=>?_)
 refine KW.nil (bc h (fun hc23 h=>?_) fun hc23 h=>?_)
 refine WW.condK hS rfl hc23 (WW.seq ?_)
 refine WW.region (sg0 hS 5 [] [2,3,4] [.slice none 0 0,.int .i64 y2.2.1,.int .i64 y2.2.2] [] (by kernel_rfl) fun s hS=>?_)
 refine KW.nil (WW.ret ?_)
 replace hS:=hS.gap0
 have hres:=(aM hS (t:=2) (v:= .slice none ([]:List (Int×List UInt8×(List (Int×Int×Int)))).length 0) rfl (aM hS (t:=3) (v:= .int .i64 y2.2.1) rfl (aM hS (t:=4) (v:= .int .i64 y2.2.2) rfl (aw (E:=EV) (s:=s)))))
 replace hS:=(hS.pull 1).drop
 cases h
 exact fin hS (.inr rfl) hres (v:= .tuple #[.slice none ([]:List (Int×List UInt8×(List (Int×Int×Int)))).length 0,.int .i64 y2.2.1,.int .i64 y2.2.2]) rfl ⟨_,_,_,(hF5),rfl,rfl,Own.nil⟩
 refine WW.condF hS rfl hc23 (WW.skip ?_)
 refine WW.seq (WW.region ?_)
 refine sg0 hS 1 [] [18] [.pointer none] [] (by kernel_rfl) fun s hS=>?_
 exact nomatch h
 rw[hq9] at h; replace h:=jH h
 refine sg0 hS 7 [] [5,6,7] [.pointer (some ⟨i11,0,none⟩),.int .i64 y2.2.1,.int .i64 y2.2.2] [] (by kernel_rfl) fun s hS=>(KW.nil ?_)
 refine WW.seq (WW.seq ?_)
 refine WW.region (sg0 hS 2 [] [15] [.bool (y2.2.2 != 0)] [] (by kernel_rfl) fun s hS=>?_)
 refine KW.nil (bc h (fun hc24 h=>?_) fun hc24 h=>?_)
 refine WW.condK hS rfl hc24 (WW.seq ?_)
 refine WW.region (sg0 hS 5 [] [2,3,4] [.slice none 0 0,.int .i64 y2.2.1,.int .i64 y2.2.2] [] (by kernel_rfl) fun s hS=>?_)
 refine KW.nil (WW.ret ?_)
 replace hS:=hS.gap0
 have hres:=(aM hS (t:=2) (v:= .slice none ([]:List (Int×List UInt8×(List (Int×Int×Int)))).length 0) rfl (aM hS (t:=3) (v:= .int .i64 y2.2.1) rfl (aM hS (t:=4) (v:= .int .i64 y2.2.2) rfl (aw (E:=EV) (s:=s)))))
 replace hS:=(hS.pull 1).drop
 replace hS:=(hS.pull 1).drop
 replace hS:=(hS.pull 1).drop
 replace hS:=(hS.pull 1).drop
 cases h
 exact fin hS (.inr rfl) hres (v:= .tuple #[.slice none ([]:List (Int×List UInt8×(List (Int×Int×Int)))).length 0,.int .i64 y2.2.1,.int .i64 y2.2.2]) rfl ⟨_,_,_,(hF5),rfl,rfl,Own.nil⟩
 refine WW.condF hS rfl hc24 (WW.skip ?_)
 refine WW.seq (WW.region ?_)
 refine sg0 hS 7 [0] [2,3,4] [.slice a19 x10.2.2.length z20,.int .i64 0,.int .i64 0] [i11] (by kernel_rfl) fun s hS=>(KW.nil ?_)
 refine WW.ret ?_
 have hres:=(aM hS (t:=2) (v:= .slice a19 x10.2.2.length z20) rfl (aM hS (t:=3) (v:= .int .i64 0) rfl (aM hS (t:=4) (v:= .int .i64 0) rfl (aw (E:=EV) (s:=s)))))
 replace hS:=hS.drop
 replace hS:=hS.drop
 replace hS:=(hS.pull 1).drop
 cases h
 exact fin hS (.inr rfl) hres (v:= .tuple #[.slice a19 x10.2.2.length z20,.int .i64 0,.int .i64 0]) rfl ⟨_,_,_,(hF5),rfl,rfl,h21⟩
noncomputable def g_q.f (pA:List UInt8) (pB:Bool) (pC:List (List UInt8)):Option (List Int×Int×Int) :=
  Option.bind (g_1i.f pA pB pC) fun y2=>(oP y2.1 ((if(y2.2.2 != 0) then some (([]:List Int),y2.2.1,y2.2.2) else none)) fun x10=>(if(y2.2.2 != 0) then some (([]:List Int),y2.2.1,y2.2.2) else some (x10.2.1,0,0)))
theorem g_q.ok {aE:Option Addr} {zH:Nat} {pA:List UInt8} {pB:Bool} {pC:List (List UInt8)} {F:FZ} {r:List Int×Int×Int} (h:g_q.f pA pB pC=some r) (hI:Frz (elS 9) F aE zH pC) :
    Cl EV 23 [.agg #[aa pA,.bool pB,.slice aE pC.length zH]] [] F (fun v S' F'=> ∃(ra1:Option Addr) (rz2:Nat) (rB4:Seg),FLe F F'∧v= .tuple #[.slice ra1 r.1.length rz2,.int .i64 r.2.1,.int .i64 r.2.2]∧S'= [rB4]∧Own (elI .i64 3) F' ra1 rz2 r.1 rB4):=by
 refine Cl.of Tryz.func23 rfl (fun _ _=>rfl) (by kernel_rfl) fun s L nx0 hS=>?_
 unfold g_q.f at h
 refine WW.seq (WW.region ?_)
 refine bf hS (wn rfl) rfl rfl rfl (v:=fun i=> .pointer (some ⟨i,0,none⟩)) (b:= .row [aa pA,.bool pB,.slice aE pC.length zH] 38 0 true) (br (hS.lk rfl) rfl [aa pA,.bool pB,.slice aE pC.length zH] rfl) fun s i1 hS=>(sg0 hS 3 [] [2,3,4] [.slice none 0 0,.int .i64 0,.int .i64 0] [] (by kernel_rfl) fun s hS=>?_)
 refine KW.nil (WW.seq ?_)
 refine WW.region (sg0 hS 1 [0] [9] [.agg #[aa pA,.bool pB,.slice aE pC.length zH]] [i1] (by kernel_rfl) fun s hS=>?_)
 obtain⟨y2,hy2,h⟩:=bind_some h
 refine bE hS (wn rfl) (vs:=[.agg #[aa pA,.bool pB,.slice aE pC.length zH]]) (ws:=[.agg #[aa pA,.bool pB,.slice aE pC.length zH]]) rfl rfl rfl rfl rfl 0 rfl (g_1i.ok hy2 hI) fun s v S' F4 hp3 hF hS=>?_
 obtain⟨v6,S7,hF5,rfl,rfl,ho8⟩:=hp3
 rcases ho8 with⟨hq9,rfl,rfl⟩ | ⟨x10,i11,a12,z13,a15,z16,B18,a19,z20,B22,hq9,rfl,rfl,h14,h17,h21⟩
 rw[hq9] at h; replace h:=jG h
 refine sg0 hS 7 [] [5,6,7] [.pointer none,.int .i64 y2.2.1,.int .i64 y2.2.2] [] (by kernel_rfl) fun s hS=>(KW.nil ?_)
 refine WW.seq (WW.seq ?_)
 refine WW.region (sg0 hS 2 [] [15] [.bool (y2.2.2 != 0)] [] (by kernel_rfl) fun s hS=>?_)
 refine KW.nil (bc h (fun hc23 h=>?_) fun hc23 h=>?_)
 refine WW.condK hS rfl hc23 (WW.seq ?_)
 refine WW.region (sg0 hS 5 [] [2,3,4] [.slice none 0 0,.int .i64 y2.2.1,.int .i64 y2.2.2] [] (by kernel_rfl) fun s hS=>?_)
 refine KW.nil (WW.ret ?_)
 replace hS:=hS.gap0
 have hres:=(aM hS (t:=2) (v:= .slice none ([]:List Int).length 0) rfl (aM hS (t:=3) (v:= .int .i64 y2.2.1) rfl (aM hS (t:=4) (v:= .int .i64 y2.2.2) rfl (aw (E:=EV) (s:=s)))))
 replace hS:=(hS.pull 1).drop
 cases h
 exact fin hS (.inr rfl) hres (v:= .tuple #[.slice none ([]:List Int).length 0,.int .i64 y2.2.1,.int .i64 y2.2.2]) rfl ⟨_,_,_,(hF5),rfl,rfl,Own.nil⟩
 refine WW.condF hS rfl hc23 (WW.skip ?_)
 refine WW.seq (WW.region ?_)
 refine sg0 hS 1 [] [18] [.pointer none] [] (by kernel_rfl) fun s hS=>?_
 exact nomatch h
 rw[hq9] at h; replace h:=jH h
 refine sg0 hS 7 [] [5,6,7] [.pointer (some ⟨i11,0,none⟩),.int .i64 y2.2.1,.int .i64 y2.2.2] [] (by kernel_rfl) fun s hS=>(KW.nil ?_)
 refine WW.seq (WW.seq ?_)
 refine WW.region (sg0 hS 2 [] [15] [.bool (y2.2.2 != 0)] [] (by kernel_rfl) fun s hS=>?_)
 refine KW.nil (bc h (fun hc24 h=>?_) fun hc24 h=>?_)
 refine WW.condK hS rfl hc24 (WW.seq ?_)
 refine WW.region (sg0 hS 5 [] [2,3,4] [.slice none 0 0,.int .i64 y2.2.1,.int .i64 y2.2.2] [] (by kernel_rfl) fun s hS=>?_)
 refine KW.nil (WW.ret ?_)
 replace hS:=hS.gap0
 have hres:=(aM hS (t:=2) (v:= .slice none ([]:List Int).length 0) rfl (aM hS (t:=3) (v:= .int .i64 y2.2.1) rfl (aM hS (t:=4) (v:= .int .i64 y2.2.2) rfl (aw (E:=EV) (s:=s)))))
 replace hS:=(hS.pull 1).drop
 replace hS:=(hS.pull 1).drop
 replace hS:=(hS.pull 1).drop
 replace hS:=(hS.pull 1).drop
 cases h
 exact fin hS (.inr rfl) hres (v:= .tuple #[.slice none ([]:List Int).length 0,.int .i64 y2.2.1,.int .i64 y2.2.2]) rfl ⟨_,_,_,(hF5),rfl,rfl,Own.nil⟩
 refine WW.condF hS rfl hc24 (WW.skip ?_)
 refine WW.seq (WW.region ?_)
 refine sg0 hS 7 [0] [2,3,4] [.slice a15 x10.2.1.length z16,.int .i64 0,.int .i64 0] [i11] (by kernel_rfl) fun s hS=>(KW.nil ?_)
 refine WW.ret ?_
 have hres:=(aM hS (t:=2) (v:= .slice a15 x10.2.1.length z16) rfl (aM hS (t:=3) (v:= .int .i64 0) rfl (aM hS (t:=4) (v:= .int .i64 0) rfl (aw (E:=EV) (s:=s)))))
 replace hS:=hS.drop
 replace hS:=(hS.pull 1).drop
 replace hS:=(hS.pull 1).drop
 cases h
 exact fin hS (.inr rfl) hres (v:= .tuple #[.slice a15 x10.2.1.length z16,.int .i64 0,.int .i64 0]) rfl ⟨_,_,_,(hF5),rfl,rfl,h17⟩
noncomputable def g_4.f (pA:Int) (pB:Int) (pC:Int):Option (Bool) :=
  some (!((decide (pA<pB))||(decide (pA>pC))))
theorem g_4.ok {pA:Int} {pB:Int} {pC:Int} {F:FZ} {r:Bool} (h:g_4.f pA pB pC=some r) :
    Cl EV 27 [.int .i64 pA,.int .i64 pB,.int .i64 pC] [] F (fun v S' F'=>F=F'∧v= .bool r∧S'= []):=by
 refine Cl.of Tryz.func27 rfl (fun _ _=>rfl) (by kernel_rfl) fun s L nx0 hS=>?_
 unfold g_4.f at h
 refine WW.seq (WW.region ?_)
 refine sg0 hS 1 [] [6] [.bool false] [] (by kernel_rfl) fun s hS=>(KW.nil ?_)
 refine WW.seq (WW.region ?_)
 refine sg0 hS 4 [] [10] [.bool (decide (pA<pB))] [] (by kernel_rfl) fun s hS=>(aH 4 (fun s=>Stt EV s [(14,.bool ((decide (pA<pB))||(decide (pA>pC)))),(6,.bool false)] [] F L F nx0) ?_ fun s hS=>?_)
 rcases ax ((decide (pA<pB))) with hcj | hcj
 replace hS:=hS.know (t:=10) rfl (congrArg Value.bool hcj)
 refine sg0 hS 4 [] [14] [.bool true] [] (by kernel_rfl) fun s hS=>(KW.nil ?_)
 exact(hS.know (t:=14) (u':= .bool ((decide (pA<pB))||(decide (pA>pC)))) rfl (cB hcj)).subR rfl
 replace hS:=hS.know (t:=10) rfl (congrArg Value.bool hcj)
 refine sg0 hS 4 [] [14] [.bool (decide (pA>pC))] [] (by kernel_rfl) fun s hS=>(KW.nil ?_)
 exact(hS.know (t:=14) (u':= .bool ((decide (pA<pB))||(decide (pA>pC)))) rfl (cC hcj)).subR rfl
 refine sg0 hS 2 [] [6] [.bool (!((decide (pA<pB))||(decide (pA>pC))))] [] (by kernel_rfl) fun s hS=>(KW.nil ?_)
 refine WW.ret ?_
 cases h
 exact aS hS (.inr rfl) 6 rfl rfl ⟨rfl,rfl,rfl⟩
noncomputable def g_3.b0 (pA:List UInt8) (x2:Int):Option ((Int)⊕((Int)⊕(Bool))) :=
  (if(decide (x2<(pA.length:Int))) then(if 0≤x2∧x2<(pA.length:Int) then Option.bind (g_4.f (IntKind.i64.wrap ((gt pA x2).toNat:Int)) 32 126) fun y8=>(if(!y8) then some (.inr (.inr false)) else some (.inl (w64 (x2+1)))) else none) else some (.inr (.inl x2)))
noncomputable def g_3.f (pA:List UInt8) (pB:Int):Option (Bool) :=
  (if(decide ((pA.length:Int)>pB)) then some false else Option.bind (iter (g_3.b0 pA) 0) fun o3=>bj o3 fun y11=>some true)
theorem g_3.ok {pA:List UInt8} {pB:Int} {F:FZ} {r:Bool} (h:g_3.f pA pB=some r) :
    Cl EV 53 [aa pA,.int .i64 pB] [] F (fun v S' F'=>F=F'∧v= .bool r∧S'= []):=by
 refine Cl.of Tryz.func53 rfl (fun _ _=>rfl) (by kernel_rfl) fun s L nx0 hS=>?_
 unfold g_3.f at h
 refine WW.seq (WW.region ?_)
 refine sg0 hS 1 [] [4] [.bool false] [] (by kernel_rfl) fun s hS=>(KW.nil ?_)
 refine WW.seq (WW.seq ?_)
 refine WW.region (sg0 hS 4 [] [9] [.bool (decide ((pA.length:Int)>pB))] [] (by kernel_rfl) fun s hS=>?_)
 refine KW.nil (bc h (fun hc1 h=>?_) fun hc1 h=>?_)
 refine WW.condK hS rfl hc1 (WW.seq ?_)
 refine WW.region (sg0 hS 1 [] [4] [.bool false] [] (by kernel_rfl) fun s hS=>?_)
 refine KW.nil (WW.ret ?_)
 cases h
 exact aS hS (.inr rfl) 4 rfl rfl ⟨rfl,rfl,rfl⟩
 refine WW.condF hS rfl hc1 (WW.skip ?_)
 refine WW.seq (WW.seq ?_)
 refine WW.region (sg0 hS 1 [] [5] [.int .i64 0] [] (by kernel_rfl) fun s hS=>?_)
 refine KW.nil (WW.block ?_)
 obtain⟨o3,ho3,h⟩:=bind_some h
 refine WW.loop (LW.iterS ho3 (fun(x2:Int) s=>Stt EV s [(0,aa pA),(4,.bool false),(5,.int .i64 x2)] [] F L F nx0) 0 (fun r=>dq EV Tryz.f53 L F nx0 (fun v S' F'=>F=F'∧v= .bool r∧S'= [])) (hS.subR rfl) ?_ ?_)
 clear hS
 rintro x2 s hS o3' h5
 unfold g_3.b0 at h5
 refine WW.seq (WW.seq ?_)
 refine WW.region (sg0 hS 4 [] [13] [.bool (decide (x2<(pA.length:Int)))] [] (by kernel_rfl) fun s hS=>?_)
 refine KW.nil (bc h5 (fun hc6 h5=>?_) fun hc6 h5=>?_)
 refine WW.condK hS rfl hc6 (WW.skip ?_)
 refine WW.seq (WW.block ?_)
 refine WW.seq (WW.region ?_)
 refine sg0 hS 2 [] [16,17] [aa pA,.int .i64 x2] [] (by kernel_rfl) fun s hS=>?_
 obtain⟨hk7,h5⟩:=ac h5
 refine am hS (wn rfl) rfl rfl rfl (v:=vB (gt pA x2)) (aA tu9 (hS.lk rfl) (hS.lk rfl) hk7) fun s hS=>(am hS (wn rfl) rfl rfl (ic hS rfl rfl) (v:= .int .i64 (IntKind.i64.wrap ((gt pA x2).toNat:Int))) (fj (hS.lk rfl) tu5 tu3) fun s hS=>?_)
 obtain⟨y8,hy8,h5⟩:=bind_some h5
 refine cR (g_4.ok hy8) hS 0 20 0 rfl (by kernel_rfl) fun s hS=>(sg0 hS 1 [] [21] [.bool (!y8)] [] (by kernel_rfl) fun s hS=>?_)
 refine KW.nil (bc h5 (fun hc10 h5=>?_) fun hc10 h5=>?_)
 refine WW.condK hS rfl hc10 (WW.seq ?_)
 refine WW.region (sg0 hS 1 [] [4] [.bool false] [] (by kernel_rfl) fun s hS=>?_)
 refine KW.nil (WW.ret ?_)
 cases h5
 exact⟨_,rfl,rfl,aS hS (.inr rfl) 4 rfl rfl ⟨rfl,rfl,rfl⟩⟩
 refine WW.condF hS rfl hc10 (WW.skip ?_)
 refine WW.region (sg0 hS 3 [] [5] [.int .i64 (w64 (x2+1))] [] (by kernel_rfl) fun s hS=>?_)
 refine KW.nil ?_
 obtain rfl:=Option.some.inj h5
 exact⟨_,rfl,(hS.subR rfl)⟩
 refine WW.condF hS rfl hc6 (WW.exit ?_)
 refine af ?_
 obtain rfl:=Option.some.inj h5
 exact⟨_,rfl,rfl,(hS.subR rfl)⟩
 clear hS
 rcases o3 with y11 | y11
 rintro e s ⟨rfl,hS⟩
 replace h:=aB h
 refine ah (WW.seq ?_)
 refine WW.region (sg0 hS 1 [] [4] [.bool true] [] (by kernel_rfl) fun s hS=>?_)
 refine KW.nil (WW.ret ?_)
 cases h
 exact aS hS (.inr rfl) 4 rfl rfl ⟨rfl,rfl,rfl⟩
 rintro e s ⟨rfl,hfin⟩
 replace h:=aj h
 obtain rfl:=Option.some.inj h
 exact hfin
noncomputable def g_f.f (pB:Bool):Option (Int) :=
  (if pB then some 132 else some 80)
theorem g_f.ok {aE:Option Addr} {zH:Nat} {pA:List UInt8} {pB:Bool} {pC:List (List UInt8)} {F:FZ} {r:Int} (h:g_f.f pB=some r) :
    Cl EV 54 [.agg #[aa pA,.bool pB,.slice aE pC.length zH]] [] F (fun v S' F'=>F=F'∧v= .int .i64 r∧S'= []):=by
 refine Cl.of Tryz.func54 rfl (fun _ _=>rfl) (by kernel_rfl) fun s L nx0 hS=>?_
 unfold g_f.f at h
 refine WW.seq (WW.region ?_)
 refine bf hS (wn rfl) rfl rfl rfl (v:=fun i=> .pointer (some ⟨i,0,none⟩)) (b:= .row [aa pA,.bool pB,.slice aE pC.length zH] 38 0 true) (br (hS.lk rfl) rfl [aa pA,.bool pB,.slice aE pC.length zH] rfl) fun s i1 hS=>(sg0 hS 1 [] [2] [.int .i64 0] [] (by kernel_rfl) fun s hS=>?_)
 refine KW.nil (WW.seq ?_)
 refine WW.seq (WW.region ?_)
 refine sg0 hS 2 [0] [4] [.bool pB] [i1] (by kernel_rfl) fun s hS=>(KW.nil ?_)
 refine bc h (fun hc2 h=>?_) fun hc2 h=>?_
 refine WW.condK hS rfl hc2 (WW.seq ?_)
 refine WW.region (sg0 hS 1 [] [2] [.int .i64 132] [] (by kernel_rfl) fun s hS=>?_)
 refine KW.nil (WW.ret ?_)
 replace hS:=hS.drop
 cases h
 exact aS hS (.inr rfl) 2 rfl rfl ⟨rfl,rfl,rfl⟩
 refine WW.condF hS rfl hc2 (WW.skip ?_)
 refine WW.seq (WW.region ?_)
 refine sg0 hS 1 [] [2] [.int .i64 80] [] (by kernel_rfl) fun s hS=>(KW.nil ?_)
 refine WW.ret ?_
 replace hS:=hS.drop
 cases h
 exact aS hS (.inr rfl) 2 rfl rfl ⟨rfl,rfl,rfl⟩
noncomputable def g_8.b0 (pA:List UInt8) (x9:Int):Option ((Int)⊕((Int)⊕(Int×Int))) :=
  (if(decide (x9<(pA.length:Int))) then(if 0≤x9∧x9<(pA.length:Int) then Option.bind ((if(((gt pA x9).toNat:Int)==((32:UInt8).toNat:Int)) then some true else(if 0≤x9∧x9<(pA.length:Int) then some (((gt pA x9).toNat:Int)==((39:UInt8).toNat:Int)) else none))) fun z15=>(if z15 then some (.inr (.inr (0,4))) else some (.inl (w64 (x9+1)))) else none) else some (.inr (.inl x9)))
noncomputable def g_8.b1 (pB:Bool) (pC:List (List UInt8)) (x21:Int):Option ((Int)⊕((Int)⊕(Int×Int))) :=
  (if(decide (x21<(pC.length:Int))) then(if 0≤x21∧x21<(pC.length:Int) then Option.bind (g_f.f pB) fun y35=>(if(decide (((gt pC x21).length:Int)>y35)) then some (.inr (.inr (x21,8))) else(if 0≤x21∧x21<(pC.length:Int) then Option.bind (g_f.f pB) fun y45=>Option.bind (g_3.f (gt pC x21) y45) fun y47=>(if(!y47) then some (.inr (.inr (x21,3))) else some (.inl (w64 (x21+1)))) else none)) else none) else some (.inr (.inl x21)))
noncomputable def g_8.f (pA:List UInt8) (pB:Bool) (pC:List (List UInt8)):Option (Int×Int) :=
  Option.bind (g_4.f (pA.length:Int) 1 31) fun y2=>Option.bind ((if(!y2) then some true else Option.bind (g_3.f pA 31) fun y6=>some (!y6))) fun z4=>(if z4 then some (0,4) else Option.bind (iter (g_8.b0 pA) 0) fun o10=>bj o10 fun y19=>(if(decide ((pC.length:Int)>400)) then some (0,8) else Option.bind (iter (g_8.b1 pB pC) 0) fun o22=>bj o22 fun y50=>some (0,0)))
theorem g_8.ok {aE:Option Addr} {zH:Nat} {pA:List UInt8} {pB:Bool} {pC:List (List UInt8)} {F:FZ} {r:Int×Int} (h:g_8.f pA pB pC=some r) (hI:Frz (elS 9) F aE zH pC) :
    Cl EV 24 [.agg #[aa pA,.bool pB,.slice aE pC.length zH]] [] F (fun v S' F'=>F=F'∧v= .tuple #[.int .i64 r.1,.int .i64 r.2]∧S'= []):=by
 refine Cl.of Tryz.func24 rfl (fun _ _=>rfl) (by kernel_rfl) fun s L nx0 hS=>?_
 unfold g_8.f at h
 refine WW.seq (WW.region ?_)
 refine bf hS (wn rfl) rfl rfl rfl (v:=fun i=> .pointer (some ⟨i,0,none⟩)) (b:= .row [aa pA,.bool pB,.slice aE pC.length zH] 38 0 true) (br (hS.lk rfl) rfl [aa pA,.bool pB,.slice aE pC.length zH] rfl) fun s i1 hS=>(sg0 hS 2 [] [2,3] [.int .i64 0,.int .i64 0] [] (by kernel_rfl) fun s hS=>?_)
 refine KW.nil (WW.seq ?_)
 refine WW.seq (WW.region ?_)
 refine sg0 hS 3 [0] [8] [.int .i64 (pA.length:Int)] [i1] (by kernel_rfl) fun s hS=>?_
 obtain⟨y2,hy2,h⟩:=bind_some h
 refine bE hS (wn rfl) (vs:=[.int .i64 (pA.length:Int),.int .i64 1,.int .i64 31]) (ws:=[.int .i64 (pA.length:Int),.int .i64 1,.int .i64 31]) rfl rfl rfl rfl rfl 0 rfl (g_4.ok hy2) fun s v S' F' hp3 hF hS=>?_
 obtain⟨rfl,rfl,rfl⟩:=hp3
 refine sg0 hS 2 [] [11] [.bool (!y2)] [] (by kernel_rfl) fun s hS=>?_
 obtain⟨z4,hz4,h⟩:=bind_some h
 refine aH 5 (fun s=>Stt EV s [(16,.bool z4),(1,.pointer (some ⟨i1,0,none⟩)),(2,.int .i64 0),(3,.int .i64 0)] [[(i1,.row [aa pA,.bool pB,.slice aE pC.length zH] 38 0 true)]] F L F nx0) ?_ fun s hS=>?_
 refine bc hz4 (fun hc5 hz4=>?_) fun hc5 hz4=>?_
 replace hS:=hS.kb 11 hc5 rfl
 refine sg0 hS 5 [] [16] [.bool true] [] (by kernel_rfl) fun s hS=>(KW.nil ?_)
 obtain rfl:=Option.some.inj hz4
 exact hS.subR rfl
 replace hS:=hS.kb 11 hc5 rfl
 refine sg0 hS 2 [0] [13] [aa pA] [i1] (by kernel_rfl) fun s hS=>?_
 obtain⟨y6,hy6,hz4⟩:=bind_some hz4
 refine bE hS (wt hS rfl rfl rfl rfl) (vs:=[aa pA,.int .i64 31]) (ws:=[aa pA,.int .i64 31]) rfl rfl rfl rfl rfl 0 rfl (g_3.ok hy6) fun s v S' F' hp7 hF hS=>?_
 obtain⟨rfl,rfl,rfl⟩:=hp7
 refine sg0 hS 2 [] [16] [.bool (!y6)] [] (by kernel_rfl) fun s hS=>(KW.nil ?_)
 obtain rfl:=Option.some.inj hz4
 exact hS.subR rfl
 refine KW.nil (bc h (fun hc8 h=>?_) fun hc8 h=>?_)
 refine WW.condK hS rfl hc8 (WW.seq ?_)
 refine WW.region (sg0 hS 2 [] [2,3] [.int .i64 0,.int .i64 4] [] (by kernel_rfl) fun s hS=>?_)
 refine KW.nil (WW.ret ?_)
 replace hS:=hS.drop
 cases h
 exact eB hS (.inr rfl) 2 3 rfl rfl rfl ⟨rfl,rfl,rfl⟩
 refine WW.condF hS rfl hc8 (WW.skip ?_)
 refine WW.seq (WW.seq ?_)
 refine WW.region (sg0 hS 1 [] [4] [.int .i64 0] [] (by kernel_rfl) fun s hS=>?_)
 refine KW.nil (WW.block ?_)
 obtain⟨o10,ho10,h⟩:=bind_some h
 refine WW.loop (LW.iterS ho10 (fun(x9:Int) s=>Stt EV s [(1,.pointer (some ⟨i1,0,none⟩)),(2,.int .i64 0),(3,.int .i64 0),(4,.int .i64 x9)] [[(i1,.row [aa pA,.bool pB,.slice aE pC.length zH] 38 0 true)]] F L F nx0) 0 (fun r=>dq EV Tryz.f24 L F nx0 (fun v S' F'=>F=F'∧v= .tuple #[.int .i64 r.1,.int .i64 r.2]∧S'= [])) (hS.subR rfl) ?_ ?_)
 clear hS
 rintro x9 s hS o10' h12
 unfold g_8.b0 at h12
 refine WW.seq (WW.seq ?_)
 refine WW.region (sg0 hS 5 [0] [21] [.bool (decide (x9<(pA.length:Int)))] [i1] (by kernel_rfl) fun s hS=>?_)
 refine KW.nil (bc h12 (fun hc13 h12=>?_) fun hc13 h12=>?_)
 refine WW.condK hS rfl hc13 (WW.skip ?_)
 refine WW.seq (WW.block ?_)
 refine WW.seq (WW.region ?_)
 refine sg0 hS 3 [0] [25,26] [aa pA,.int .i64 x9] [i1] (by kernel_rfl) fun s hS=>?_
 obtain⟨hk14,h12⟩:=ac h12
 refine am hS (wn rfl) rfl rfl rfl (v:=vB (gt pA x9)) (aA tu9 (hS.lk rfl) (hS.lk rfl) hk14) fun s hS=>(sg0 hS 2 [] [29] [.bool (((gt pA x9).toNat:Int)==((32:UInt8).toNat:Int))] [] (by kernel_rfl) fun s hS=>?_)
 obtain⟨z15,hz15,h12⟩:=bind_some h12
 refine aH 6 (fun s=>Stt EV s [(35,.bool z15),(1,.pointer (some ⟨i1,0,none⟩)),(2,.int .i64 0),(3,.int .i64 0),(4,.int .i64 x9)] [[(i1,.row [aa pA,.bool pB,.slice aE pC.length zH] 38 0 true)]] F L F nx0) ?_ fun s hS=>?_
 refine bc hz15 (fun hc16 hz15=>?_) fun hc16 hz15=>?_
 replace hS:=hS.kb 29 hc16 rfl
 refine sg0 hS 6 [] [35] [.bool true] [] (by kernel_rfl) fun s hS=>(KW.nil ?_)
 obtain rfl:=Option.some.inj hz15
 exact hS.subR rfl
 replace hS:=hS.kb 29 hc16 rfl
 refine sg0 hS 3 [0] [31,32] [aa pA,.int .i64 x9] [i1] (by kernel_rfl) fun s hS=>?_
 obtain⟨hk17,hz15⟩:=ac hz15
 refine am hS (wt hS rfl rfl rfl rfl) rfl rfl rfl (v:=vB (gt pA x9)) (aA tu9 (hS.lk rfl) (hS.lk rfl) hk17) fun s hS=>(sg0 hS 2 [] [35] [.bool (((gt pA x9).toNat:Int)==((39:UInt8).toNat:Int))] [] (by kernel_rfl) fun s hS=>?_)
 refine KW.nil ?_
 obtain rfl:=Option.some.inj hz15
 exact hS.subR rfl
 refine KW.nil (bc h12 (fun hc18 h12=>?_) fun hc18 h12=>?_)
 refine WW.condK hS rfl hc18 (WW.seq ?_)
 refine WW.region (sg0 hS 2 [] [2,3] [.int .i64 0,.int .i64 4] [] (by kernel_rfl) fun s hS=>?_)
 refine KW.nil (WW.ret ?_)
 replace hS:=hS.drop
 cases h12
 exact⟨_,rfl,rfl,eB hS (.inr rfl) 2 3 rfl rfl rfl ⟨rfl,rfl,rfl⟩⟩
 refine WW.condF hS rfl hc18 (WW.skip ?_)
 refine WW.region (sg0 hS 3 [] [4] [.int .i64 (w64 (x9+1))] [] (by kernel_rfl) fun s hS=>?_)
 refine KW.nil ?_
 obtain rfl:=Option.some.inj h12
 exact⟨_,rfl,(hS.subR rfl)⟩
 refine WW.condF hS rfl hc13 (WW.exit ?_)
 refine af ?_
 obtain rfl:=Option.some.inj h12
 exact⟨_,rfl,rfl,(hS.subR rfl)⟩
 clear hS
 rcases o10 with y19 | y19
 rintro e s ⟨rfl,hS⟩
 replace h:=aB h
 refine ah (WW.seq ?_)
 refine WW.seq (WW.region ?_)
 refine sg0 hS 4 [0] [39] [.bool (decide ((pC.length:Int)>400))] [i1] (by kernel_rfl) fun s hS=>(KW.nil ?_)
 refine bc h (fun hc20 h=>?_) fun hc20 h=>?_
 refine WW.condK hS rfl hc20 (WW.seq ?_)
 refine WW.region (sg0 hS 2 [] [2,3] [.int .i64 0,.int .i64 8] [] (by kernel_rfl) fun s hS=>?_)
 refine KW.nil (WW.ret ?_)
 replace hS:=hS.drop
 cases h
 exact eB hS (.inr rfl) 2 3 rfl rfl rfl ⟨rfl,rfl,rfl⟩
 refine WW.condF hS rfl hc20 (WW.skip ?_)
 refine WW.seq (WW.seq ?_)
 refine WW.region (sg0 hS 1 [] [5] [.int .i64 0] [] (by kernel_rfl) fun s hS=>?_)
 refine KW.nil (WW.block ?_)
 obtain⟨o22,ho22,h⟩:=bind_some h
 refine WW.loop (LW.iterS ho22 (fun(x21:Int) s=>Stt EV s [(1,.pointer (some ⟨i1,0,none⟩)),(2,.int .i64 0),(3,.int .i64 0),(5,.int .i64 x21)] [[(i1,.row [aa pA,.bool pB,.slice aE pC.length zH] 38 0 true)]] F L F nx0) 2 (fun r=>dq EV Tryz.f24 L F nx0 (fun v S' F'=>F=F'∧v= .tuple #[.int .i64 r.1,.int .i64 r.2]∧S'= [])) (hS.subR rfl) ?_ ?_)
 clear hS
 rintro x21 s hS o22' h24
 unfold g_8.b1 at h24
 refine WW.seq (WW.seq ?_)
 refine WW.region (sg0 hS 5 [0] [44] [.bool (decide (x21<(pC.length:Int)))] [i1] (by kernel_rfl) fun s hS=>?_)
 refine KW.nil (bc h24 (fun hc25 h24=>?_) fun hc25 h24=>?_)
 refine WW.condK hS rfl hc25 (WW.skip ?_)
 refine WW.seq (WW.block ?_)
 refine WW.seq (WW.seq ?_)
 refine WW.regionD (i:=[[],[],[1,0],[],[],[],[5,4,3,2,1,0],[5,4,3,2,1,0],[]]) (by kernel_rfl) ?_
 have hq:=RS.start [i1]
 refine kg hS hq 1 [47] [.pointer (some ⟨i1,2,none⟩)] (by kernel_rfl) fun s rs hS hq=>(K.ld hS hq rfl (wn rfl) rfl rfl rfl (hS.at (k:=0) rfl) nV (v:= .slice aE pC.length zH) rfl 0 rfl rfl fun s rs hS hq=>?_)
 refine kg hS hq 1 [49] [.int .i64 x21] (by kernel_rfl) fun s rs hS hq=>?_
 obtain⟨hk26,h24⟩:=ac h24
 obtain⟨i32,of33,rfl⟩:=Frz.addr hI (by omega)
 obtain⟨_,_,_,_,c27,hF34,hR28,hN29,hN30,hT31⟩:=Frz.at hI hk26 (m:=1) rfl
 obtain rfl:=hR28
 refine K.pu hS hq rfl (wn rfl) rfl rfl rfl (v:= .pointer (some ⟨i32,of33+(x21).toNat*1,none⟩)) (aW (hS.lk rfl) (hS.lk rfl) ie hk26) fun s rs hS hq=>?_
 replace hq:=hq.more i32 rfl rfl rfl
 refine K.ld hS hq rfl (wn rfl) rfl rfl rfl (hS.fat hF34) tg9 (v:=aa (gt pC x21)) hN29 1 rfl rfl fun s rs hS hq=>(kg hS hq 1 [52] [.int .i64 ((gt pC x21).length:Int)] (by kernel_rfl) fun s rs hS hq=>?_)
 refine K.ldA hS hq rfl (wn rfl) rfl rfl rfl (hS.at (k:=0) rfl) tg38 tz38 (vs:=[aa pA,.bool pB,.slice (some ⟨i32,of33,none⟩) pC.length zH]) rfl 0 rfl rfl fun s rs hS hq=>?_
 obtain⟨y35,hy35,h24⟩:=bind_some h24
 refine K.cl hS hq rfl (wn rfl) (vs:=[.agg #[aa pA,.bool pB,.slice (some ⟨i32,of33,none⟩) pC.length zH]]) (ws:=[.agg #[aa pA,.bool pB,.slice (some ⟨i32,of33,none⟩) pC.length zH]]) rfl rfl rfl rfl rfl 0 rfl (g_f.ok hy35)  [0,1] rfl rfl (aZ rfl mm0 (fv rfl hF34 bv)) fun s rs v S' F' hp36 hF hS hq=>?_
 obtain⟨rfl,rfl,rfl⟩:=hp36
 refine kg hS hq 1 [55] [.bool (decide (((gt pC x21).length:Int)>y35))] (by kernel_rfl) fun s rs hS hq=>(KW.nil ?_)
 refine bc h24 (fun hc37 h24=>?_) fun hc37 h24=>?_
 refine WW.condK hS rfl hc37 (WW.seq ?_)
 refine WW.region (sg0 hS 3 [] [2,3] [.int .i64 x21,.int .i64 8] [] (by kernel_rfl) fun s hS=>?_)
 refine KW.nil (WW.ret ?_)
 replace hS:=hS.drop
 cases h24
 exact⟨_,rfl,rfl,eB hS (.inr rfl) 2 3 rfl rfl rfl ⟨rfl,rfl,rfl⟩⟩
 refine WW.condF hS rfl hc37 (WW.skip ?_)
 refine WW.seq (WW.regionD (i:=[[],[],[1,0],[],[],[4,3,2,1,0],[4,3,2,1,0],[],[]]) (by kernel_rfl) ?_)
 have hq:=RS.start [i1]
 refine kg hS hq 1 [57] [.pointer (some ⟨i1,2,none⟩)] (by kernel_rfl) fun s rs hS hq=>(K.ld hS hq rfl (wn rfl) rfl rfl rfl (hS.at (k:=0) rfl) nV (v:= .slice (some ⟨i32,of33,none⟩) pC.length zH) rfl 0 rfl rfl fun s rs hS hq=>?_)
 refine kg hS hq 1 [59] [.int .i64 x21] (by kernel_rfl) fun s rs hS hq=>?_
 obtain⟨hk38,h24⟩:=ac h24
 obtain⟨_,_,_,_,c39,hF44,hR40,hN41,hN42,hT43⟩:=Frz.at hI hk38 (m:=1) rfl
 obtain rfl:=hR40
 refine K.pu hS hq rfl (wn rfl) rfl rfl rfl (v:= .pointer (some ⟨i32,of33+(x21).toNat*1,none⟩)) (aW (hS.lk rfl) (hS.lk rfl) ie hk38) fun s rs hS hq=>?_
 replace hq:=hq.more i32 rfl rfl rfl
 refine K.ld hS hq rfl (wn rfl) rfl rfl rfl (hS.fat hF44) tg9 (v:=aa (gt pC x21)) hN41 1 rfl rfl fun s rs hS hq=>(K.ldA hS hq rfl (wn rfl) rfl rfl rfl (hS.at (k:=0) rfl) tg38 tz38 (vs:=[aa pA,.bool pB,.slice (some ⟨i32,of33,none⟩) pC.length zH]) rfl 0 rfl rfl fun s rs hS hq=>?_)
 obtain⟨y45,hy45,h24⟩:=bind_some h24
 refine K.cl hS hq rfl (wn rfl) (vs:=[.agg #[aa pA,.bool pB,.slice (some ⟨i32,of33,none⟩) pC.length zH]]) (ws:=[.agg #[aa pA,.bool pB,.slice (some ⟨i32,of33,none⟩) pC.length zH]]) rfl rfl rfl rfl rfl 0 rfl (g_f.ok hy45)  [0,1] rfl rfl (aZ rfl mm0 (fv rfl hF44 bv)) fun s rs v S' F' hp46 hF hS hq=>?_
 obtain⟨rfl,rfl,rfl⟩:=hp46
 obtain⟨y47,hy47,h24⟩:=bind_some h24
 refine K.cl hS hq rfl (wn rfl) (vs:=[aa (gt pC x21),.int .i64 y45]) (ws:=[aa (gt pC x21),.int .i64 y45]) rfl rfl rfl rfl rfl 0 rfl (g_3.ok hy47)  [0,1] rfl rfl (aZ rfl mm0 (fv rfl hF44 bv)) fun s rs v S' F' hp48 hF hS hq=>?_
 obtain⟨rfl,rfl,rfl⟩:=hp48
 refine kg hS hq 1 [65] [.bool (!y47)] (by kernel_rfl) fun s rs hS hq=>(KW.nil ?_)
 refine bc h24 (fun hc49 h24=>?_) fun hc49 h24=>?_
 refine WW.condK hS rfl hc49 (WW.seq ?_)
 refine WW.region (sg0 hS 3 [] [2,3] [.int .i64 x21,.int .i64 3] [] (by kernel_rfl) fun s hS=>?_)
 refine KW.nil (WW.ret ?_)
 replace hS:=hS.drop
 cases h24
 exact⟨_,rfl,rfl,eB hS (.inr rfl) 2 3 rfl rfl rfl ⟨rfl,rfl,rfl⟩⟩
 refine WW.condF hS rfl hc49 (WW.skip ?_)
 refine WW.region (sg0 hS 3 [] [5] [.int .i64 (w64 (x21+1))] [] (by kernel_rfl) fun s hS=>?_)
 refine KW.nil ?_
 obtain rfl:=Option.some.inj h24
 exact⟨_,rfl,(hS.subR rfl)⟩
 refine WW.condF hS rfl hc25 (WW.exit ?_)
 refine af ?_
 obtain rfl:=Option.some.inj h24
 exact⟨_,rfl,rfl,(hS.subR rfl)⟩
 clear hS
 rcases o22 with y50 | y50
 rintro e s ⟨rfl,hS⟩
 replace h:=aB h
 refine ah (WW.seq ?_)
 refine WW.region (sg0 hS 2 [] [2,3] [.int .i64 0,.int .i64 0] [] (by kernel_rfl) fun s hS=>?_)
 refine KW.nil (WW.ret ?_)
 replace hS:=hS.drop
 cases h
 exact eB hS (.inr rfl) 2 3 rfl rfl rfl ⟨rfl,rfl,rfl⟩
 rintro e s ⟨rfl,hfin⟩
 replace h:=aj h
 obtain rfl:=Option.some.inj h
 exact hfin
 rintro e s ⟨rfl,hfin⟩
 replace h:=aj h
 obtain rfl:=Option.some.inj h
 exact hfin
noncomputable def g_m.b1 (pA:List UInt8) (x2:Int×UInt8) (x11:Int):Option ((Int)⊕(Int)) :=
  Option.bind ((if(decide (x11<((mid pA (w64 (x2.1+1)) (pA.length:Int)).length:Int))) then(if 0≤x11∧x11<((mid pA (w64 (x2.1+1)) (pA.length:Int)).length:Int) then some (((gt (mid pA (w64 (x2.1+1)) (pA.length:Int)) x11).toNat:Int)==((32:UInt8).toNat:Int)) else none) else some false)) fun z15=>(if z15 then some (.inl (w64 (x11+1))) else some (.inr x11))
noncomputable def g_m.b0 (pA:List UInt8) (x2:Int×UInt8):Option ((Int×UInt8)⊕((Int×UInt8)⊕(Int×Bool×Bool×UInt8))) :=
  (if(decide (x2.1<(pA.length:Int))) then Option.bind ((if 0≤x2.1∧x2.1<(pA.length:Int) then(if 0≤(w64 (x2.1+1))∧(w64 (x2.1+1))≤(pA.length:Int)∧(pA.length:Int)≤(pA.length:Int) then Option.bind (iter (g_m.b1 pA x2) 0) fun o12=>Option.bind ((if(((gt pA x2.1).toNat:Int)==((38:UInt8).toNat:Int)) then Option.bind ((if(o12==((mid pA (w64 (x2.1+1)) (pA.length:Int)).length:Int)) then some true else Option.bind ((if((x2.2.toNat:Int)==((0:UInt8).toNat:Int)) then(if 0≤o12∧o12<((mid pA (w64 (x2.1+1)) (pA.length:Int)).length:Int) then some (((gt (mid pA (w64 (x2.1+1)) (pA.length:Int)) o12).toNat:Int)==((33:UInt8).toNat:Int)) else none) else some false)) fun z23=>some z23)) fun z21=>some z21 else some false)) fun z19=>(if z19 then some (.inr (.inr (.inr (x2.1,false,true,x2.2)))) else(if(((x2.2.toNat:Int)==((0:UInt8).toNat:Int))&&(((gt pA x2.1).toNat:Int)==((33:UInt8).toNat:Int))) then some (.inr (.inr (.inl (x2.1,x2.2)))) else(if(((x2.2.toNat:Int)==((0:UInt8).toNat:Int))&&(((gt pA x2.1).toNat:Int)==((38:UInt8).toNat:Int))) then some (.inr (.inr (.inr (0,true,false,0)))) else(if(((x2.2.toNat:Int)==((0:UInt8).toNat:Int))&&((((gt pA x2.1).toNat:Int)==((39:UInt8).toNat:Int))||(((gt pA x2.1).toNat:Int)==((34:UInt8).toNat:Int)))) then some (.inl (gt pA x2.1)) else(if(((gt pA x2.1).toNat:Int)==(x2.2.toNat:Int)) then some (.inl 0) else some (.inl x2.2)))))) else none) else none)) fun z7=>bj z7 fun z8=>some (.inl ((w64 (x2.1+1)),z8)) else some (.inr (.inl (x2.1,x2.2))))
noncomputable def g_m.f (pA:List UInt8) (pB:Int) (pC:UInt8):Option (Int×Bool×Bool×UInt8) :=
  Option.bind (iter (g_m.b0 pA) (pB,pC)) fun o3=>bj o3 fun y31=>some (y31.1,false,false,y31.2)
theorem g_m.ok {pA:List UInt8} {pB:Int} {pC:UInt8} {F:FZ} {r:Int×Bool×Bool×UInt8} (h:g_m.f pA pB pC=some r) :
    Cl EV 88 [aa pA,.int .i64 pB,vB pC] [] F (fun v S' F'=>F=F'∧v= .agg #[.int .i64 r.1,.bool r.2.1,.bool r.2.2.1,vB r.2.2.2]∧S'= []):=by
 refine Cl.of Tryz.func88 rfl (fun _ _=>rfl) (by kernel_rfl) fun s L nx0 hS=>?_
 unfold g_m.f at h
 refine WW.seq (WW.region ?_)
 refine bf hS (wn rfl) rfl rfl rfl (v:=fun i=> .pointer (some ⟨i,0,none⟩)) (b:= .row [.int .i64 0,.bool false,.bool false,vB 0] 141 0 true) (aU jQ) fun s i1 hS=>(KW.nil ?_)
 refine WW.seq (WW.block ?_)
 obtain⟨o3,ho3,h⟩:=bind_some h
 refine WW.loop (LW.iterS ho3 (fun(x2:Int×UInt8) s=>Stt EV s [(0,aa pA),(1,.int .i64 x2.1),(2,vB x2.2),(6,.pointer (some ⟨i1,0,none⟩))] [[(i1,.row [.int .i64 0,.bool false,.bool false,vB 0] 141 0 true)]] F L F nx0) 0 (fun r=>dq EV Tryz.f88 L F nx0 (fun v S' F'=>F=F'∧v= .agg #[.int .i64 r.1,.bool r.2.1,.bool r.2.2.1,vB r.2.2.2]∧S'= [])) (hS.subR rfl) ?_ ?_)
 clear hS
 rintro x2 s hS o3' h5
 unfold g_m.b0 at h5
 refine WW.seq (WW.seq ?_)
 refine WW.region (sg0 hS 4 [] [13] [.bool (decide (x2.1<(pA.length:Int)))] [] (by kernel_rfl) fun s hS=>?_)
 refine KW.nil (bc h5 (fun hc6 h5=>?_) fun hc6 h5=>?_)
 refine WW.condK hS rfl hc6 (WW.skip ?_)
 obtain⟨z7,hz7,h5⟩:=bind_some h5
 refine WW.seqJ (fun s=> ∃(z8:UInt8),z7= .inl z8∧Stt EV s [(0,aa pA),(1,.int .i64 x2.1),(2,vB z8),(6,.pointer (some ⟨i1,0,none⟩))] [[(i1,.row [.int .i64 0,.bool false,.bool false,vB 0] 141 0 true)]] F L F nx0) ?_ ?_
 refine WW.block (WW.seq ?_)
 refine WW.region (sg0 hS 2 [] [16,17] [aa pA,.int .i64 x2.1] [] (by kernel_rfl) fun s hS=>?_)
 obtain⟨hk9,hz7⟩:=ac hz7
 refine am hS (wn rfl) rfl rfl rfl (v:=vB (gt pA x2.1)) (aA tu9 (hS.lk rfl) (hS.lk rfl) hk9) fun s hS=>(sg0 hS 1 [] [7] [vB (gt pA x2.1)] [] (by kernel_rfl) fun s hS=>?_)
 refine KW.nil (WW.seq ?_)
 refine WW.region (sg0 hS 3 [] [19,21] [aa pA,.int .i64 (w64 (x2.1+1))] [] (by kernel_rfl) fun s hS=>?_)
 obtain⟨hk10,hz7⟩:=ac hz7
 refine am hS (wn rfl) rfl rfl rfl (v:=aa (mid pA (w64 (x2.1+1)) (pA.length:Int))) (cu tu9 (hS.lk rfl) (i:=(w64 (x2.1+1))) (j:=(pA.length:Int)) (bu hS rfl) rfl hk10) fun s hS=>(sg0 hS 1 [] [8] [aa (mid pA (w64 (x2.1+1)) (pA.length:Int))] [] (by kernel_rfl) fun s hS=>?_)
 refine KW.nil (WW.seq ?_)
 refine WW.region (sg0 hS 1 [] [9] [.int .i64 0] [] (by kernel_rfl) fun s hS=>?_)
 refine KW.nil (WW.seq ?_)
 refine WW.block ?_
 obtain⟨o12,ho12,hz7⟩:=bind_some hz7
 refine WW.loop (LW.iterE ho12 (fun(x11:Int) s=>Stt EV s [(0,aa pA),(1,.int .i64 x2.1),(2,vB x2.2),(6,.pointer (some ⟨i1,0,none⟩)),(7,vB (gt pA x2.1)),(8,aa (mid pA (w64 (x2.1+1)) (pA.length:Int))),(9,.int .i64 x11)] [[(i1,.row [.int .i64 0,.bool false,.bool false,vB 0] 141 0 true)]] F L F nx0) 2 (hS.subR rfl) ?_ ?_)
 clear hS
 rintro x11 s hS o12' h14
 unfold g_m.b1 at h14
 refine WW.seq (WW.seq ?_)
 refine WW.region (sg0 hS 5 [] [27] [.bool (decide (x11<((mid pA (w64 (x2.1+1)) (pA.length:Int)).length:Int)))] [] (by kernel_rfl) fun s hS=>?_)
 obtain⟨z15,hz15,h14⟩:=bind_some h14
 refine aH 5 (fun s=>Stt EV s [(32,.bool z15),(0,aa pA),(1,.int .i64 x2.1),(2,vB x2.2),(6,.pointer (some ⟨i1,0,none⟩)),(7,vB (gt pA x2.1)),(8,aa (mid pA (w64 (x2.1+1)) (pA.length:Int))),(9,.int .i64 x11)] [[(i1,.row [.int .i64 0,.bool false,.bool false,vB 0] 141 0 true)]] F L F nx0) ?_ fun s hS=>?_
 refine bc hz15 (fun hc16 hz15=>?_) fun hc16 hz15=>?_
 replace hS:=hS.kb 27 hc16 rfl
 refine sg0 hS 2 [] [28,29] [aa (mid pA (w64 (x2.1+1)) (pA.length:Int)),.int .i64 x11] [] (by kernel_rfl) fun s hS=>?_
 obtain⟨hk17,hz15⟩:=ac hz15
 refine am hS (wt hS rfl rfl rfl rfl) rfl rfl rfl (v:=vB (gt (mid pA (w64 (x2.1+1)) (pA.length:Int)) x11)) (aA tu9 (hS.lk rfl) (hS.lk rfl) hk17) fun s hS=>(sg0 hS 2 [] [32] [.bool (((gt (mid pA (w64 (x2.1+1)) (pA.length:Int)) x11).toNat:Int)==((32:UInt8).toNat:Int))] [] (by kernel_rfl) fun s hS=>?_)
 refine KW.nil ?_
 obtain rfl:=Option.some.inj hz15
 exact hS.subR rfl
 replace hS:=hS.kb 27 hc16 rfl
 refine sg0 hS 5 [] [32] [.bool false] [] (by kernel_rfl) fun s hS=>(KW.nil ?_)
 obtain rfl:=Option.some.inj hz15
 exact hS.subR rfl
 refine KW.nil (bc h14 (fun hc18 h14=>?_) fun hc18 h14=>?_)
 refine WW.condK hS rfl hc18 (WW.skip ?_)
 refine WW.block (WW.region ?_)
 refine sg0 hS 3 [] [9] [.int .i64 (w64 (x11+1))] [] (by kernel_rfl) fun s hS=>(KW.nil ?_)
 obtain rfl:=Option.some.inj h14
 exact⟨_,rfl,(hS.subR rfl)⟩
 refine WW.condF hS rfl hc18 (WW.exit ?_)
 refine af ?_
 obtain rfl:=Option.some.inj h14
 exact⟨_,rfl,rfl,(hS.subR rfl)⟩
 clear hS
 rintro e s ⟨rfl,hS⟩
 refine ah (WW.seq ?_)
 refine WW.seq (WW.region ?_)
 refine sg0 hS 3 [] [37] [.bool (((gt pA x2.1).toNat:Int)==((38:UInt8).toNat:Int))] [] (by kernel_rfl) fun s hS=>?_
 obtain⟨z19,hz19,hz7⟩:=bind_some hz7
 refine aH 15 (fun s=>Stt EV s [(52,.bool z19),(0,aa pA),(1,.int .i64 x2.1),(2,vB x2.2),(6,.pointer (some ⟨i1,0,none⟩)),(7,vB (gt pA x2.1))] [[(i1,.row [.int .i64 0,.bool false,.bool false,vB 0] 141 0 true)]] F L F nx0) ?_ fun s hS=>?_
 refine bc hz19 (fun hc20 hz19=>?_) fun hc20 hz19=>?_
 replace hS:=hS.kb 37 hc20 rfl
 refine sg0 hS 5 [] [42] [.bool (o12==((mid pA (w64 (x2.1+1)) (pA.length:Int)).length:Int))] [] (by kernel_rfl) fun s hS=>?_
 obtain⟨z21,hz21,hz19⟩:=bind_some hz19
 refine aH 9 (fun s=>Stt EV s [(51,.bool z21),(0,aa pA),(1,.int .i64 x2.1),(2,vB x2.2),(6,.pointer (some ⟨i1,0,none⟩)),(7,vB (gt pA x2.1)),(37,.bool true)] [[(i1,.row [.int .i64 0,.bool false,.bool false,vB 0] 141 0 true)]] F L F nx0) ?_ fun s hS=>?_
 refine bc hz21 (fun hc22 hz21=>?_) fun hc22 hz21=>?_
 replace hS:=hS.kb 42 hc22 rfl
 refine sg0 hS 3 [] [45] [undef] [] (by kernel_rfl) fun s hS=>(dx hS (wu hS rfl rfl rfl) rfl fun s hS=>?_)
 refine dx hS (wu hS rfl rfl rfl) rfl fun s hS=>(dx hS (wu hS rfl rfl rfl) rfl fun s hS=>?_)
 refine dx hS (wu hS rfl rfl rfl) rfl fun s hS=>(sg0 hS 2 [] [51] [.bool true] [] (by kernel_rfl) fun s hS=>?_)
 refine KW.nil ?_
 obtain rfl:=Option.some.inj hz21
 exact hS.subR rfl
 replace hS:=hS.kb 42 hc22 rfl
 refine sg0 hS 3 [] [45] [.bool ((x2.2.toNat:Int)==((0:UInt8).toNat:Int))] [] (by kernel_rfl) fun s hS=>?_
 obtain⟨z23,hz23,hz21⟩:=bind_some hz21
 refine aH 5 (fun s=>Stt EV s [(50,.bool z23),(0,aa pA),(1,.int .i64 x2.1),(2,vB x2.2),(6,.pointer (some ⟨i1,0,none⟩)),(7,vB (gt pA x2.1)),(37,.bool true),(42,.bool false)] [[(i1,.row [.int .i64 0,.bool false,.bool false,vB 0] 141 0 true)]] F L F nx0) ?_ fun s hS=>?_
 refine bc hz23 (fun hc24 hz23=>?_) fun hc24 hz23=>?_
 replace hS:=hS.kb 45 hc24 rfl
 refine sg0 hS 2 [] [46,47] [aa (mid pA (w64 (x2.1+1)) (pA.length:Int)),.int .i64 o12] [] (by kernel_rfl) fun s hS=>?_
 obtain⟨hk25,hz23⟩:=ac hz23
 refine am hS (wt hS rfl rfl rfl rfl) rfl rfl rfl (v:=vB (gt (mid pA (w64 (x2.1+1)) (pA.length:Int)) o12)) (aA tu9 (hS.lk rfl) (hS.lk rfl) hk25) fun s hS=>(sg0 hS 2 [] [50] [.bool (((gt (mid pA (w64 (x2.1+1)) (pA.length:Int)) o12).toNat:Int)==((33:UInt8).toNat:Int))] [] (by kernel_rfl) fun s hS=>?_)
 refine KW.nil ?_
 obtain rfl:=Option.some.inj hz23
 exact hS.subR rfl
 replace hS:=hS.kb 45 hc24 rfl
 refine sg0 hS 5 [] [50] [.bool false] [] (by kernel_rfl) fun s hS=>(KW.nil ?_)
 obtain rfl:=Option.some.inj hz23
 exact hS.subR rfl
 refine sg0 hS 1 [] [51] [.bool z23] [] (by kernel_rfl) fun s hS=>(KW.nil ?_)
 obtain rfl:=Option.some.inj hz21
 exact hS.subR rfl
 refine sg0 hS 1 [] [52] [.bool z21] [] (by kernel_rfl) fun s hS=>(KW.nil ?_)
 obtain rfl:=Option.some.inj hz19
 exact hS.subR rfl
 replace hS:=hS.kb 37 hc20 rfl
 refine sg0 hS 5 [] [42] [undef] [] (by kernel_rfl) fun s hS=>(dx hS (wu hS rfl rfl rfl) rfl fun s hS=>?_)
 refine dx hS (wu hS rfl rfl rfl) rfl fun s hS=>(dx hS (wu hS rfl rfl rfl) rfl fun s hS=>?_)
 refine dx hS (wu hS rfl rfl rfl) rfl fun s hS=>(dx hS (wu hS rfl rfl rfl) rfl fun s hS=>?_)
 refine dx hS (wu hS rfl rfl rfl) rfl fun s hS=>(dx hS (wu hS rfl rfl rfl) rfl fun s hS=>?_)
 refine dx hS (wu hS rfl rfl rfl) rfl fun s hS=>(sg0 hS 2 [] [52] [.bool false] [] (by kernel_rfl) fun s hS=>?_)
 refine KW.nil ?_
 obtain rfl:=Option.some.inj hz19
 exact hS.subR rfl
 refine KW.nil (bc hz7 (fun hc26 hz7=>?_) fun hc26 hz7=>?_)
 refine WW.condK hS rfl hc26 (WW.seq ?_)
 refine WW.region (sg0 hS 2 [] [53,54] [.int .i64 x2.1,vB x2.2] [] (by kernel_rfl) fun s hS=>?_)
 refine am hS (wn rfl) rfl rfl rfl (v:= .agg #[.int .i64 x2.1,.bool false,.bool true,vB x2.2]) (bp jQ r6 [(0,.int .i64 x2.1),(2,.bool true),(3,vB x2.2)] (ar hS rfl) (cs:=[.int .i64 x2.1,.bool false,.bool true,vB x2.2]) rfl) fun s hS=>(sg hS 1 [0] [] [] [i1] [[(i1,.row [.int .i64 x2.1,.bool false,.bool true,vB x2.2] 141 0 true)]] (by kernel_rfl) fun s hS=>?_)
 refine KW.nil (WW.ret ?_)
 obtain rfl:=Option.some.inj hz7
 replace h5:=aj h5
 have hres:=(aL hS (t:=6) (ty:=141) rfl (p:=0) rfl rY r9 (ws:=[.int .i64 x2.1,.bool false,.bool true,vB x2.2]) rfl (aw (E:=EV) (s:=s)))
 replace hS:=hS.drop
 cases h5
 exact⟨_,rfl,rfl,fin hS (.inr rfl) hres (v:= .agg #[.int .i64 x2.1,.bool false,.bool true,vB x2.2]) rfl ⟨rfl,rfl,rfl⟩⟩
 refine WW.condF hS rfl hc26 (WW.skip ?_)
 refine WW.seq (WW.seq ?_)
 refine WW.region (sg0 hS 3 [] [58] [.bool ((x2.2.toNat:Int)==((0:UInt8).toNat:Int))] [] (by kernel_rfl) fun s hS=>?_)
 refine aH 3 (fun s=>Stt EV s [(61,.bool (((x2.2.toNat:Int)==((0:UInt8).toNat:Int))&&(((gt pA x2.1).toNat:Int)==((33:UInt8).toNat:Int)))),(0,aa pA),(1,.int .i64 x2.1),(2,vB x2.2),(6,.pointer (some ⟨i1,0,none⟩)),(7,vB (gt pA x2.1))] [[(i1,.row [.int .i64 0,.bool false,.bool false,vB 0] 141 0 true)]] F L F nx0) ?_ fun s hS=>?_
 rcases ax (((x2.2.toNat:Int)==((0:UInt8).toNat:Int))) with hcj | hcj
 replace hS:=hS.know (t:=58) rfl (congrArg Value.bool hcj)
 refine sg0 hS 3 [] [61] [.bool (((gt pA x2.1).toNat:Int)==((33:UInt8).toNat:Int))] [] (by kernel_rfl) fun s hS=>(KW.nil ?_)
 exact(hS.know (t:=61) (u':= .bool (((x2.2.toNat:Int)==((0:UInt8).toNat:Int))&&(((gt pA x2.1).toNat:Int)==((33:UInt8).toNat:Int)))) rfl (bw hcj)).subR rfl
 replace hS:=hS.know (t:=58) rfl (congrArg Value.bool hcj)
 refine sg0 hS 3 [] [61] [.bool false] [] (by kernel_rfl) fun s hS=>(KW.nil ?_)
 exact(hS.know (t:=61) (u':= .bool (((x2.2.toNat:Int)==((0:UInt8).toNat:Int))&&(((gt pA x2.1).toNat:Int)==((33:UInt8).toNat:Int)))) rfl (bx hcj)).subR rfl
 refine KW.nil (bc hz7 (fun hc27 hz7=>?_) fun hc27 hz7=>?_)
 refine WW.condK hS rfl hc27 (WW.exit ?_)
 refine af (gy rfl ?_)
 refine af ?_
 obtain rfl:=Option.some.inj hz7
 replace h5:=aj h5
 obtain rfl:=Option.some.inj h5
 exact⟨_,rfl,rfl,(hS.subR rfl)⟩
 refine WW.condF hS rfl hc27 (WW.skip ?_)
 refine WW.seq (WW.seq ?_)
 refine WW.region (sg0 hS 3 [] [64] [.bool ((x2.2.toNat:Int)==((0:UInt8).toNat:Int))] [] (by kernel_rfl) fun s hS=>?_)
 refine aH 3 (fun s=>Stt EV s [(67,.bool (((x2.2.toNat:Int)==((0:UInt8).toNat:Int))&&(((gt pA x2.1).toNat:Int)==((38:UInt8).toNat:Int)))),(0,aa pA),(1,.int .i64 x2.1),(2,vB x2.2),(6,.pointer (some ⟨i1,0,none⟩)),(7,vB (gt pA x2.1))] [[(i1,.row [.int .i64 0,.bool false,.bool false,vB 0] 141 0 true)]] F L F nx0) ?_ fun s hS=>?_
 rcases ax (((x2.2.toNat:Int)==((0:UInt8).toNat:Int))) with hcj | hcj
 replace hS:=hS.know (t:=64) rfl (congrArg Value.bool hcj)
 refine sg0 hS 3 [] [67] [.bool (((gt pA x2.1).toNat:Int)==((38:UInt8).toNat:Int))] [] (by kernel_rfl) fun s hS=>(KW.nil ?_)
 exact(hS.know (t:=67) (u':= .bool (((x2.2.toNat:Int)==((0:UInt8).toNat:Int))&&(((gt pA x2.1).toNat:Int)==((38:UInt8).toNat:Int)))) rfl (bw hcj)).subR rfl
 replace hS:=hS.know (t:=64) rfl (congrArg Value.bool hcj)
 refine sg0 hS 3 [] [67] [.bool false] [] (by kernel_rfl) fun s hS=>(KW.nil ?_)
 exact(hS.know (t:=67) (u':= .bool (((x2.2.toNat:Int)==((0:UInt8).toNat:Int))&&(((gt pA x2.1).toNat:Int)==((38:UInt8).toNat:Int)))) rfl (bx hcj)).subR rfl
 refine KW.nil (bc hz7 (fun hc28 hz7=>?_) fun hc28 hz7=>?_)
 refine WW.condK hS rfl hc28 (WW.seq ?_)
 refine WW.region (am hS (wn rfl) rfl rfl rfl (v:= .agg #[.int .i64 0,.bool true,.bool false,vB 0]) (bp jQ r6 [(1,.bool true)] (ar hS rfl) (cs:=[.int .i64 0,.bool true,.bool false,vB 0]) rfl) fun s hS=>?_)
 refine sg hS 1 [0] [] [] [i1] [[(i1,.row [.int .i64 0,.bool true,.bool false,vB 0] 141 0 true)]] (by kernel_rfl) fun s hS=>(KW.nil ?_)
 refine WW.ret ?_
 obtain rfl:=Option.some.inj hz7
 replace h5:=aj h5
 have hres:=(aL hS (t:=6) (ty:=141) rfl (p:=0) rfl rY r9 (ws:=[.int .i64 0,.bool true,.bool false,vB 0]) rfl (aw (E:=EV) (s:=s)))
 replace hS:=hS.drop
 cases h5
 exact⟨_,rfl,rfl,fin hS (.inr rfl) hres (v:= .agg #[.int .i64 0,.bool true,.bool false,vB 0]) rfl ⟨rfl,rfl,rfl⟩⟩
 refine WW.condF hS rfl hc28 (WW.skip ?_)
 refine WW.seq (WW.region ?_)
 refine sg0 hS 3 [] [71] [.bool ((x2.2.toNat:Int)==((0:UInt8).toNat:Int))] [] (by kernel_rfl) fun s hS=>(aH 7 (fun s=>Stt EV s [(78,.bool (((x2.2.toNat:Int)==((0:UInt8).toNat:Int))&&((((gt pA x2.1).toNat:Int)==((39:UInt8).toNat:Int))||(((gt pA x2.1).toNat:Int)==((34:UInt8).toNat:Int))))),(0,aa pA),(1,.int .i64 x2.1),(2,vB x2.2),(6,.pointer (some ⟨i1,0,none⟩)),(7,vB (gt pA x2.1))] [[(i1,.row [.int .i64 0,.bool false,.bool false,vB 0] 141 0 true)]] F L F nx0) ?_ fun s hS=>?_)
 rcases ax (((x2.2.toNat:Int)==((0:UInt8).toNat:Int))) with hcj | hcj
 replace hS:=hS.know (t:=71) rfl (congrArg Value.bool hcj)
 refine sg0 hS 3 [] [74] [.bool (((gt pA x2.1).toNat:Int)==((39:UInt8).toNat:Int))] [] (by kernel_rfl) fun s hS=>(aH 3 (fun s=>Stt EV s [(77,.bool ((((gt pA x2.1).toNat:Int)==((39:UInt8).toNat:Int))||(((gt pA x2.1).toNat:Int)==((34:UInt8).toNat:Int)))),(0,aa pA),(1,.int .i64 x2.1),(2,vB x2.2),(6,.pointer (some ⟨i1,0,none⟩)),(7,vB (gt pA x2.1)),(71,.bool true)] [[(i1,.row [.int .i64 0,.bool false,.bool false,vB 0] 141 0 true)]] F L F nx0) ?_ fun s hS=>?_)
 rcases ax ((((gt pA x2.1).toNat:Int)==((39:UInt8).toNat:Int))) with hcj | hcj
 replace hS:=hS.know (t:=74) rfl (congrArg Value.bool hcj)
 refine sg0 hS 3 [] [77] [.bool true] [] (by kernel_rfl) fun s hS=>(KW.nil ?_)
 exact(hS.know (t:=77) (u':= .bool ((((gt pA x2.1).toNat:Int)==((39:UInt8).toNat:Int))||(((gt pA x2.1).toNat:Int)==((34:UInt8).toNat:Int)))) rfl (cB hcj)).subR rfl
 replace hS:=hS.know (t:=74) rfl (congrArg Value.bool hcj)
 refine sg0 hS 3 [] [77] [.bool (((gt pA x2.1).toNat:Int)==((34:UInt8).toNat:Int))] [] (by kernel_rfl) fun s hS=>(KW.nil ?_)
 exact(hS.know (t:=77) (u':= .bool ((((gt pA x2.1).toNat:Int)==((39:UInt8).toNat:Int))||(((gt pA x2.1).toNat:Int)==((34:UInt8).toNat:Int)))) rfl (cC hcj)).subR rfl
 refine sg0 hS 1 [] [78] [.bool ((((gt pA x2.1).toNat:Int)==((39:UInt8).toNat:Int))||(((gt pA x2.1).toNat:Int)==((34:UInt8).toNat:Int)))] [] (by kernel_rfl) fun s hS=>(KW.nil ?_)
 exact(hS.know (t:=78) (u':= .bool (((x2.2.toNat:Int)==((0:UInt8).toNat:Int))&&((((gt pA x2.1).toNat:Int)==((39:UInt8).toNat:Int))||(((gt pA x2.1).toNat:Int)==((34:UInt8).toNat:Int))))) rfl (bw hcj)).subR rfl
 replace hS:=hS.know (t:=71) rfl (congrArg Value.bool hcj)
 refine sg0 hS 3 [] [74] [undef] [] (by kernel_rfl) fun s hS=>(dx hS (wu hS rfl rfl rfl) rfl fun s hS=>?_)
 refine dx hS (wu hS rfl rfl rfl) rfl fun s hS=>(sg0 hS 2 [] [78] [.bool false] [] (by kernel_rfl) fun s hS=>?_)
 refine KW.nil ?_
 exact(hS.know (t:=78) (u':= .bool (((x2.2.toNat:Int)==((0:UInt8).toNat:Int))&&((((gt pA x2.1).toNat:Int)==((39:UInt8).toNat:Int))||(((gt pA x2.1).toNat:Int)==((34:UInt8).toNat:Int))))) rfl (bx hcj)).subR rfl
 refine KW.nil (bc hz7 (fun hc29 hz7=>?_) fun hc29 hz7=>?_)
 refine WW.condK hS rfl hc29 (WW.region ?_)
 refine sg0 hS 2 [] [2] [vB (gt pA x2.1)] [] (by kernel_rfl) fun s hS=>(KW.nil ?_)
 obtain rfl:=Option.some.inj hz7
 exact⟨_,rfl,(hS.subR rfl)⟩
 refine WW.condF hS rfl hc29 (WW.seq ?_)
 refine WW.region (sg0 hS 3 [] [82] [.bool (((gt pA x2.1).toNat:Int)==(x2.2.toNat:Int))] [] (by kernel_rfl) fun s hS=>?_)
 refine KW.nil (bc hz7 (fun hc30 hz7=>?_) fun hc30 hz7=>?_)
 refine WW.condK hS rfl hc30 (WW.region ?_)
 refine sg0 hS 1 [] [2] [vB 0] [] (by kernel_rfl) fun s hS=>(KW.nil ?_)
 obtain rfl:=Option.some.inj hz7
 exact⟨_,rfl,(hS.subR rfl)⟩
 refine WW.condF hS rfl hc30 (WW.skip ?_)
 obtain rfl:=Option.some.inj hz7
 exact⟨_,rfl,(hS.subR rfl)⟩
 rintro s ⟨z8,rfl,hS⟩
 replace h5:=aB h5
 refine WW.region (sg0 hS 3 [] [1] [.int .i64 (w64 (x2.1+1))] [] (by kernel_rfl) fun s hS=>?_)
 refine KW.nil ?_
 obtain rfl:=Option.some.inj h5
 exact⟨_,rfl,(hS.subR rfl)⟩
 refine WW.condF hS rfl hc6 (WW.exit ?_)
 refine af ?_
 obtain rfl:=Option.some.inj h5
 exact⟨_,rfl,rfl,(hS.subR rfl)⟩
 clear hS
 rcases o3 with y31 | y31
 rintro e s ⟨rfl,hS⟩
 replace h:=aB h
 refine ah (WW.seq ?_)
 refine WW.region (sg0 hS 2 [] [83,84] [.int .i64 y31.1,vB y31.2] [] (by kernel_rfl) fun s hS=>?_)
 refine am hS (wn rfl) rfl rfl rfl (v:= .agg #[.int .i64 y31.1,.bool false,.bool false,vB y31.2]) (bp jQ r6 [(0,.int .i64 y31.1),(3,vB y31.2)] (ar hS rfl) (cs:=[.int .i64 y31.1,.bool false,.bool false,vB y31.2]) rfl) fun s hS=>(sg hS 1 [0] [] [] [i1] [[(i1,.row [.int .i64 y31.1,.bool false,.bool false,vB y31.2] 141 0 true)]] (by kernel_rfl) fun s hS=>?_)
 refine KW.nil (WW.ret ?_)
 have hres:=(aL hS (t:=6) (ty:=141) rfl (p:=0) rfl rY r9 (ws:=[.int .i64 y31.1,.bool false,.bool false,vB y31.2]) rfl (aw (E:=EV) (s:=s)))
 replace hS:=hS.drop
 cases h
 exact fin hS (.inr rfl) hres (v:= .agg #[.int .i64 y31.1,.bool false,.bool false,vB y31.2]) rfl ⟨rfl,rfl,rfl⟩
 rintro e s ⟨rfl,hfin⟩
 replace h:=aj h
 obtain rfl:=Option.some.inj h
 exact hfin
noncomputable def g_o.f (pA:Int) (pB:Int):Option ((List (Int×List UInt8×(List (Int×Int×Int))))×List Int×Int×Int) :=
  some (([]:List (Int×List UInt8×(List (Int×Int×Int)))),([]:List Int),pA,pB)
theorem g_o.ok {pA:Int} {pB:Int} {F:FZ} {r:(List (Int×List UInt8×(List (Int×Int×Int))))×List Int×Int×Int} (h:g_o.f pA pB=some r) :
    Cl EV 87 [.int .i64 pA,.int .i64 pB] [] F (fun v S' F'=> ∃(ra1:Option Addr) (rz2:Nat) (rB4:Seg) (ra5:Option Addr) (rz6:Nat) (rB8:Seg),F=F'∧v= .agg #[.slice ra1 r.1.length rz2,.slice ra5 r.2.1.length rz6,.int .i64 r.2.2.1,.int .i64 r.2.2.2]∧S'= [rB4,rB8]∧Own bs F' ra1 rz2 r.1 rB4∧Own (elI .i64 3) F' ra5 rz6 r.2.1 rB8):=by
 refine Cl.of Tryz.func87 rfl (fun _ _=>rfl) (by kernel_rfl) fun s L nx0 hS=>?_
 unfold g_o.f at h
 refine WW.seq (WW.region ?_)
 refine bf hS (wn rfl) rfl rfl rfl (v:=fun i=> .pointer (some ⟨i,0,none⟩)) (b:= .row [.slice none 0 0,.slice none 0 0,.int .i64 0,.int .i64 0] 55 0 true) (aU eU) fun s i1 hS=>(KW.nil ?_)
 refine WW.seq (WW.region ?_)
 refine sg0 hS 2 [] [5,6] [.int .i64 pA,.int .i64 pB] [] (by kernel_rfl) fun s hS=>(am hS (wn rfl) rfl rfl rfl (v:= .agg #[.slice none 0 0,.slice none 0 0,.int .i64 pA,.int .i64 pB]) (bp eU tp55 [(2,.int .i64 pA),(3,.int .i64 pB)] (ar hS rfl) (cs:=[.slice none 0 0,.slice none 0 0,.int .i64 pA,.int .i64 pB]) rfl) fun s hS=>?_)
 refine sg hS 1 [0] [] [] [i1] [[(i1,.row [.slice none 0 0,.slice none 0 0,.int .i64 pA,.int .i64 pB] 55 0 true)]] (by kernel_rfl) fun s hS=>(KW.nil ?_)
 refine WW.ret ?_
 replace hS:=hS.gap0
 replace hS:=hS.gap0
 have hres:=(aL hS (t:=4) (ty:=55) rfl (p:=2) rfl ee ef (ws:=[.slice none ([]:List (Int×List UInt8×(List (Int×Int×Int)))).length 0,.slice none ([]:List Int).length 0,.int .i64 pA,.int .i64 pB]) rfl (aw (E:=EV) (s:=s)))
 replace hS:=(hS.pull 2).drop
 replace hS:=hS.pull 1
 cases h
 exact fin hS (.inr rfl) hres (v:= .agg #[.slice none ([]:List (Int×List UInt8×(List (Int×Int×Int)))).length 0,.slice none ([]:List Int).length 0,.int .i64 pA,.int .i64 pB]) rfl ⟨_,_,_,_,_,_,rfl,rfl,rfl,Own.nil,Own.nil⟩
noncomputable def g_d.b0 (pB:List UInt8) (x3:Int):Option ((Int)⊕(Int)) :=
  Option.bind ((if(decide (x3<(pB.length:Int))) then(if 0≤x3∧x3<(pB.length:Int) then some (((gt pB x3).toNat:Int)==((32:UInt8).toNat:Int)) else none) else some false)) fun z7=>(if z7 then some (.inl (w64 (x3+1))) else some (.inr x3))
noncomputable def g_d.f (pA:Int) (pB:List UInt8) (pC:List (Int×Int×Int)) (pI:Int):Option (Int×List UInt8×(List (Int×Int×Int))) :=
  Option.bind (iter (g_d.b0 pB) pI) fun o4=>(if 0≤o4∧o4≤(pB.length:Int)∧(pB.length:Int)≤(pB.length:Int) then(if 0≤o4∧o4≤(pC.length:Int)∧(pC.length:Int)≤(pC.length:Int) then some (pA,(mid pB o4 (pB.length:Int)),(mid pC o4 (pC.length:Int))) else none) else none)
theorem g_d.ok {aE:Option Addr} {zH:Nat} {pA:Int} {pB:List UInt8} {pC:List (Int×Int×Int)} {pI:Int} {F:FZ} {r:Int×List UInt8×(List (Int×Int×Int))} (h:g_d.f pA pB pC pI=some r) (hI:Frz dj F aE zH pC) :
    Cl EV 128 [.agg #[.int .i64 pA,aa pB,.slice aE pC.length zH],.int .i64 pI] [] F (fun v S' F'=> ∃(ra1:Option Addr) (rz2:Nat),F=F'∧v= .agg #[.int .i64 r.1,aa r.2.1,.slice ra1 r.2.2.length rz2]∧S'= []∧Frz dj F' ra1 rz2 r.2.2):=by
 refine Cl.of Tryz.func128 rfl (fun _ _=>rfl) (by kernel_rfl) fun s L nx0 hS=>?_
 unfold g_d.f at h
 refine WW.seq (WW.region ?_)
 refine bf hS (wn rfl) rfl rfl rfl (v:=fun i=> .pointer (some ⟨i,0,none⟩)) (b:= .row [.int .i64 pA,aa pB,.slice aE pC.length zH] 61 0 true) (br (hS.lk rfl) rfl [.int .i64 pA,aa pB,.slice aE pC.length zH] rfl) fun s i1 hS=>(bf hS (wn rfl) rfl rfl rfl (v:=fun i=> .pointer (some ⟨i,0,none⟩)) (b:= .row [.int .i64 0,aa ([]),.slice none 0 0] 61 0 true) (aU ed) fun s i2 hS=>?_)
 refine KW.nil (WW.seq ?_)
 refine WW.block ?_
 obtain⟨o4,ho4,h⟩:=bind_some h
 refine WW.loop (LW.iterE ho4 (fun(x3:Int) s=>Stt EV s [(1,.int .i64 x3),(2,.pointer (some ⟨i1,0,none⟩)),(4,.pointer (some ⟨i2,0,none⟩))] [[(i2,.row [.int .i64 0,aa ([]),.slice none 0 0] 61 0 true)],[(i1,.row [.int .i64 pA,aa pB,.slice aE pC.length zH] 61 0 true)]] F L F nx0) 0 (hS.subR rfl) ?_ ?_)
 clear hS
 rintro x3 s hS o4' h6
 unfold g_d.b0 at h6
 refine WW.seq (WW.seq ?_)
 refine WW.region (sg0 hS 6 [1] [10] [.bool (decide (x3<(pB.length:Int)))] [i1] (by kernel_rfl) fun s hS=>?_)
 obtain⟨z7,hz7,h6⟩:=bind_some h6
 refine aH 6 (fun s=>Stt EV s [(16,.bool z7),(1,.int .i64 x3),(2,.pointer (some ⟨i1,0,none⟩)),(4,.pointer (some ⟨i2,0,none⟩))] [[(i2,.row [.int .i64 0,aa ([]),.slice none 0 0] 61 0 true)],[(i1,.row [.int .i64 pA,aa pB,.slice aE pC.length zH] 61 0 true)]] F L F nx0) ?_ fun s hS=>?_
 refine bc hz7 (fun hc8 hz7=>?_) fun hc8 hz7=>?_
 replace hS:=hS.kb 10 hc8 rfl
 refine sg0 hS 3 [1] [12,13] [aa pB,.int .i64 x3] [i1] (by kernel_rfl) fun s hS=>?_
 obtain⟨hk9,hz7⟩:=ac hz7
 refine am hS (wt hS rfl rfl rfl rfl) rfl rfl rfl (v:=vB (gt pB x3)) (aA tu9 (hS.lk rfl) (hS.lk rfl) hk9) fun s hS=>(sg0 hS 2 [] [16] [.bool (((gt pB x3).toNat:Int)==((32:UInt8).toNat:Int))] [] (by kernel_rfl) fun s hS=>?_)
 refine KW.nil ?_
 obtain rfl:=Option.some.inj hz7
 exact hS.subR rfl
 replace hS:=hS.kb 10 hc8 rfl
 refine sg0 hS 6 [] [16] [.bool false] [] (by kernel_rfl) fun s hS=>(KW.nil ?_)
 obtain rfl:=Option.some.inj hz7
 exact hS.subR rfl
 refine KW.nil (bc h6 (fun hc10 h6=>?_) fun hc10 h6=>?_)
 refine WW.condK hS rfl hc10 (WW.skip ?_)
 refine WW.block (WW.region ?_)
 refine sg0 hS 3 [] [1] [.int .i64 (w64 (x3+1))] [] (by kernel_rfl) fun s hS=>(KW.nil ?_)
 obtain rfl:=Option.some.inj h6
 exact⟨_,rfl,(hS.subR rfl)⟩
 refine WW.condF hS rfl hc10 (WW.exit ?_)
 refine af ?_
 obtain rfl:=Option.some.inj h6
 exact⟨_,rfl,rfl,(hS.subR rfl)⟩
 clear hS
 rintro e s ⟨rfl,hS⟩
 refine ah (WW.seq ?_)
 refine WW.regionD (i:=[[],[],[1,0],[],[3,2,1,0],[3,2,1,0],[5,4,3,2,1,0],[3,2,1,0],[7,6],[7,6],[],[]]) (by kernel_rfl) ?_
 have hq:=RS.start [i2,i1]
 refine kg hS hq 1 [19] [.pointer (some ⟨i1,1,none⟩)] (by kernel_rfl) fun s rs hS hq=>(K.ld hS hq rfl (wn rfl) rfl rfl rfl (hS.at (k:=1) rfl) tg9 (v:=aa pB) rfl 1 rfl rfl fun s rs hS hq=>?_)
 refine kg hS hq 1 [21] [.int .i64 o4] (by kernel_rfl) fun s rs hS hq=>?_
 obtain⟨hk11,h⟩:=ac h
 refine K.pu hS hq rfl (wn rfl) rfl rfl rfl (v:=aa (mid pB o4 (pB.length:Int))) (cu tu9 (hS.lk rfl) (i:=o4) (j:=(pB.length:Int)) (bu hS rfl) rfl hk11) fun s rs hS hq=>(kg hS hq 1 [23] [.pointer (some ⟨i1,2,none⟩)] (by kernel_rfl) fun s rs hS hq=>?_)
 refine K.ld hS hq rfl (wn rfl) rfl rfl rfl (hS.at (k:=1) rfl) nW (v:= .slice aE pC.length zH) rfl 1 rfl rfl fun s rs hS hq=>(kg hS hq 1 [25] [.int .i64 o4] (by kernel_rfl) fun s rs hS hq=>?_)
 obtain⟨hk12,h⟩:=ac h
 obtain⟨a13,he14,hz15⟩:=Frz.slice hI hk12 (m:=3) rfl
 refine K.pu hS hq rfl (wn rfl) rfl rfl rfl (v:= .slice a13 (mid pC o4 (pC.length:Int)).length zH) (di te59 (hS.lk rfl) (i:=o4) (h:=(pC.length:Int)) (bu hS rfl) rfl he14) fun s rs hS hq=>(kg hS hq 1 [27] [.pointer (some ⟨i1,1,none⟩)] (by kernel_rfl) fun s rs hS hq=>?_)
 refine K.sto hS hq rfl (wn rfl) rfl rfl rfl rfl (p:=1) rfl tz9 rfl [.int .i64 pA,aa (mid pB o4 (pB.length:Int)),.slice aE pC.length zH] rfl [0] rfl (aZ rfl mm0 bv) fun s rs hS hq=>(kg hS hq 1 [28] [.pointer (some ⟨i1,2,none⟩)] (by kernel_rfl) fun s rs hS hq=>?_)
 refine K.sto hS hq rfl (wn rfl) rfl rfl rfl rfl (p:=1) rfl tz59 rfl [.int .i64 pA,aa (mid pB o4 (pB.length:Int)),.slice a13 (mid pC o4 (pC.length:Int)).length zH] rfl [0] rfl (aZ rfl mm0 bv) fun s rs hS hq=>(KW.nil ?_)
 refine WW.seq (WW.region ?_)
 refine sg hS 2 [1,0] [] [] [i1,i2] [[(i2,.row [.int .i64 pA,aa (mid pB o4 (pB.length:Int)),.slice a13 (mid pC o4 (pC.length:Int)).length zH] 61 0 true)],[(i1,.row [.int .i64 pA,aa (mid pB o4 (pB.length:Int)),.slice a13 (mid pC o4 (pC.length:Int)).length zH] 61 0 true)]] (by kernel_rfl) fun s hS=>(KW.nil ?_)
 refine WW.ret ?_
 have hres:=(aL hS (t:=4) (ty:=61) rfl (p:=0) rfl qt kp (ws:=[.int .i64 pA,aa (mid pB o4 (pB.length:Int)),.slice a13 (mid pC o4 (pC.length:Int)).length zH]) rfl (aw (E:=EV) (s:=s)))
 replace hS:=hS.drop
 replace hS:=hS.drop
 cases h
 exact fin hS (.inr rfl) hres (v:= .agg #[.int .i64 pA,aa (mid pB o4 (pB.length:Int)),.slice a13 (mid pC o4 (pC.length:Int)).length zH]) rfl ⟨_,_,rfl,rfl,rfl,hz15⟩
noncomputable def g_n.b0 (pB:List UInt8) (x3:Int):Option ((Int)⊕(Int)) :=
  Option.bind ((if(decide (x3>0)) then(if 0≤(w64 (x3-1))∧(w64 (x3-1))<(pB.length:Int) then some (((gt pB (w64 (x3-1))).toNat:Int)==((32:UInt8).toNat:Int)) else none) else some false)) fun z7=>(if z7 then some (.inl (w64 (x3-1))) else some (.inr x3))
noncomputable def g_n.f (pA:Int) (pB:List UInt8) (pC:List (Int×Int×Int)):Option (Int×List UInt8×(List (Int×Int×Int))) :=
  Option.bind (iter (g_n.b0 pB) (pB.length:Int)) fun o4=>(if 0≤(0:Int)∧(0:Int)≤o4∧o4≤(pB.length:Int) then(if 0≤(0:Int)∧(0:Int)≤o4∧o4≤(pC.length:Int) then some (pA,(mid pB (0:Int) o4),(mid pC (0:Int) o4)) else none) else none)
theorem g_n.ok {aE:Option Addr} {zH:Nat} {pA:Int} {pB:List UInt8} {pC:List (Int×Int×Int)} {F:FZ} {r:Int×List UInt8×(List (Int×Int×Int))} (h:g_n.f pA pB pC=some r) (hI:Frz dj F aE zH pC) :
    Cl EV 92 [.agg #[.int .i64 pA,aa pB,.slice aE pC.length zH]] [] F (fun v S' F'=> ∃(ra1:Option Addr) (rz2:Nat),F=F'∧v= .agg #[.int .i64 r.1,aa r.2.1,.slice ra1 r.2.2.length rz2]∧S'= []∧Frz dj F' ra1 rz2 r.2.2):=by
 refine Cl.of Tryz.func92 rfl (fun _ _=>rfl) (by kernel_rfl) fun s L nx0 hS=>?_
 unfold g_n.f at h
 refine WW.seq (WW.region ?_)
 refine bf hS (wn rfl) rfl rfl rfl (v:=fun i=> .pointer (some ⟨i,0,none⟩)) (b:= .row [.int .i64 pA,aa pB,.slice aE pC.length zH] 61 0 true) (br (hS.lk rfl) rfl [.int .i64 pA,aa pB,.slice aE pC.length zH] rfl) fun s i1 hS=>(bf hS (wn rfl) rfl rfl rfl (v:=fun i=> .pointer (some ⟨i,0,none⟩)) (b:= .row [.int .i64 0,aa ([]),.slice none 0 0] 61 0 true) (aU ed) fun s i2 hS=>?_)
 refine KW.nil (WW.seq ?_)
 refine WW.region (sg0 hS 4 [1] [3] [.int .i64 (pB.length:Int)] [i1] (by kernel_rfl) fun s hS=>?_)
 refine KW.nil (WW.seq ?_)
 refine WW.block ?_
 obtain⟨o4,ho4,h⟩:=bind_some h
 refine WW.loop (LW.iterE ho4 (fun(x3:Int) s=>Stt EV s [(1,.pointer (some ⟨i1,0,none⟩)),(2,.pointer (some ⟨i2,0,none⟩)),(3,.int .i64 x3)] [[(i2,.row [.int .i64 0,aa ([]),.slice none 0 0] 61 0 true)],[(i1,.row [.int .i64 pA,aa pB,.slice aE pC.length zH] 61 0 true)]] F L F nx0) 0 (hS.subR rfl) ?_ ?_)
 clear hS
 rintro x3 s hS o4' h6
 unfold g_n.b0 at h6
 refine WW.seq (WW.seq ?_)
 refine WW.region (sg0 hS 3 [] [9] [.bool (decide (x3>0))] [] (by kernel_rfl) fun s hS=>?_)
 obtain⟨z7,hz7,h6⟩:=bind_some h6
 refine aH 7 (fun s=>Stt EV s [(16,.bool z7),(1,.pointer (some ⟨i1,0,none⟩)),(2,.pointer (some ⟨i2,0,none⟩)),(3,.int .i64 x3)] [[(i2,.row [.int .i64 0,aa ([]),.slice none 0 0] 61 0 true)],[(i1,.row [.int .i64 pA,aa pB,.slice aE pC.length zH] 61 0 true)]] F L F nx0) ?_ fun s hS=>?_
 refine bc hz7 (fun hc8 hz7=>?_) fun hc8 hz7=>?_
 replace hS:=hS.kb 9 hc8 rfl
 refine sg0 hS 4 [1] [11,13] [aa pB,.int .i64 (w64 (x3-1))] [i1] (by kernel_rfl) fun s hS=>?_
 obtain⟨hk9,hz7⟩:=ac hz7
 refine am hS (wt hS rfl rfl rfl rfl) rfl rfl rfl (v:=vB (gt pB (w64 (x3-1)))) (aA tu9 (hS.lk rfl) (hS.lk rfl) hk9) fun s hS=>(sg0 hS 2 [] [16] [.bool (((gt pB (w64 (x3-1))).toNat:Int)==((32:UInt8).toNat:Int))] [] (by kernel_rfl) fun s hS=>?_)
 refine KW.nil ?_
 obtain rfl:=Option.some.inj hz7
 exact hS.subR rfl
 replace hS:=hS.kb 9 hc8 rfl
 refine sg0 hS 7 [] [16] [.bool false] [] (by kernel_rfl) fun s hS=>(KW.nil ?_)
 obtain rfl:=Option.some.inj hz7
 exact hS.subR rfl
 refine KW.nil (bc h6 (fun hc10 h6=>?_) fun hc10 h6=>?_)
 refine WW.condK hS rfl hc10 (WW.skip ?_)
 refine WW.block (WW.region ?_)
 refine sg0 hS 3 [] [3] [.int .i64 (w64 (x3-1))] [] (by kernel_rfl) fun s hS=>(KW.nil ?_)
 obtain rfl:=Option.some.inj h6
 exact⟨_,rfl,(hS.subR rfl)⟩
 refine WW.condF hS rfl hc10 (WW.exit ?_)
 refine af ?_
 obtain rfl:=Option.some.inj h6
 exact⟨_,rfl,rfl,(hS.subR rfl)⟩
 clear hS
 rintro e s ⟨rfl,hS⟩
 refine ah (WW.seq ?_)
 refine WW.regionD (i:=[[],[],[1,0],[],[3,2,1,0],[3,2,1,0],[5,4,3,2,1,0],[3,2,1,0],[7,6],[7,6],[],[]]) (by kernel_rfl) ?_
 have hq:=RS.start [i2,i1]
 refine kg hS hq 1 [19] [.pointer (some ⟨i1,1,none⟩)] (by kernel_rfl) fun s rs hS hq=>(K.ld hS hq rfl (wn rfl) rfl rfl rfl (hS.at (k:=1) rfl) tg9 (v:=aa pB) rfl 1 rfl rfl fun s rs hS hq=>?_)
 refine kg hS hq 1 [21] [.int .i64 o4] (by kernel_rfl) fun s rs hS hq=>?_
 obtain⟨hk11,h⟩:=ac h
 refine K.pu hS hq rfl (wn rfl) rfl rfl rfl (v:=aa (mid pB (0:Int) o4)) (cu tu9 (hS.lk rfl) (i:=(0:Int)) (j:=o4) rfl (bu hS rfl) hk11) fun s rs hS hq=>(kg hS hq 1 [23] [.pointer (some ⟨i1,2,none⟩)] (by kernel_rfl) fun s rs hS hq=>?_)
 refine K.ld hS hq rfl (wn rfl) rfl rfl rfl (hS.at (k:=1) rfl) nW (v:= .slice aE pC.length zH) rfl 1 rfl rfl fun s rs hS hq=>(kg hS hq 1 [25] [.int .i64 o4] (by kernel_rfl) fun s rs hS hq=>?_)
 obtain⟨hk12,h⟩:=ac h
 obtain⟨a13,he14,hz15⟩:=Frz.slice hI hk12 (m:=3) rfl
 refine K.pu hS hq rfl (wn rfl) rfl rfl rfl (v:= .slice a13 (mid pC (0:Int) o4).length zH) (di te59 (hS.lk rfl) (i:=(0:Int)) (h:=o4) rfl (bu hS rfl) he14) fun s rs hS hq=>(kg hS hq 1 [27] [.pointer (some ⟨i1,1,none⟩)] (by kernel_rfl) fun s rs hS hq=>?_)
 refine K.sto hS hq rfl (wn rfl) rfl rfl rfl rfl (p:=1) rfl tz9 rfl [.int .i64 pA,aa (mid pB (0:Int) o4),.slice aE pC.length zH] rfl [0] rfl (aZ rfl mm0 bv) fun s rs hS hq=>(kg hS hq 1 [28] [.pointer (some ⟨i1,2,none⟩)] (by kernel_rfl) fun s rs hS hq=>?_)
 refine K.sto hS hq rfl (wn rfl) rfl rfl rfl rfl (p:=1) rfl tz59 rfl [.int .i64 pA,aa (mid pB (0:Int) o4),.slice a13 (mid pC (0:Int) o4).length zH] rfl [0] rfl (aZ rfl mm0 bv) fun s rs hS hq=>(KW.nil ?_)
 refine WW.seq (WW.region ?_)
 refine sg hS 2 [1,0] [] [] [i1,i2] [[(i2,.row [.int .i64 pA,aa (mid pB (0:Int) o4),.slice a13 (mid pC (0:Int) o4).length zH] 61 0 true)],[(i1,.row [.int .i64 pA,aa (mid pB (0:Int) o4),.slice a13 (mid pC (0:Int) o4).length zH] 61 0 true)]] (by kernel_rfl) fun s hS=>(KW.nil ?_)
 refine WW.ret ?_
 have hres:=(aL hS (t:=2) (ty:=61) rfl (p:=0) rfl qt kp (ws:=[.int .i64 pA,aa (mid pB (0:Int) o4),.slice a13 (mid pC (0:Int) o4).length zH]) rfl (aw (E:=EV) (s:=s)))
 replace hS:=hS.drop
 replace hS:=hS.drop
 cases h
 exact fin hS (.inr rfl) hres (v:= .agg #[.int .i64 pA,aa (mid pB (0:Int) o4),.slice a13 (mid pC (0:Int) o4).length zH]) rfl ⟨_,_,rfl,rfl,rfl,hz15⟩
noncomputable def g_l.f (pA:UInt8):Option (Bool) :=
  some ((decide ((pA.toNat:Int)≥((48:UInt8).toNat:Int)))&&(decide ((pA.toNat:Int)≤((57:UInt8).toNat:Int))))
theorem g_l.ok {pA:UInt8} {F:FZ} {r:Bool} (h:g_l.f pA=some r) :
    Cl EV 79 [vB pA] [] F (fun v S' F'=>F=F'∧v= .bool r∧S'= []):=by
 refine Cl.of Tryz.func79 rfl (fun _ _=>rfl) (by kernel_rfl) fun s L nx0 hS=>?_
 unfold g_l.f at h
 refine WW.seq (WW.region ?_)
 refine sg0 hS 1 [] [2] [.bool false] [] (by kernel_rfl) fun s hS=>(KW.nil ?_)
 refine WW.seq (WW.region ?_)
 refine sg0 hS 3 [] [5] [.bool (decide ((pA.toNat:Int)≥((48:UInt8).toNat:Int)))] [] (by kernel_rfl) fun s hS=>(aH 3 (fun s=>Stt EV s [(8,.bool ((decide ((pA.toNat:Int)≥((48:UInt8).toNat:Int)))&&(decide ((pA.toNat:Int)≤((57:UInt8).toNat:Int))))),(2,.bool false)] [] F L F nx0) ?_ fun s hS=>?_)
 rcases ax ((decide ((pA.toNat:Int)≥((48:UInt8).toNat:Int)))) with hcj | hcj
 replace hS:=hS.know (t:=5) rfl (congrArg Value.bool hcj)
 refine sg0 hS 3 [] [8] [.bool (decide ((pA.toNat:Int)≤((57:UInt8).toNat:Int)))] [] (by kernel_rfl) fun s hS=>(KW.nil ?_)
 exact(hS.know (t:=8) (u':= .bool ((decide ((pA.toNat:Int)≥((48:UInt8).toNat:Int)))&&(decide ((pA.toNat:Int)≤((57:UInt8).toNat:Int))))) rfl (bw hcj)).subR rfl
 replace hS:=hS.know (t:=5) rfl (congrArg Value.bool hcj)
 refine sg0 hS 3 [] [8] [.bool false] [] (by kernel_rfl) fun s hS=>(KW.nil ?_)
 exact(hS.know (t:=8) (u':= .bool ((decide ((pA.toNat:Int)≥((48:UInt8).toNat:Int)))&&(decide ((pA.toNat:Int)≤((57:UInt8).toNat:Int))))) rfl (bx hcj)).subR rfl
 refine sg0 hS 1 [] [2] [.bool ((decide ((pA.toNat:Int)≥((48:UInt8).toNat:Int)))&&(decide ((pA.toNat:Int)≤((57:UInt8).toNat:Int))))] [] (by kernel_rfl) fun s hS=>(KW.nil ?_)
 refine WW.ret ?_
 cases h
 exact aS hS (.inr rfl) 2 rfl rfl ⟨rfl,rfl,rfl⟩
noncomputable def g_h.b0 (y8:Int×List UInt8×(List (Int×Int×Int))) (x13:Int):Option ((Int)⊕(Int)) :=
  Option.bind ((if(decide (x13<(y8.2.1.length:Int))) then(if 0≤x13∧x13<(y8.2.1.length:Int) then Option.bind (g_l.f (gt y8.2.1 x13)) fun y20=>some y20 else none) else some false)) fun z17=>(if z17 then some (.inl (w64 (x13+1))) else some (.inr x13))
noncomputable def g_h.b1 (y8:Int×List UInt8×(List (Int×Int×Int))) (o14:Int) (x34:Int×Int):Option ((Int×Int)⊕(Int×Int)) :=
  (if(decide (x34.2<o14)) then(if 0≤x34.2∧x34.2<(y8.2.1.length:Int) then some (.inl ((w64 ((w64 (10*x34.1))+(IntKind.i64.wrap (((gt y8.2.1 x34.2)-48).toNat:Int)))),(w64 (x34.2+1)))) else none) else some (.inr (x34.1,x34.2)))
noncomputable def g_h.f (pA:Int) (pB:List UInt8) (pC:List (Int×Int×Int)):Option (Int×List UInt8×(List (Int×Int×Int))×Int) :=
  Option.bind (g_d.f pA pB pC 0) fun y3=>Option.bind (g_n.f y3.1 y3.2.1 y3.2.2) fun y8=>Option.bind (iter (g_h.b0 y8) 0) fun o14=>Option.bind (Option.bind (g_4.f o14 1 5) fun y28=>Option.bind ((if(y28&&(decide (o14<(y8.2.1.length:Int)))) then(if 0≤o14∧o14<(y8.2.1.length:Int) then some (((gt y8.2.1 o14).toNat:Int)==((32:UInt8).toNat:Int)) else none) else some false)) fun z30=>(if z30 then Option.bind (iter (g_h.b1 y8 o14) (0,0)) fun o35=>(if(o35.1==0) then some (.inr (y8.1,y8.2.1,y8.2.2,2)) else Option.bind (g_d.f y8.1 y8.2.1 y8.2.2 o14) fun y41=>some (.inl (o35.1,y41.2.1,y41.2.2))) else some (.inl (y8.1,y8.2.1,y8.2.2)))) fun z23=>bj z23 fun z24=>(if(decide ((z24.2.1.length:Int)>1320)) then some (z24.1,z24.2.1,z24.2.2,8) else some (z24.1,z24.2.1,z24.2.2,0))
theorem g_h.ok {aE:Option Addr} {zH:Nat} {pA:Int} {pB:List UInt8} {pC:List (Int×Int×Int)} {F:FZ} {r:Int×List UInt8×(List (Int×Int×Int))×Int} (h:g_h.f pA pB pC=some r) (hI:Frz dj F aE zH pC) :
    Cl EV 89 [.agg #[.int .i64 pA,aa pB,.slice aE pC.length zH]] [] F (fun v S' F'=> ∃(ra1:Option Addr) (rz2:Nat),F=F'∧v= .tuple #[.agg #[.int .i64 r.1,aa r.2.1,.slice ra1 r.2.2.1.length rz2],.int .i64 r.2.2.2]∧S'= []∧Frz dj F' ra1 rz2 r.2.2.1):=by
 refine Cl.of Tryz.func89 rfl (fun _ _=>rfl) (by kernel_rfl) fun s L nx0 hS=>?_
 unfold g_h.f at h
 refine WW.seq (WW.region ?_)
 refine bf hS (wn rfl) rfl rfl rfl (v:=fun i=> .pointer (some ⟨i,0,none⟩)) (b:= .row [.int .i64 pA,aa pB,.slice aE pC.length zH] 61 0 true) (br (hS.lk rfl) rfl [.int .i64 pA,aa pB,.slice aE pC.length zH] rfl) fun s i1 hS=>(bf hS (wn rfl) rfl rfl rfl (v:=fun i=> .pointer (some ⟨i,0,none⟩)) (b:= .row [.int .i64 0,aa ([]),.slice none 0 0] 61 0 true) (aU ed) fun s i2 hS=>?_)
 refine sg0 hS 1 [] [3] [.int .i64 0] [] (by kernel_rfl) fun s hS=>(KW.nil ?_)
 refine WW.seq (WW.region ?_)
 refine sg0 hS 1 [1] [7] [.agg #[.int .i64 pA,aa pB,.slice aE pC.length zH]] [i1] (by kernel_rfl) fun s hS=>?_
 obtain⟨y3,hy3,h⟩:=bind_some h
 refine bE hS (wn rfl) (vs:=[.agg #[.int .i64 pA,aa pB,.slice aE pC.length zH],.int .i64 0]) (ws:=[.agg #[.int .i64 pA,aa pB,.slice aE pC.length zH],.int .i64 0]) rfl rfl rfl rfl rfl 0 rfl (g_d.ok hy3 hI) fun s v S' F' hp4 hF hS=>?_
 obtain⟨a5,z6,rfl,rfl,rfl,h7⟩:=hp4
 obtain⟨y8,hy8,h⟩:=bind_some h
 refine cK (g_n.ok hy8 h7) hS 0 9 0 rfl (by kernel_rfl) fun s v S' F' hp9 hF hS=>?_
 obtain⟨a10,z11,rfl,rfl,rfl,h12⟩:=hp9
 refine sg hS 1 [1] [] [] [i1] [[(i2,.row [.int .i64 0,aa ([]),.slice none 0 0] 61 0 true)],[(i1,.row [.int .i64 y8.1,aa y8.2.1,.slice a10 y8.2.2.length z11] 61 0 true)]] (by kernel_rfl) fun s hS=>(KW.nil ?_)
 refine WW.seq (WW.region ?_)
 refine sg0 hS 1 [] [4] [.int .i64 0] [] (by kernel_rfl) fun s hS=>(KW.nil ?_)
 refine WW.seq (WW.block ?_)
 obtain⟨o14,ho14,h⟩:=bind_some h
 refine WW.loop (LW.iterE ho14 (fun(x13:Int) s=>Stt EV s [(1,.pointer (some ⟨i1,0,none⟩)),(2,.pointer (some ⟨i2,0,none⟩)),(3,.int .i64 0),(4,.int .i64 x13)] [[(i2,.row [.int .i64 0,aa ([]),.slice none 0 0] 61 0 true)],[(i1,.row [.int .i64 y8.1,aa y8.2.1,.slice a10 y8.2.2.length z11] 61 0 true)]] F L F nx0) 0 (hS.subR rfl) ?_ ?_)
 clear hS
 rintro x13 s hS o14' h16
 unfold g_h.b0 at h16
 refine WW.seq (WW.seq ?_)
 refine WW.region (sg0 hS 6 [1] [15] [.bool (decide (x13<(y8.2.1.length:Int)))] [i1] (by kernel_rfl) fun s hS=>?_)
 obtain⟨z17,hz17,h16⟩:=bind_some h16
 refine aH 6 (fun s=>Stt EV s [(21,.bool z17),(1,.pointer (some ⟨i1,0,none⟩)),(2,.pointer (some ⟨i2,0,none⟩)),(3,.int .i64 0),(4,.int .i64 x13)] [[(i2,.row [.int .i64 0,aa ([]),.slice none 0 0] 61 0 true)],[(i1,.row [.int .i64 y8.1,aa y8.2.1,.slice a10 y8.2.2.length z11] 61 0 true)]] F L F nx0) ?_ fun s hS=>?_
 refine bc hz17 (fun hc18 hz17=>?_) fun hc18 hz17=>?_
 replace hS:=hS.kb 15 hc18 rfl
 refine sg0 hS 3 [1] [17,18] [aa y8.2.1,.int .i64 x13] [i1] (by kernel_rfl) fun s hS=>?_
 obtain⟨hk19,hz17⟩:=ac hz17
 refine am hS (wt hS rfl rfl rfl rfl) rfl rfl rfl (v:=vB (gt y8.2.1 x13)) (aA tu9 (hS.lk rfl) (hS.lk rfl) hk19) fun s hS=>?_
 obtain⟨y20,hy20,hz17⟩:=bind_some hz17
 refine bE hS (wt hS rfl rfl rfl rfl) (vs:=[vB (gt y8.2.1 x13)]) (ws:=[vB (gt y8.2.1 x13)]) rfl rfl rfl rfl rfl 0 rfl (g_l.ok hy20) fun s v S' F' hp21 hF hS=>?_
 obtain⟨rfl,rfl,rfl⟩:=hp21
 refine sg0 hS 1 [] [21] [.bool y20] [] (by kernel_rfl) fun s hS=>(KW.nil ?_)
 obtain rfl:=Option.some.inj hz17
 exact hS.subR rfl
 replace hS:=hS.kb 15 hc18 rfl
 refine sg0 hS 6 [] [21] [.bool false] [] (by kernel_rfl) fun s hS=>(KW.nil ?_)
 obtain rfl:=Option.some.inj hz17
 exact hS.subR rfl
 refine KW.nil (bc h16 (fun hc22 h16=>?_) fun hc22 h16=>?_)
 refine WW.condK hS rfl hc22 (WW.skip ?_)
 refine WW.block (WW.region ?_)
 refine sg0 hS 3 [] [4] [.int .i64 (w64 (x13+1))] [] (by kernel_rfl) fun s hS=>(KW.nil ?_)
 obtain rfl:=Option.some.inj h16
 exact⟨_,rfl,(hS.subR rfl)⟩
 refine WW.condF hS rfl hc22 (WW.exit ?_)
 refine af ?_
 obtain rfl:=Option.some.inj h16
 exact⟨_,rfl,rfl,(hS.subR rfl)⟩
 clear hS
 rintro e s ⟨rfl,hS⟩
 refine ah ?_
 obtain⟨z23,hz23,h⟩:=bind_some h
 refine WW.seqJ (fun s=> ∃(z24:Int×List UInt8×(List (Int×Int×Int))),z23= .inl z24∧ ∃(a25:Option Addr) (z26:Nat),Stt EV s [(1,.pointer (some ⟨i1,0,none⟩)),(2,.pointer (some ⟨i2,0,none⟩)),(3,.int .i64 0)] [[(i2,.row [.int .i64 0,aa ([]),.slice none 0 0] 61 0 true)],[(i1,.row [.int .i64 z24.1,aa z24.2.1,.slice a25 z24.2.2.length z26] 61 0 true)]] F L F nx0∧Frz dj F a25 z26 z24.2.2) ?_ ?_
 refine WW.seq (WW.region ?_)
 obtain⟨y28,hy28,hz23⟩:=bind_some hz23
 refine cR (g_4.ok hy28) hS 1 25 0 rfl (by kernel_rfl) fun s hS=>(sg0 hS 1 [] [26] [.bool y28] [] (by kernel_rfl) fun s hS=>?_)
 refine aH 6 (fun s=>Stt EV s [(32,.bool (y28&&(decide (o14<(y8.2.1.length:Int))))),(1,.pointer (some ⟨i1,0,none⟩)),(2,.pointer (some ⟨i2,0,none⟩)),(3,.int .i64 0),(4,.int .i64 o14)] [[(i2,.row [.int .i64 0,aa ([]),.slice none 0 0] 61 0 true)],[(i1,.row [.int .i64 y8.1,aa y8.2.1,.slice a10 y8.2.2.length z11] 61 0 true)]] F L F nx0) ?_ fun s hS=>?_
 rcases ax (y28) with hcj | hcj
 replace hS:=hS.know (t:=25) rfl (congrArg Value.bool hcj)
 replace hS:=hS.know (t:=26) rfl (congrArg Value.bool hcj)
 refine sg0 hS 6 [1] [32] [.bool (decide (o14<(y8.2.1.length:Int)))] [i1] (by kernel_rfl) fun s hS=>(KW.nil ?_)
 exact(hS.know (t:=32) (u':= .bool (y28&&(decide (o14<(y8.2.1.length:Int))))) rfl (bw hcj)).subR rfl
 replace hS:=hS.know (t:=25) rfl (congrArg Value.bool hcj)
 replace hS:=hS.know (t:=26) rfl (congrArg Value.bool hcj)
 refine sg0 hS 6 [] [32] [.bool false] [] (by kernel_rfl) fun s hS=>(KW.nil ?_)
 exact(hS.know (t:=32) (u':= .bool (y28&&(decide (o14<(y8.2.1.length:Int))))) rfl (bx hcj)).subR rfl
 refine sg0 hS 1 [] [33] [.bool (y28&&(decide (o14<(y8.2.1.length:Int))))] [] (by kernel_rfl) fun s hS=>?_
 obtain⟨z30,hz30,hz23⟩:=bind_some hz23
 refine aH 6 (fun s=>Stt EV s [(39,.bool z30),(1,.pointer (some ⟨i1,0,none⟩)),(2,.pointer (some ⟨i2,0,none⟩)),(3,.int .i64 0),(4,.int .i64 o14)] [[(i2,.row [.int .i64 0,aa ([]),.slice none 0 0] 61 0 true)],[(i1,.row [.int .i64 y8.1,aa y8.2.1,.slice a10 y8.2.2.length z11] 61 0 true)]] F L F nx0) ?_ fun s hS=>?_
 refine bc hz30 (fun hc31 hz30=>?_) fun hc31 hz30=>?_
 replace hS:=hS.kb 32 hc31 rfl
 replace hS:=hS.kb 33 hc31 rfl
 refine sg0 hS 3 [1] [35,36] [aa y8.2.1,.int .i64 o14] [i1] (by kernel_rfl) fun s hS=>?_
 obtain⟨hk32,hz30⟩:=ac hz30
 refine am hS (wt hS rfl rfl rfl rfl) rfl rfl rfl (v:=vB (gt y8.2.1 o14)) (aA tu9 (hS.lk rfl) (hS.lk rfl) hk32) fun s hS=>(sg0 hS 2 [] [39] [.bool (((gt y8.2.1 o14).toNat:Int)==((32:UInt8).toNat:Int))] [] (by kernel_rfl) fun s hS=>?_)
 refine KW.nil ?_
 obtain rfl:=Option.some.inj hz30
 exact hS.subR rfl
 replace hS:=hS.kb 32 hc31 rfl
 replace hS:=hS.kb 33 hc31 rfl
 refine sg0 hS 6 [] [39] [.bool false] [] (by kernel_rfl) fun s hS=>(KW.nil ?_)
 obtain rfl:=Option.some.inj hz30
 exact hS.subR rfl
 refine KW.nil (bc hz23 (fun hc33 hz23=>?_) fun hc33 hz23=>?_)
 refine WW.condK hS rfl hc33 (WW.seq ?_)
 refine WW.region (sg0 hS 1 [] [5] [.int .i64 0] [] (by kernel_rfl) fun s hS=>?_)
 refine KW.nil (WW.seq ?_)
 refine WW.seq (WW.region ?_)
 refine sg0 hS 1 [] [6] [.int .i64 0] [] (by kernel_rfl) fun s hS=>(KW.nil ?_)
 refine WW.block ?_
 obtain⟨o35,ho35,hz23⟩:=bind_some hz23
 refine WW.loop (LW.iterE ho35 (fun(x34:Int×Int) s=>Stt EV s [(1,.pointer (some ⟨i1,0,none⟩)),(2,.pointer (some ⟨i2,0,none⟩)),(3,.int .i64 0),(4,.int .i64 o14),(5,.int .i64 x34.1),(6,.int .i64 x34.2)] [[(i2,.row [.int .i64 0,aa ([]),.slice none 0 0] 61 0 true)],[(i1,.row [.int .i64 y8.1,aa y8.2.1,.slice a10 y8.2.2.length z11] 61 0 true)]] F L F nx0) 2 (hS.subR rfl) ?_ ?_)
 clear hS
 rintro x34 s hS o35' h37
 unfold g_h.b1 at h37
 refine WW.seq (WW.seq ?_)
 refine WW.region (sg0 hS 3 [] [42] [.bool (decide (x34.2<o14))] [] (by kernel_rfl) fun s hS=>?_)
 refine KW.nil (bc h37 (fun hc38 h37=>?_) fun hc38 h37=>?_)
 refine WW.condK hS rfl hc38 (WW.skip ?_)
 refine WW.seq (WW.block ?_)
 refine WW.region (sg0 hS 5 [1] [46,48,49] [.int .i64 (w64 (10*x34.1)),aa y8.2.1,.int .i64 x34.2] [i1] (by kernel_rfl) fun s hS=>?_)
 obtain⟨hk39,h37⟩:=ac h37
 refine am hS (wn rfl) rfl rfl rfl (v:=vB (gt y8.2.1 x34.2)) (aA tu9 (hS.lk rfl) (hS.lk rfl) hk39) fun s hS=>(am hS (wn rfl) rfl rfl rfl (v:=vB ((gt y8.2.1 x34.2)-48)) (fi (hS.lk rfl) (hS.lk rfl)) fun s hS=>?_)
 refine am hS (wn rfl) rfl rfl (ic hS rfl rfl) (v:= .int .i64 (IntKind.i64.wrap (((gt y8.2.1 x34.2)-48).toNat:Int))) (fj (hS.lk rfl) tu5 tu3) fun s hS=>(sg0 hS 2 [] [5] [.int .i64 (w64 ((w64 (10*x34.1))+(IntKind.i64.wrap (((gt y8.2.1 x34.2)-48).toNat:Int))))] [] (by kernel_rfl) fun s hS=>?_)
 refine KW.nil (WW.region ?_)
 refine sg0 hS 3 [] [6] [.int .i64 (w64 (x34.2+1))] [] (by kernel_rfl) fun s hS=>(KW.nil ?_)
 obtain rfl:=Option.some.inj h37
 exact⟨_,rfl,(hS.subR rfl)⟩
 refine WW.condF hS rfl hc38 (WW.exit ?_)
 refine af ?_
 obtain rfl:=Option.some.inj h37
 exact⟨_,rfl,rfl,(hS.subR rfl)⟩
 clear hS
 rintro e s ⟨rfl,hS⟩
 refine ah (WW.seq ?_)
 refine WW.seq (WW.region ?_)
 refine sg0 hS 2 [] [55] [.bool (o35.1==0)] [] (by kernel_rfl) fun s hS=>(KW.nil ?_)
 refine bc hz23 (fun hc40 hz23=>?_) fun hc40 hz23=>?_
 refine WW.condK hS rfl hc40 (WW.seq ?_)
 refine WW.region (sg hS 3 [1,0] [3] [.int .i64 2] [i1,i2] [[(i2,.row [.int .i64 y8.1,aa y8.2.1,.slice a10 y8.2.2.length z11] 61 0 true)],[(i1,.row [.int .i64 y8.1,aa y8.2.1,.slice a10 y8.2.2.length z11] 61 0 true)]] (by kernel_rfl) fun s hS=>?_)
 refine KW.nil (WW.ret ?_)
 obtain rfl:=Option.some.inj hz23
 replace h:=aj h
 have hres:=(aL hS (t:=2) (ty:=61) rfl (p:=0) rfl qt kp (ws:=[.int .i64 y8.1,aa y8.2.1,.slice a10 y8.2.2.length z11]) rfl (aM hS (t:=3) (v:= .int .i64 2) rfl (aw (E:=EV) (s:=s))))
 replace hS:=hS.drop
 replace hS:=hS.drop
 cases h
 exact fin hS (.inr rfl) hres (v:= .tuple #[.agg #[.int .i64 y8.1,aa y8.2.1,.slice a10 y8.2.2.length z11],.int .i64 2]) rfl ⟨_,_,rfl,rfl,rfl,h12⟩
 refine WW.condF hS rfl hc40 (WW.skip ?_)
 refine WW.seq (WW.region ?_)
 refine sg0 hS 2 [1] [57,58] [.agg #[.int .i64 y8.1,aa y8.2.1,.slice a10 y8.2.2.length z11],.int .i64 o14] [i1] (by kernel_rfl) fun s hS=>?_
 obtain⟨y41,hy41,hz23⟩:=bind_some hz23
 refine bE hS (wn rfl) (vs:=[.agg #[.int .i64 y8.1,aa y8.2.1,.slice a10 y8.2.2.length z11],.int .i64 o14]) (ws:=[.agg #[.int .i64 y8.1,aa y8.2.1,.slice a10 y8.2.2.length z11],.int .i64 o14]) rfl rfl rfl rfl rfl 0 rfl (g_d.ok hy41 h12) fun s v S' F' hp42 hF hS=>?_
 obtain⟨a43,z44,rfl,rfl,rfl,h45⟩:=hp42
 refine sg hS 1 [1] [] [] [i1] [[(i2,.row [.int .i64 0,aa ([]),.slice none 0 0] 61 0 true)],[(i1,.row [.int .i64 y41.1,aa y41.2.1,.slice a43 y41.2.2.length z44] 61 0 true)]] (by kernel_rfl) fun s hS=>(KW.nil ?_)
 refine WW.region (sg hS 3 [1] [] [] [i1] [[(i2,.row [.int .i64 0,aa ([]),.slice none 0 0] 61 0 true)],[(i1,.row [.int .i64 o35.1,aa y41.2.1,.slice a43 y41.2.2.length z44] 61 0 true)]] (by kernel_rfl) fun s hS=>?_)
 refine KW.nil ?_
 obtain rfl:=Option.some.inj hz23
 exact⟨_,rfl,_,_,(hS.subR rfl),h45⟩
 refine WW.condF hS rfl hc33 (WW.skip ?_)
 obtain rfl:=Option.some.inj hz23
 exact⟨_,rfl,_,_,(hS.subR rfl),h12⟩
 rintro s ⟨z24,rfl,a25,z26,hS,h27⟩
 replace h:=aB h
 refine WW.seq (WW.seq ?_)
 refine WW.region (sg0 hS 4 [1] [65] [.bool (decide ((z24.2.1.length:Int)>1320))] [i1] (by kernel_rfl) fun s hS=>?_)
 refine KW.nil (bc h (fun hc46 h=>?_) fun hc46 h=>?_)
 refine WW.condK hS rfl hc46 (WW.seq ?_)
 refine WW.region (sg hS 3 [1,0] [3] [.int .i64 8] [i1,i2] [[(i2,.row [.int .i64 z24.1,aa z24.2.1,.slice a25 z24.2.2.length z26] 61 0 true)],[(i1,.row [.int .i64 z24.1,aa z24.2.1,.slice a25 z24.2.2.length z26] 61 0 true)]] (by kernel_rfl) fun s hS=>?_)
 refine KW.nil (WW.ret ?_)
 have hres:=(aL hS (t:=2) (ty:=61) rfl (p:=0) rfl qt kp (ws:=[.int .i64 z24.1,aa z24.2.1,.slice a25 z24.2.2.length z26]) rfl (aM hS (t:=3) (v:= .int .i64 8) rfl (aw (E:=EV) (s:=s))))
 replace hS:=hS.drop
 replace hS:=hS.drop
 cases h
 exact fin hS (.inr rfl) hres (v:= .tuple #[.agg #[.int .i64 z24.1,aa z24.2.1,.slice a25 z24.2.2.length z26],.int .i64 8]) rfl ⟨_,_,rfl,rfl,rfl,h27⟩
 refine WW.condF hS rfl hc46 (WW.skip ?_)
 refine WW.seq (WW.region ?_)
 refine sg hS 3 [1,0] [3] [.int .i64 0] [i1,i2] [[(i2,.row [.int .i64 z24.1,aa z24.2.1,.slice a25 z24.2.2.length z26] 61 0 true)],[(i1,.row [.int .i64 z24.1,aa z24.2.1,.slice a25 z24.2.2.length z26] 61 0 true)]] (by kernel_rfl) fun s hS=>(KW.nil ?_)
 refine WW.ret ?_
 have hres:=(aL hS (t:=2) (ty:=61) rfl (p:=0) rfl qt kp (ws:=[.int .i64 z24.1,aa z24.2.1,.slice a25 z24.2.2.length z26]) rfl (aM hS (t:=3) (v:= .int .i64 0) rfl (aw (E:=EV) (s:=s))))
 replace hS:=hS.drop
 replace hS:=hS.drop
 cases h
 exact fin hS (.inr rfl) hres (v:= .tuple #[.agg #[.int .i64 z24.1,aa z24.2.1,.slice a25 z24.2.2.length z26],.int .i64 0]) rfl ⟨_,_,rfl,rfl,rfl,h27⟩
noncomputable def g_k.b0 (pA:List UInt8) (x1:Int):Option ((Int)⊕((Int)⊕(Bool))) :=
  (if(decide (x1<(pA.length:Int))) then(if 0≤x1∧x1<(pA.length:Int) then(if(((gt pA x1).toNat:Int) != ((32:UInt8).toNat:Int)) then some (.inr (.inr false)) else some (.inl (w64 (x1+1)))) else none) else some (.inr (.inl x1)))
noncomputable def g_k.f (pA:List UInt8):Option (Bool) :=
  Option.bind (iter (g_k.b0 pA) 0) fun o2=>bj o2 fun y8=>some true
theorem g_k.ok {pA:List UInt8} {F:FZ} {r:Bool} (h:g_k.f pA=some r) :
    Cl EV 86 [aa pA] [] F (fun v S' F'=>F=F'∧v= .bool r∧S'= []):=by
 refine Cl.of Tryz.func86 rfl (fun _ _=>rfl) (by kernel_rfl) fun s L nx0 hS=>?_
 unfold g_k.f at h
 refine WW.seq (WW.region ?_)
 refine sg0 hS 1 [] [2] [.bool false] [] (by kernel_rfl) fun s hS=>(KW.nil ?_)
 refine WW.seq (WW.seq ?_)
 refine WW.region (sg0 hS 1 [] [3] [.int .i64 0] [] (by kernel_rfl) fun s hS=>?_)
 refine KW.nil (WW.block ?_)
 obtain⟨o2,ho2,h⟩:=bind_some h
 refine WW.loop (LW.iterS ho2 (fun(x1:Int) s=>Stt EV s [(0,aa pA),(2,.bool false),(3,.int .i64 x1)] [] F L F nx0) 0 (fun r=>dq EV Tryz.f86 L F nx0 (fun v S' F'=>F=F'∧v= .bool r∧S'= [])) (hS.subR rfl) ?_ ?_)
 clear hS
 rintro x1 s hS o2' h4
 unfold g_k.b0 at h4
 refine WW.seq (WW.seq ?_)
 refine WW.region (sg0 hS 4 [] [7] [.bool (decide (x1<(pA.length:Int)))] [] (by kernel_rfl) fun s hS=>?_)
 refine KW.nil (bc h4 (fun hc5 h4=>?_) fun hc5 h4=>?_)
 refine WW.condK hS rfl hc5 (WW.skip ?_)
 refine WW.seq (WW.block ?_)
 refine WW.seq (WW.region ?_)
 refine sg0 hS 2 [] [10,11] [aa pA,.int .i64 x1] [] (by kernel_rfl) fun s hS=>?_
 obtain⟨hk6,h4⟩:=ac h4
 refine am hS (wn rfl) rfl rfl rfl (v:=vB (gt pA x1)) (aA tu9 (hS.lk rfl) (hS.lk rfl) hk6) fun s hS=>(sg0 hS 1 [] [13] [.bool (((gt pA x1).toNat:Int) != ((32:UInt8).toNat:Int))] [] (by kernel_rfl) fun s hS=>?_)
 refine KW.nil (bc h4 (fun hc7 h4=>?_) fun hc7 h4=>?_)
 refine WW.condK hS rfl hc7 (WW.seq ?_)
 refine WW.region (sg0 hS 1 [] [2] [.bool false] [] (by kernel_rfl) fun s hS=>?_)
 refine KW.nil (WW.ret ?_)
 cases h4
 exact⟨_,rfl,rfl,aS hS (.inr rfl) 2 rfl rfl ⟨rfl,rfl,rfl⟩⟩
 refine WW.condF hS rfl hc7 (WW.skip ?_)
 refine WW.region (sg0 hS 3 [] [3] [.int .i64 (w64 (x1+1))] [] (by kernel_rfl) fun s hS=>?_)
 refine KW.nil ?_
 obtain rfl:=Option.some.inj h4
 exact⟨_,rfl,(hS.subR rfl)⟩
 refine WW.condF hS rfl hc5 (WW.exit ?_)
 refine af ?_
 obtain rfl:=Option.some.inj h4
 exact⟨_,rfl,rfl,(hS.subR rfl)⟩
 clear hS
 rcases o2 with y8 | y8
 rintro e s ⟨rfl,hS⟩
 replace h:=aB h
 refine ah (WW.seq ?_)
 refine WW.region (sg0 hS 1 [] [2] [.bool true] [] (by kernel_rfl) fun s hS=>?_)
 refine KW.nil (WW.ret ?_)
 cases h
 exact aS hS (.inr rfl) 2 rfl rfl ⟨rfl,rfl,rfl⟩
 rintro e s ⟨rfl,hfin⟩
 replace h:=aj h
 obtain rfl:=Option.some.inj h
 exact hfin
noncomputable def g_j.b1 (pC:List (List UInt8)) (x5:Int×List UInt8×(List (Int×Int×Int))×UInt8×Int×Bool×(List (Int×List UInt8×(List (Int×Int×Int))))×List Int) (x63:Int):Option ((Int)⊕(Int)) :=
  Option.bind ((if(decide (x63<((gt pC x5.1).length:Int))) then(if 0≤x63∧x63<((gt pC x5.1).length:Int) then some (((gt (gt pC x5.1) x63).toNat:Int)==((32:UInt8).toNat:Int)) else none) else some false)) fun z67=>(if z67 then some (.inl (w64 (x63+1))) else some (.inr x63))
noncomputable def g_j.b2 (pC:List (List UInt8)) (x5:Int×List UInt8×(List (Int×Int×Int))×UInt8×Int×Bool×(List (Int×List UInt8×(List (Int×Int×Int))))×List Int) (y117:Int×Bool×Bool×UInt8) (x153:Int×Int×List UInt8×(List (Int×Int×Int))×UInt8×Int×(List (Int×List UInt8×(List (Int×Int×Int))))):Option ((Int×Int×List UInt8×(List (Int×Int×Int))×UInt8×Int×(List (Int×List UInt8×(List (Int×Int×Int)))))⊕((Int×Int×List UInt8×(List (Int×Int×Int))×UInt8×Int×(List (Int×List UInt8×(List (Int×Int×Int)))))⊕((List (Int×List UInt8×(List (Int×Int×Int))))×List Int×Int×Int))) :=
  (if(decide (x153.1<y117.1)) then(if 0≤x153.1∧x153.1<((gt pC x5.1).length:Int) then(if(((x153.2.2.2.2.1.toNat:Int)==((0:UInt8).toNat:Int))&&(((gt (gt pC x5.1) x153.1).toNat:Int)==((59:UInt8).toNat:Int))) then Option.bind (g_h.f 0 x153.2.2.1 x153.2.2.2.1) fun y183=>(if(y183.2.2.2 != 0) then some (.inr (.inr (([]:List (Int×List UInt8×(List (Int×Int×Int)))),([]:List Int),x5.1,y183.2.2.2))) else Option.bind ((if(!decide (y183.2.1= [])) then(if x153.2.2.2.2.2.2.length+([(y183.1,y183.2.1,y183.2.2.1)]:List (Int×List UInt8×(List (Int×Int×Int)))).length<1000000000 then some (x153.2.2.2.2.2.2++([(y183.1,y183.2.1,y183.2.2.1)]:List (Int×List UInt8×(List (Int×Int×Int))))) else none) else some x153.2.2.2.2.2.2)) fun z190=>some (.inl ((w64 (x153.1+1)),x153.2.1,[],([]:List (Int×Int×Int)),0,0,z190))) else Option.bind (Option.bind ((if(((gt (gt pC x5.1) x153.1).toNat:Int) != ((32:UInt8).toNat:Int)) then Option.bind (g_k.f x153.2.2.1) fun y205=>some y205 else some false)) fun z203=>(if z203 then some 1 else some x153.2.1)) fun z202=>Option.bind ((if(((x153.2.2.2.2.1.toNat:Int)==((0:UInt8).toNat:Int))&&((((gt (gt pC x5.1) x153.1).toNat:Int)==((39:UInt8).toNat:Int))||(((gt (gt pC x5.1) x153.1).toNat:Int)==((34:UInt8).toNat:Int)))) then some (gt (gt pC x5.1) x153.1) else(if(((gt (gt pC x5.1) x153.1).toNat:Int)==(x153.2.2.2.2.1.toNat:Int)) then some 0 else some x153.2.2.2.2.1))) fun z208=>(if 0≤x153.1∧x153.1≤(w64 (x153.1+1))∧(w64 (x153.1+1))≤((gt pC x5.1).length:Int) then(if x153.2.2.1.length+(mid (gt pC x5.1) x153.1 (w64 (x153.1+1))).length<1000000000 then(if x153.2.2.2.1.length+([(0,x5.1,(w64 (x153.1+1)))]:List (Int×Int×Int)).length<1000000000 then some (.inl ((w64 (x153.1+1)),z202,(x153.2.2.1++(mid (gt pC x5.1) x153.1 (w64 (x153.1+1)))),(x153.2.2.2.1++([(0,x5.1,(w64 (x153.1+1)))]:List (Int×Int×Int))),z208,x153.2.2.2.2.2.1,x153.2.2.2.2.2.2)) else none) else none) else none)) else none) else some (.inr (.inl (x153.1,x153.2.1,x153.2.2.1,x153.2.2.2.1,x153.2.2.2.2.1,x153.2.2.2.2.2.1,x153.2.2.2.2.2.2))))
noncomputable def g_j.b0 (pC:List (List UInt8)) (x5:Int×List UInt8×(List (Int×Int×Int))×UInt8×Int×Bool×(List (Int×List UInt8×(List (Int×Int×Int))))×List Int):Option ((Int×List UInt8×(List (Int×Int×Int))×UInt8×Int×Bool×(List (Int×List UInt8×(List (Int×Int×Int))))×List Int)⊕((Int×List UInt8×(List (Int×Int×Int))×UInt8×Int×Bool×(List (Int×List UInt8×(List (Int×Int×Int))))×List Int)⊕((List (Int×List UInt8×(List (Int×Int×Int))))×List Int×Int×Int))) :=
  (if(decide (x5.1<(pC.length:Int))) then Option.bind ((if 0≤x5.1∧x5.1<(pC.length:Int) then Option.bind (iter (g_j.b1 pC x5) 0) fun o64=>Option.bind ((if((x5.2.2.2.1.toNat:Int)==((0:UInt8).toNat:Int)) then Option.bind ((if(o64==((gt pC x5.1).length:Int)) then some true else(if 0≤o64∧o64<((gt pC x5.1).length:Int) then some (((gt (gt pC x5.1) o64).toNat:Int)==((33:UInt8).toNat:Int)) else none))) fun z73=>some z73 else some false)) fun z71=>(if z71 then(if x5.2.2.2.2.2.2.2.length+([0]:List Int).length<1000000000 then some (.inl ((x5.2.2.2.2.2.2.2++([0]:List Int)),x5.2.1,x5.2.2.1,x5.2.2.2.1,x5.2.2.2.2.1,x5.2.2.2.2.2.1,x5.2.2.2.2.2.2.1)) else none) else Option.bind ((if x5.2.2.2.2.2.1 then Option.bind (Option.bind ((if(decide (o64<((gt pC x5.1).length:Int))) then(if 0≤o64∧o64<((gt pC x5.1).length:Int) then some (((gt (gt pC x5.1) o64).toNat:Int)==((38:UInt8).toNat:Int)) else none) else some false)) fun z88=>(if z88 then(if 0≤(w64 (o64+1))∧(w64 (o64+1))≤((gt pC x5.1).length:Int)∧((gt pC x5.1).length:Int)≤((gt pC x5.1).length:Int) then Option.bind (g_k.f (mid (gt pC x5.1) (w64 (o64+1)) ((gt pC x5.1).length:Int))) fun y93=>(if y93 then Option.bind (g_o.f x5.1 3) fun y96=>some (.inr (.inr (.inr (.inr (.inr (y96.1,y96.2.1,y96.2.2.1,y96.2.2.2)))))) else some (.inl (w64 (o64+1)))) else none) else(if((x5.2.2.2.1.toNat:Int) != ((0:UInt8).toNat:Int)) then Option.bind (g_o.f x5.1 3) fun y107=>some (.inr (.inr (.inr (.inr (.inr (y107.1,y107.2.1,y107.2.2.1,y107.2.2.2)))))) else some (.inl 0)))) fun z86=>bj z86 fun z87=>some (.inl (z87,(w64 (x5.2.2.2.2.1+1)))) else some (.inl (0,x5.2.2.2.2.1)))) fun z83=>bj z83 fun z84=>Option.bind (g_m.f (gt pC x5.1) z84.1 x5.2.2.2.1) fun y117=>(if y117.2.1 then Option.bind (g_o.f x5.1 7) fun y121=>some (.inr (.inr (.inr (y121.1,y121.2.1,y121.2.2.1,y121.2.2.2)))) else(if(decide (z84.2>39)) then Option.bind (g_o.f x5.1 8) fun y132=>some (.inr (.inr (.inr (y132.1,y132.2.1,y132.2.2.1,y132.2.2.2)))) else(if(((y117.2.2.2.toNat:Int) != ((0:UInt8).toNat:Int))&&(!y117.2.2.1)) then Option.bind (g_o.f x5.1 21) fun y143=>some (.inr (.inr (.inr (y143.1,y143.2.1,y143.2.2.1,y143.2.2.2)))) else Option.bind (iter (g_j.b2 pC x5 y117) (z84.1,2,x5.2.1,x5.2.2.1,x5.2.2.2.1,z84.2,x5.2.2.2.2.2.2.1)) fun o164=>f4 o164 (fun r=>some (.inr (.inr (.inr r)))) fun y219=>(if x5.2.2.2.2.2.2.2.length+([y219.2.1]:List Int).length<1000000000 then(if y117.2.2.1 then some (.inl ((x5.2.2.2.2.2.2.2++([y219.2.1]:List Int)),y219.2.2.1,y219.2.2.2.1,y219.2.2.2.2.1,y219.2.2.2.2.2.1,y117.2.2.1,y219.2.2.2.2.2.2)) else Option.bind (g_h.f 0 y219.2.2.1 y219.2.2.2.1) fun y240=>(if(y240.2.2.2 != 0) then some (.inr (.inr (.inr (([]:List (Int×List UInt8×(List (Int×Int×Int)))),([]:List Int),x5.1,y240.2.2.2)))) else(if(!decide (y240.2.1= [])) then(if y219.2.2.2.2.2.2.length+([(y240.1,y240.2.1,y240.2.2.1)]:List (Int×List UInt8×(List (Int×Int×Int)))).length<1000000000 then some (.inl ((x5.2.2.2.2.2.2.2++([y219.2.1]:List Int)),[],([]:List (Int×Int×Int)),0,0,false,(y219.2.2.2.2.2.2++([(y240.1,y240.2.1,y240.2.2.1)]:List (Int×List UInt8×(List (Int×Int×Int))))))) else none) else some (.inl ((x5.2.2.2.2.2.2.2++([y219.2.1]:List Int)),[],([]:List (Int×Int×Int)),0,0,false,y219.2.2.2.2.2.2))))) else none))))) else none)) fun z38=>bj z38 fun z39=>some (.inl ((w64 (x5.1+1)),z39.2.1,z39.2.2.1,z39.2.2.2.1,z39.2.2.2.2.1,z39.2.2.2.2.2.1,z39.2.2.2.2.2.2,z39.1)) else some (.inr (.inl (x5.1,x5.2.1,x5.2.2.1,x5.2.2.2.1,x5.2.2.2.2.1,x5.2.2.2.2.2.1,x5.2.2.2.2.2.2.1,x5.2.2.2.2.2.2.2))))
noncomputable def g_j.f (pC:List (List UInt8)):Option ((List (Int×List UInt8×(List (Int×Int×Int))))×List Int×Int×Int) :=
  Option.bind (iter (g_j.b0 pC) (0,[],([]:List (Int×Int×Int)),0,0,false,([]:List (Int×List UInt8×(List (Int×Int×Int)))),([]:List Int))) fun o20=>bj o20 fun y254=>(if y254.2.2.2.2.2.1 then Option.bind (g_o.f (w64 ((pC.length:Int)-1)) 39) fun y270=>some (y270.1,y270.2.1,y270.2.2.1,y270.2.2.2) else some (y254.2.2.2.2.2.2.1,y254.2.2.2.2.2.2.2,0,0))
theorem g_j.ok {aE:Option Addr} {zH:Nat} {pA:List UInt8} {pB:Bool} {pC:List (List UInt8)} {F:FZ} {r:(List (Int×List UInt8×(List (Int×Int×Int))))×List Int×Int×Int} (h:g_j.f pC=some r) (hI:Frz (elS 9) F aE zH pC) :
    Cl EV 55 [.agg #[aa pA,.bool pB,.slice aE pC.length zH]] [] F (fun v S' F'=> ∃(ra1:Option Addr) (rz2:Nat) (rB4:Seg) (ra5:Option Addr) (rz6:Nat) (rB8:Seg),FLe F F'∧v= .agg #[.slice ra1 r.1.length rz2,.slice ra5 r.2.1.length rz6,.int .i64 r.2.2.1,.int .i64 r.2.2.2]∧S'= [rB4,rB8]∧Own bs F' ra1 rz2 r.1 rB4∧Own (elI .i64 3) F' ra5 rz6 r.2.1 rB8):=by
 refine Cl.of Tryz.func55 rfl (fun _ _=>rfl) (by kernel_rfl) fun s L nx0 hS=>?_
 unfold g_j.f at h
 refine WW.seq (WW.region ?_)
 refine bf hS (wn rfl) rfl rfl rfl (v:=fun i=> .pointer (some ⟨i,0,none⟩)) (b:= .row [aa pA,.bool pB,.slice aE pC.length zH] 38 0 true) (br (hS.lk rfl) rfl [aa pA,.bool pB,.slice aE pC.length zH] rfl) fun s i1 hS=>(bf hS (wn rfl) rfl rfl rfl (v:=fun i=> .pointer (some ⟨i,0,none⟩)) (b:= .row [.slice none 0 0,.slice none 0 0,.int .i64 0,.int .i64 0] 55 0 true) (aU eU) fun s i2 hS=>?_)
 refine KW.nil (WW.seq ?_)
 refine WW.region (bf hS (wn rfl) rfl rfl rfl (v:=fun i=> .pointer (some ⟨i,0,none⟩)) (b:= .row [.slice none 0 0,.slice none 0 0,.int .i64 0,.int .i64 0] 55 0 true) (aU eU) fun s i3 hS=>?_)
 refine KW.nil (WW.seq ?_)
 refine WW.region (bf hS (wn rfl) rfl rfl rfl (v:=fun i=> .pointer (some ⟨i,0,none⟩)) (b:= .row [.int .i64 0,aa ([]),.slice none 0 0,vB 0,.int .i64 0,.bool false] 138 0 true) (aU lY) fun s i4 hS=>?_)
 refine KW.nil (WW.seq ?_)
 refine WW.seq (WW.region ?_)
 refine sg0 hS 1 [] [5] [.int .i64 0] [] (by kernel_rfl) fun s hS=>(KW.nil ?_)
 refine WW.block ?_
 replace hS:=hS.gap0
 replace hS:=hS.gap0
 replace hS:=hS.gap0
 obtain⟨o20,ho20,h⟩:=bind_some h
 refine WW.loop (LW.iterS ho20 (fun(x5:Int×List UInt8×(List (Int×Int×Int))×UInt8×Int×Bool×(List (Int×List UInt8×(List (Int×Int×Int))))×List Int) s=> ∃(a8:Option Addr) (z9:Nat) (B11:Seg) (a12:Option Addr) (z13:Nat) (B15:Seg) (a16:Option Addr) (z17:Nat) (B19:Seg) (F6:FZ),Stt EV s [(1,.pointer (some ⟨i1,0,none⟩)),(2,.pointer (some ⟨i2,0,none⟩)),(3,.pointer (some ⟨i3,0,none⟩)),(4,.pointer (some ⟨i4,0,none⟩)),(5,.int .i64 x5.1)] [B19,B15,B11,[(i4,.row [.int .i64 0,aa x5.2.1,.slice a8 x5.2.2.1.length z9,vB x5.2.2.2.1,.int .i64 x5.2.2.2.2.1,.bool x5.2.2.2.2.2.1] 138 0 true)],[(i3,.row [.slice a12 x5.2.2.2.2.2.2.1.length z13,.slice a16 x5.2.2.2.2.2.2.2.length z17,.int .i64 0,.int .i64 0] 55 0 true)],[(i2,.row [.slice none 0 0,.slice none 0 0,.int .i64 0,.int .i64 0] 55 0 true)],[(i1,.row [aa pA,.bool pB,.slice aE pC.length zH] 38 0 true)]] F6 L F nx0∧Own dj F6 a8 z9 x5.2.2.1 B11∧Own bs F6 a12 z13 x5.2.2.2.2.2.2.1 B15∧Own (elI .i64 3) F6 a16 z17 x5.2.2.2.2.2.2.2 B19∧FLe F F6) 0 (fun r=>dq EV Tryz.f55 L F nx0 (fun v S' F'=> ∃(ra1:Option Addr) (rz2:Nat) (rB4:Seg) (ra5:Option Addr) (rz6:Nat) (rB8:Seg),FLe F F'∧v= .agg #[.slice ra1 r.1.length rz2,.slice ra5 r.2.1.length rz6,.int .i64 r.2.2.1,.int .i64 r.2.2.2]∧S'= [rB4,rB8]∧Own bs F' ra1 rz2 r.1 rB4∧Own (elI .i64 3) F' ra5 rz6 r.2.1 rB8)) ⟨_,_,_,_,_,_,_,_,_,_,(hS.subR rfl),Own.nil,Own.nil,Own.nil,(FLe.refl _)⟩ ?_ ?_)
 clear hS
 rintro x5 s ⟨a8,z9,B11,a12,z13,B15,a16,z17,B19,F6,hS,h10,h14,h18,hF7⟩ o20' h36
 unfold g_j.b0 at h36
 refine WW.seq (WW.seq ?_)
 refine WW.region (sg0 hS 5 [6] [19] [.bool (decide (x5.1<(pC.length:Int)))] [i1] (by kernel_rfl) fun s hS=>?_)
 refine KW.nil (bc h36 (fun hc37 h36=>?_) fun hc37 h36=>?_)
 refine WW.condK hS rfl hc37 (WW.skip ?_)
 obtain⟨z38,hz38,h36⟩:=bind_some h36
 refine WW.seqJ (fun s=> ∃(z39:List Int×List UInt8×(List (Int×Int×Int))×UInt8×Int×Bool×(List (Int×List UInt8×(List (Int×Int×Int))))),z38= .inl z39∧ ∃(a42:Option Addr) (z43:Nat) (B45:Seg) (a46:Option Addr) (z47:Nat) (B49:Seg) (a50:Option Addr) (z51:Nat) (B53:Seg) (F40:FZ),Stt EV s [(1,.pointer (some ⟨i1,0,none⟩)),(2,.pointer (some ⟨i2,0,none⟩)),(3,.pointer (some ⟨i3,0,none⟩)),(4,.pointer (some ⟨i4,0,none⟩)),(5,.int .i64 x5.1)] [B45,B53,B49,[(i4,.row [.int .i64 0,aa z39.2.1,.slice a46 z39.2.2.1.length z47,vB z39.2.2.2.1,.int .i64 z39.2.2.2.2.1,.bool z39.2.2.2.2.2.1] 138 0 true)],[(i3,.row [.slice a50 z39.2.2.2.2.2.2.length z51,.slice a42 z39.1.length z43,.int .i64 0,.int .i64 0] 55 0 true)],[(i2,.row [.slice none 0 0,.slice none 0 0,.int .i64 0,.int .i64 0] 55 0 true)],[(i1,.row [aa pA,.bool pB,.slice aE pC.length zH] 38 0 true)]] F40 L F nx0∧Own (elI .i64 3) F40 a42 z43 z39.1 B45∧Own dj F40 a46 z47 z39.2.2.1 B49∧Own bs F40 a50 z51 z39.2.2.2.2.2.2 B53∧FLe F6 F40) ?_ ?_
 refine WW.block (WW.seq ?_)
 refine WW.region (sg0 hS 3 [6] [23,24] [.slice aE pC.length zH,.int .i64 x5.1] [i1] (by kernel_rfl) fun s hS=>?_)
 obtain⟨hk54,hz38⟩:=ac hz38
 obtain⟨i60,of61,rfl⟩:=Frz.addr hI (by omega)
 obtain⟨_,_,_,_,c55,hF62,hR56,hN57,hN58,hT59⟩:=Frz.at (hI.mono hF7) hk54 (m:=1) rfl
 obtain rfl:=hR56
 refine am hS (wn rfl) rfl rfl rfl (v:= .pointer (some ⟨i60,of61+(x5.1).toNat*1,none⟩)) (aW (hS.lk rfl) (hS.lk rfl) ie hk54) fun s hS=>(gG hS (wn rfl) rfl rfl rfl (hS.fat hF62) tg9 (v:=aa (gt pC x5.1)) hN57 fun s hS=>?_)
 refine sg0 hS 1 [] [6] [aa (gt pC x5.1)] [] (by kernel_rfl) fun s hS=>(KW.nil ?_)
 refine WW.seq (WW.region ?_)
 refine sg0 hS 1 [] [7] [.int .i64 0] [] (by kernel_rfl) fun s hS=>(KW.nil ?_)
 refine WW.seq (WW.block ?_)
 obtain⟨o64,ho64,hz38⟩:=bind_some hz38
 refine WW.loop (LW.iterE ho64 (fun(x63:Int) s=>Stt EV s [(1,.pointer (some ⟨i1,0,none⟩)),(2,.pointer (some ⟨i2,0,none⟩)),(3,.pointer (some ⟨i3,0,none⟩)),(4,.pointer (some ⟨i4,0,none⟩)),(5,.int .i64 x5.1),(6,aa (gt pC x5.1)),(7,.int .i64 x63)] [B19,B15,B11,[(i4,.row [.int .i64 0,aa x5.2.1,.slice a8 x5.2.2.1.length z9,vB x5.2.2.2.1,.int .i64 x5.2.2.2.2.1,.bool x5.2.2.2.2.2.1] 138 0 true)],[(i3,.row [.slice a12 x5.2.2.2.2.2.2.1.length z13,.slice a16 x5.2.2.2.2.2.2.2.length z17,.int .i64 0,.int .i64 0] 55 0 true)],[(i2,.row [.slice none 0 0,.slice none 0 0,.int .i64 0,.int .i64 0] 55 0 true)],[(i1,.row [aa pA,.bool pB,.slice (some ⟨i60,of61,none⟩) pC.length zH] 38 0 true)]] F6 L F nx0) 2 (hS.subR rfl) ?_ ?_)
 clear hS
 rintro x63 s hS o64' h66
 unfold g_j.b1 at h66
 refine WW.seq (WW.seq ?_)
 refine WW.region (sg0 hS 5 [] [31] [.bool (decide (x63<((gt pC x5.1).length:Int)))] [] (by kernel_rfl) fun s hS=>?_)
 obtain⟨z67,hz67,h66⟩:=bind_some h66
 refine aH 5 (fun s=>Stt EV s [(36,.bool z67),(1,.pointer (some ⟨i1,0,none⟩)),(2,.pointer (some ⟨i2,0,none⟩)),(3,.pointer (some ⟨i3,0,none⟩)),(4,.pointer (some ⟨i4,0,none⟩)),(5,.int .i64 x5.1),(6,aa (gt pC x5.1)),(7,.int .i64 x63)] [B19,B15,B11,[(i4,.row [.int .i64 0,aa x5.2.1,.slice a8 x5.2.2.1.length z9,vB x5.2.2.2.1,.int .i64 x5.2.2.2.2.1,.bool x5.2.2.2.2.2.1] 138 0 true)],[(i3,.row [.slice a12 x5.2.2.2.2.2.2.1.length z13,.slice a16 x5.2.2.2.2.2.2.2.length z17,.int .i64 0,.int .i64 0] 55 0 true)],[(i2,.row [.slice none 0 0,.slice none 0 0,.int .i64 0,.int .i64 0] 55 0 true)],[(i1,.row [aa pA,.bool pB,.slice (some ⟨i60,of61,none⟩) pC.length zH] 38 0 true)]] F6 L F nx0) ?_ fun s hS=>?_
 refine bc hz67 (fun hc68 hz67=>?_) fun hc68 hz67=>?_
 replace hS:=hS.kb 31 hc68 rfl
 refine sg0 hS 2 [] [32,33] [aa (gt pC x5.1),.int .i64 x63] [] (by kernel_rfl) fun s hS=>?_
 obtain⟨hk69,hz67⟩:=ac hz67
 refine am hS (wt hS rfl rfl rfl rfl) rfl rfl rfl (v:=vB (gt (gt pC x5.1) x63)) (aA tu9 (hS.lk rfl) (hS.lk rfl) hk69) fun s hS=>(sg0 hS 2 [] [36] [.bool (((gt (gt pC x5.1) x63).toNat:Int)==((32:UInt8).toNat:Int))] [] (by kernel_rfl) fun s hS=>?_)
 refine KW.nil ?_
 obtain rfl:=Option.some.inj hz67
 exact hS.subR rfl
 replace hS:=hS.kb 31 hc68 rfl
 refine sg0 hS 5 [] [36] [.bool false] [] (by kernel_rfl) fun s hS=>(KW.nil ?_)
 obtain rfl:=Option.some.inj hz67
 exact hS.subR rfl
 refine KW.nil (bc h66 (fun hc70 h66=>?_) fun hc70 h66=>?_)
 refine WW.condK hS rfl hc70 (WW.skip ?_)
 refine WW.block (WW.region ?_)
 refine sg0 hS 3 [] [7] [.int .i64 (w64 (x63+1))] [] (by kernel_rfl) fun s hS=>(KW.nil ?_)
 obtain rfl:=Option.some.inj h66
 exact⟨_,rfl,(hS.subR rfl)⟩
 refine WW.condF hS rfl hc70 (WW.exit ?_)
 refine af ?_
 obtain rfl:=Option.some.inj h66
 exact⟨_,rfl,rfl,(hS.subR rfl)⟩
 clear hS
 rintro e s ⟨rfl,hS⟩
 refine ah (WW.seq ?_)
 refine WW.seq (WW.region ?_)
 refine sg0 hS 4 [3] [42] [.bool ((x5.2.2.2.1.toNat:Int)==((0:UInt8).toNat:Int))] [i4] (by kernel_rfl) fun s hS=>?_
 obtain⟨z71,hz71,hz38⟩:=bind_some hz38
 refine aH 11 (fun s=>Stt EV s [(53,.bool z71),(1,.pointer (some ⟨i1,0,none⟩)),(2,.pointer (some ⟨i2,0,none⟩)),(3,.pointer (some ⟨i3,0,none⟩)),(4,.pointer (some ⟨i4,0,none⟩)),(5,.int .i64 x5.1),(6,aa (gt pC x5.1)),(7,.int .i64 o64)] [B19,B15,B11,[(i4,.row [.int .i64 0,aa x5.2.1,.slice a8 x5.2.2.1.length z9,vB x5.2.2.2.1,.int .i64 x5.2.2.2.2.1,.bool x5.2.2.2.2.2.1] 138 0 true)],[(i3,.row [.slice a12 x5.2.2.2.2.2.2.1.length z13,.slice a16 x5.2.2.2.2.2.2.2.length z17,.int .i64 0,.int .i64 0] 55 0 true)],[(i2,.row [.slice none 0 0,.slice none 0 0,.int .i64 0,.int .i64 0] 55 0 true)],[(i1,.row [aa pA,.bool pB,.slice (some ⟨i60,of61,none⟩) pC.length zH] 38 0 true)]] F6 L F nx0) ?_ fun s hS=>?_
 refine bc hz71 (fun hc72 hz71=>?_) fun hc72 hz71=>?_
 replace hS:=hS.kb 42 hc72 rfl
 refine sg0 hS 5 [] [47] [.bool (o64==((gt pC x5.1).length:Int))] [] (by kernel_rfl) fun s hS=>?_
 obtain⟨z73,hz73,hz71⟩:=bind_some hz71
 refine aH 5 (fun s=>Stt EV s [(52,.bool z73),(1,.pointer (some ⟨i1,0,none⟩)),(2,.pointer (some ⟨i2,0,none⟩)),(3,.pointer (some ⟨i3,0,none⟩)),(4,.pointer (some ⟨i4,0,none⟩)),(5,.int .i64 x5.1),(6,aa (gt pC x5.1)),(7,.int .i64 o64),(42,.bool true)] [B19,B15,B11,[(i4,.row [.int .i64 0,aa x5.2.1,.slice a8 x5.2.2.1.length z9,vB x5.2.2.2.1,.int .i64 x5.2.2.2.2.1,.bool x5.2.2.2.2.2.1] 138 0 true)],[(i3,.row [.slice a12 x5.2.2.2.2.2.2.1.length z13,.slice a16 x5.2.2.2.2.2.2.2.length z17,.int .i64 0,.int .i64 0] 55 0 true)],[(i2,.row [.slice none 0 0,.slice none 0 0,.int .i64 0,.int .i64 0] 55 0 true)],[(i1,.row [aa pA,.bool pB,.slice (some ⟨i60,of61,none⟩) pC.length zH] 38 0 true)]] F6 L F nx0) ?_ fun s hS=>?_
 refine bc hz73 (fun hc74 hz73=>?_) fun hc74 hz73=>?_
 replace hS:=hS.kb 47 hc74 rfl
 refine sg0 hS 5 [] [52] [.bool true] [] (by kernel_rfl) fun s hS=>(KW.nil ?_)
 obtain rfl:=Option.some.inj hz73
 exact hS.subR rfl
 replace hS:=hS.kb 47 hc74 rfl
 refine sg0 hS 2 [] [48,49] [aa (gt pC x5.1),.int .i64 o64] [] (by kernel_rfl) fun s hS=>?_
 obtain⟨hk75,hz73⟩:=ac hz73
 refine am hS (wt hS rfl rfl rfl rfl) rfl rfl rfl (v:=vB (gt (gt pC x5.1) o64)) (aA tu9 (hS.lk rfl) (hS.lk rfl) hk75) fun s hS=>(sg0 hS 2 [] [52] [.bool (((gt (gt pC x5.1) o64).toNat:Int)==((33:UInt8).toNat:Int))] [] (by kernel_rfl) fun s hS=>?_)
 refine KW.nil ?_
 obtain rfl:=Option.some.inj hz73
 exact hS.subR rfl
 refine sg0 hS 1 [] [53] [.bool z73] [] (by kernel_rfl) fun s hS=>(KW.nil ?_)
 obtain rfl:=Option.some.inj hz71
 exact hS.subR rfl
 replace hS:=hS.kb 42 hc72 rfl
 refine sg0 hS 5 [] [47] [undef] [] (by kernel_rfl) fun s hS=>(dx hS (wu hS rfl rfl rfl) rfl fun s hS=>?_)
 refine dx hS (wu hS rfl rfl rfl) rfl fun s hS=>(dx hS (wu hS rfl rfl rfl) rfl fun s hS=>?_)
 refine dx hS (wu hS rfl rfl rfl) rfl fun s hS=>(sg0 hS 2 [] [53] [.bool false] [] (by kernel_rfl) fun s hS=>?_)
 refine KW.nil ?_
 obtain rfl:=Option.some.inj hz71
 exact hS.subR rfl
 refine KW.nil (bc hz38 (fun hc76 hz38=>?_) fun hc76 hz38=>?_)
 refine WW.condK hS rfl hc76 (WW.seq ?_)
 refine WW.region (sg0 hS 2 [4] [55] [.slice a16 x5.2.2.2.2.2.2.2.length z17] [i3] (by kernel_rfl) fun s hS=>?_)
 refine bf hS (wn rfl) rfl rfl rfl (v:=fun i=> .slice (some ⟨i,0,none⟩) 1 1) (b:= .row [.int .i64 0] 3 1 true) (be ko tz3 km rfl [(0,.int .i64 0)] (ar hS rfl) rfl) fun s i77 hS=>?_
 have hC78:au (elI .i64 3) F6 ([0]:List Int) [.int .i64 0]:=⟨[.int .i64 0],[],rfl,rfl,rfl⟩
 obtain⟨hk82,hz38⟩:=ac hz38
 refine eb hS (wn rfl) (dd:=(elI .i64 3)) (lst:=x5.2.2.2.2.2.2.2) (m:=([0]:List Int)) rfl rfl cZ rfl rfl h18 (Nat.succ_pos _) hC78 hk82 fun s i79 cs80 hC81 hS=>(sg hS 2 [4] [] [] [i3] [[(i79,.row cs80 3 1 true)],B15,B11,[(i4,.row [.int .i64 0,aa x5.2.1,.slice a8 x5.2.2.1.length z9,vB x5.2.2.2.1,.int .i64 x5.2.2.2.2.1,.bool x5.2.2.2.2.2.1] 138 0 true)],[(i3,.row [.slice a12 x5.2.2.2.2.2.2.1.length z13,.slice (some ⟨i79,0,none⟩) (x5.2.2.2.2.2.2.2++([0]:List Int)).length 1,.int .i64 0,.int .i64 0] 55 0 true)],[(i2,.row [.slice none 0 0,.slice none 0 0,.int .i64 0,.int .i64 0] 55 0 true)],[(i1,.row [aa pA,.bool pB,.slice (some ⟨i60,of61,none⟩) pC.length zH] 38 0 true)]] (by kernel_rfl) fun s hS=>?_)
 refine KW.nil (WW.exit ?_)
 refine af (ah ?_)
 obtain rfl:=Option.some.inj hz38
 exact⟨_,rfl,_,_,_,_,_,_,_,_,_,_,(hS.subR rfl),(Own.blk0 hC81),h10,h14,(FLe.refl _)⟩
 refine WW.condF hS rfl hc76 (WW.skip ?_)
 refine WW.seq (WW.region ?_)
 refine sg0 hS 1 [] [8] [.int .i64 2] [] (by kernel_rfl) fun s hS=>(KW.nil ?_)
 obtain⟨z83,hz83,hz38⟩:=bind_some hz38
 refine WW.seqJ (fun s=> ∃(z84:Int×Int),z83= .inl z84∧Stt EV s [(1,.pointer (some ⟨i1,0,none⟩)),(2,.pointer (some ⟨i2,0,none⟩)),(3,.pointer (some ⟨i3,0,none⟩)),(4,.pointer (some ⟨i4,0,none⟩)),(5,.int .i64 x5.1),(6,aa (gt pC x5.1)),(7,.int .i64 z84.1),(8,.int .i64 2)] [B19,B15,B11,[(i4,.row [.int .i64 0,aa x5.2.1,.slice a8 x5.2.2.1.length z9,vB x5.2.2.2.1,.int .i64 z84.2,.bool x5.2.2.2.2.2.1] 138 0 true)],[(i3,.row [.slice a12 x5.2.2.2.2.2.2.1.length z13,.slice a16 x5.2.2.2.2.2.2.2.length z17,.int .i64 0,.int .i64 0] 55 0 true)],[(i2,.row [.slice none 0 0,.slice none 0 0,.int .i64 0,.int .i64 0] 55 0 true)],[(i1,.row [aa pA,.bool pB,.slice (some ⟨i60,of61,none⟩) pC.length zH] 38 0 true)]] F6 L F nx0) ?_ ?_
 refine WW.seq (WW.region ?_)
 refine sg0 hS 2 [3] [60] [.bool x5.2.2.2.2.2.1] [i4] (by kernel_rfl) fun s hS=>(KW.nil ?_)
 refine bc hz83 (fun hc85 hz83=>?_) fun hc85 hz83=>?_
 refine WW.condK hS rfl hc85 ?_
 obtain⟨z86,hz86,hz83⟩:=bind_some hz83
 refine WW.seqJ (fun s=> ∃(z87:Int),z86= .inl z87∧Stt EV s [(1,.pointer (some ⟨i1,0,none⟩)),(2,.pointer (some ⟨i2,0,none⟩)),(3,.pointer (some ⟨i3,0,none⟩)),(4,.pointer (some ⟨i4,0,none⟩)),(5,.int .i64 x5.1),(6,aa (gt pC x5.1)),(7,.int .i64 z87),(8,.int .i64 2)] [B19,B15,B11,[(i4,.row [.int .i64 0,aa x5.2.1,.slice a8 x5.2.2.1.length z9,vB x5.2.2.2.1,.int .i64 x5.2.2.2.2.1,.bool x5.2.2.2.2.2.1] 138 0 true)],[(i3,.row [.slice a12 x5.2.2.2.2.2.2.1.length z13,.slice a16 x5.2.2.2.2.2.2.2.length z17,.int .i64 0,.int .i64 0] 55 0 true)],[(i2,.row [.slice none 0 0,.slice none 0 0,.int .i64 0,.int .i64 0] 55 0 true)],[(i1,.row [aa pA,.bool pB,.slice (some ⟨i60,of61,none⟩) pC.length zH] 38 0 true)]] F6 L F nx0) ?_ ?_
 refine WW.seq (WW.region ?_)
 refine sg0 hS 5 [] [65] [.bool (decide (o64<((gt pC x5.1).length:Int)))] [] (by kernel_rfl) fun s hS=>?_
 obtain⟨z88,hz88,hz86⟩:=bind_some hz86
 refine aH 5 (fun s=>Stt EV s [(70,.bool z88),(1,.pointer (some ⟨i1,0,none⟩)),(2,.pointer (some ⟨i2,0,none⟩)),(3,.pointer (some ⟨i3,0,none⟩)),(4,.pointer (some ⟨i4,0,none⟩)),(5,.int .i64 x5.1),(6,aa (gt pC x5.1)),(7,.int .i64 o64),(8,.int .i64 2)] [B19,B15,B11,[(i4,.row [.int .i64 0,aa x5.2.1,.slice a8 x5.2.2.1.length z9,vB x5.2.2.2.1,.int .i64 x5.2.2.2.2.1,.bool x5.2.2.2.2.2.1] 138 0 true)],[(i3,.row [.slice a12 x5.2.2.2.2.2.2.1.length z13,.slice a16 x5.2.2.2.2.2.2.2.length z17,.int .i64 0,.int .i64 0] 55 0 true)],[(i2,.row [.slice none 0 0,.slice none 0 0,.int .i64 0,.int .i64 0] 55 0 true)],[(i1,.row [aa pA,.bool pB,.slice (some ⟨i60,of61,none⟩) pC.length zH] 38 0 true)]] F6 L F nx0) ?_ fun s hS=>?_
 refine bc hz88 (fun hc89 hz88=>?_) fun hc89 hz88=>?_
 replace hS:=hS.kb 65 hc89 rfl
 refine sg0 hS 2 [] [66,67] [aa (gt pC x5.1),.int .i64 o64] [] (by kernel_rfl) fun s hS=>?_
 obtain⟨hk90,hz88⟩:=ac hz88
 refine am hS (wt hS rfl rfl rfl rfl) rfl rfl rfl (v:=vB (gt (gt pC x5.1) o64)) (aA tu9 (hS.lk rfl) (hS.lk rfl) hk90) fun s hS=>(sg0 hS 2 [] [70] [.bool (((gt (gt pC x5.1) o64).toNat:Int)==((38:UInt8).toNat:Int))] [] (by kernel_rfl) fun s hS=>?_)
 refine KW.nil ?_
 obtain rfl:=Option.some.inj hz88
 exact hS.subR rfl
 replace hS:=hS.kb 65 hc89 rfl
 refine sg0 hS 5 [] [70] [.bool false] [] (by kernel_rfl) fun s hS=>(KW.nil ?_)
 obtain rfl:=Option.some.inj hz88
 exact hS.subR rfl
 refine KW.nil (bc hz86 (fun hc91 hz86=>?_) fun hc91 hz86=>?_)
 refine WW.condK hS rfl hc91 (WW.seq ?_)
 refine WW.region (sg0 hS 3 [] [7] [.int .i64 (w64 (o64+1))] [] (by kernel_rfl) fun s hS=>?_)
 refine KW.nil (WW.seq ?_)
 refine WW.region (sg0 hS 2 [] [73,74] [aa (gt pC x5.1),.int .i64 (w64 (o64+1))] [] (by kernel_rfl) fun s hS=>?_)
 obtain⟨hk92,hz86⟩:=ac hz86
 refine am hS (wn rfl) rfl rfl rfl (v:=aa (mid (gt pC x5.1) (w64 (o64+1)) ((gt pC x5.1).length:Int))) (cu tu9 (hS.lk rfl) (i:=(w64 (o64+1))) (j:=((gt pC x5.1).length:Int)) (bu hS rfl) rfl hk92) fun s hS=>?_
 obtain⟨y93,hy93,hz86⟩:=bind_some hz86
 refine cR (g_k.ok hy93) hS 0 76 0 rfl (by kernel_rfl) fun s hS=>(KW.nil ?_)
 refine bc hz86 (fun hc95 hz86=>?_) fun hc95 hz86=>?_
 refine WW.condK hS rfl hc95 (WW.seq ?_)
 refine WW.region ?_
 obtain⟨y96,hy96,hz86⟩:=bind_some hz86
 refine cK (g_o.ok hy96) hS 1 78 0 rfl (by kernel_rfl) fun s v S' F' hp97 hF hS=>?_
 obtain⟨a98,z99,B101,a102,z103,B105,rfl,rfl,rfl,h100,h104⟩:=hp97
 refine sg hS 1 [7] [] [] [i2] [B101,B105,B19,B15,B11,[(i4,.row [.int .i64 0,aa x5.2.1,.slice a8 x5.2.2.1.length z9,vB x5.2.2.2.1,.int .i64 x5.2.2.2.2.1,.bool x5.2.2.2.2.2.1] 138 0 true)],[(i3,.row [.slice a12 x5.2.2.2.2.2.2.1.length z13,.slice a16 x5.2.2.2.2.2.2.2.length z17,.int .i64 0,.int .i64 0] 55 0 true)],[(i2,.row [.slice a98 y96.1.length z99,.slice a102 y96.2.1.length z103,.int .i64 y96.2.2.1,.int .i64 y96.2.2.2] 55 0 true)],[(i1,.row [aa pA,.bool pB,.slice (some ⟨i60,of61,none⟩) pC.length zH] 38 0 true)]] (by kernel_rfl) fun s hS=>(KW.nil ?_)
 refine WW.ret ?_
 obtain rfl:=Option.some.inj hz86
 replace hz83:=aj hz83
 obtain rfl:=Option.some.inj hz83
 replace hz38:=aj hz38
 obtain rfl:=Option.some.inj hz38
 replace h36:=aj h36
 have hres:=(aL hS (t:=2) (ty:=55) rfl (p:=7) rfl ee ef (ws:=[.slice a98 y96.1.length z99,.slice a102 y96.2.1.length z103,.int .i64 y96.2.2.1,.int .i64 y96.2.2.2]) rfl (aw (E:=EV) (s:=s)))
 replace hS:=(hS.pull 2).drop
 replace hS:=(hS.pull 2).drop
 replace hS:=(hS.pull 2).drop
 replace hS:=(hS.pull 2).drop
 replace hS:=(hS.pull 2).drop
 replace hS:=(hS.pull 2).drop
 replace hS:=(hS.pull 2).drop
 cases h36
 exact⟨_,rfl,rfl,fin hS (.inr rfl) hres (v:= .agg #[.slice a98 y96.1.length z99,.slice a102 y96.2.1.length z103,.int .i64 y96.2.2.1,.int .i64 y96.2.2.2]) rfl ⟨_,_,_,_,_,_,(hF7),rfl,rfl,h100,h104⟩⟩
 refine WW.condF hS rfl hc95 (WW.skip ?_)
 obtain rfl:=Option.some.inj hz86
 exact⟨_,rfl,(hS.subR rfl)⟩
 refine WW.condF hS rfl hc91 (WW.seq ?_)
 refine WW.region (sg0 hS 3 [3] [81] [.bool ((x5.2.2.2.1.toNat:Int) != ((0:UInt8).toNat:Int))] [i4] (by kernel_rfl) fun s hS=>?_)
 refine KW.nil (bc hz86 (fun hc106 hz86=>?_) fun hc106 hz86=>?_)
 refine WW.condK hS rfl hc106 (WW.seq ?_)
 refine WW.region ?_
 obtain⟨y107,hy107,hz86⟩:=bind_some hz86
 refine cK (g_o.ok hy107) hS 1 83 0 rfl (by kernel_rfl) fun s v S' F' hp108 hF hS=>?_
 obtain⟨a109,z110,B112,a113,z114,B116,rfl,rfl,rfl,h111,h115⟩:=hp108
 refine sg hS 1 [7] [] [] [i2] [B112,B116,B19,B15,B11,[(i4,.row [.int .i64 0,aa x5.2.1,.slice a8 x5.2.2.1.length z9,vB x5.2.2.2.1,.int .i64 x5.2.2.2.2.1,.bool x5.2.2.2.2.2.1] 138 0 true)],[(i3,.row [.slice a12 x5.2.2.2.2.2.2.1.length z13,.slice a16 x5.2.2.2.2.2.2.2.length z17,.int .i64 0,.int .i64 0] 55 0 true)],[(i2,.row [.slice a109 y107.1.length z110,.slice a113 y107.2.1.length z114,.int .i64 y107.2.2.1,.int .i64 y107.2.2.2] 55 0 true)],[(i1,.row [aa pA,.bool pB,.slice (some ⟨i60,of61,none⟩) pC.length zH] 38 0 true)]] (by kernel_rfl) fun s hS=>(KW.nil ?_)
 refine WW.ret ?_
 obtain rfl:=Option.some.inj hz86
 replace hz83:=aj hz83
 obtain rfl:=Option.some.inj hz83
 replace hz38:=aj hz38
 obtain rfl:=Option.some.inj hz38
 replace h36:=aj h36
 have hres:=(aL hS (t:=2) (ty:=55) rfl (p:=7) rfl ee ef (ws:=[.slice a109 y107.1.length z110,.slice a113 y107.2.1.length z114,.int .i64 y107.2.2.1,.int .i64 y107.2.2.2]) rfl (aw (E:=EV) (s:=s)))
 replace hS:=(hS.pull 2).drop
 replace hS:=(hS.pull 2).drop
 replace hS:=(hS.pull 2).drop
 replace hS:=(hS.pull 2).drop
 replace hS:=(hS.pull 2).drop
 replace hS:=(hS.pull 2).drop
 replace hS:=(hS.pull 2).drop
 cases h36
 exact⟨_,rfl,rfl,fin hS (.inr rfl) hres (v:= .agg #[.slice a109 y107.1.length z110,.slice a113 y107.2.1.length z114,.int .i64 y107.2.2.1,.int .i64 y107.2.2.2]) rfl ⟨_,_,_,_,_,_,(hF7),rfl,rfl,h111,h115⟩⟩
 refine WW.condF hS rfl hc106 (WW.region ?_)
 refine sg0 hS 1 [] [7] [.int .i64 0] [] (by kernel_rfl) fun s hS=>(KW.nil ?_)
 obtain rfl:=Option.some.inj hz86
 exact⟨_,rfl,(hS.subR rfl)⟩
 rintro s ⟨z87,rfl,hS⟩
 replace hz83:=aB hz83
 refine WW.region (sg hS 5 [3,3] [] [] [i4,i4] [B19,B15,B11,[(i4,.row [.int .i64 0,aa x5.2.1,.slice a8 x5.2.2.1.length z9,vB x5.2.2.2.1,.int .i64 (w64 (x5.2.2.2.2.1+1)),.bool x5.2.2.2.2.2.1] 138 0 true)],[(i3,.row [.slice a12 x5.2.2.2.2.2.2.1.length z13,.slice a16 x5.2.2.2.2.2.2.2.length z17,.int .i64 0,.int .i64 0] 55 0 true)],[(i2,.row [.slice none 0 0,.slice none 0 0,.int .i64 0,.int .i64 0] 55 0 true)],[(i1,.row [aa pA,.bool pB,.slice (some ⟨i60,of61,none⟩) pC.length zH] 38 0 true)]] (by kernel_rfl) fun s hS=>?_)
 refine KW.nil ?_
 obtain rfl:=Option.some.inj hz83
 exact⟨_,rfl,(hS.subR rfl)⟩
 refine WW.condF hS rfl hc85 (WW.region ?_)
 refine sg0 hS 1 [] [7] [.int .i64 0] [] (by kernel_rfl) fun s hS=>(KW.nil ?_)
 obtain rfl:=Option.some.inj hz83
 exact⟨_,rfl,(hS.subR rfl)⟩
 rintro s ⟨z84,rfl,hS⟩
 replace hz38:=aB hz38
 refine WW.seq (WW.region ?_)
 refine sg0 hS 4 [3] [88,89,91] [aa (gt pC x5.1),.int .i64 z84.1,vB x5.2.2.2.1] [i4] (by kernel_rfl) fun s hS=>?_
 obtain⟨y117,hy117,hz38⟩:=bind_some hz38
 refine bE hS (wn rfl) (vs:=[aa (gt pC x5.1),.int .i64 z84.1,vB x5.2.2.2.1]) (ws:=[aa (gt pC x5.1),.int .i64 z84.1,vB x5.2.2.2.1]) rfl rfl rfl rfl rfl 0 rfl (g_m.ok hy117) fun s v S' F' hp118 hF hS=>?_
 obtain⟨rfl,rfl,rfl⟩:=hp118
 refine bf hS (wn rfl) rfl rfl rfl (v:=fun i=> .pointer (some ⟨i,0,none⟩)) (b:= .row [.int .i64 0,.bool false,.bool false,vB 0] 141 0 true) (aU jQ) fun s i119 hS=>(sg hS 1 [0] [] [] [i119] [[(i119,.row [.int .i64 y117.1,.bool y117.2.1,.bool y117.2.2.1,vB y117.2.2.2] 141 0 true)],B19,B15,B11,[(i4,.row [.int .i64 0,aa x5.2.1,.slice a8 x5.2.2.1.length z9,vB x5.2.2.2.1,.int .i64 z84.2,.bool x5.2.2.2.2.2.1] 138 0 true)],[(i3,.row [.slice a12 x5.2.2.2.2.2.2.1.length z13,.slice a16 x5.2.2.2.2.2.2.2.length z17,.int .i64 0,.int .i64 0] 55 0 true)],[(i2,.row [.slice none 0 0,.slice none 0 0,.int .i64 0,.int .i64 0] 55 0 true)],[(i1,.row [aa pA,.bool pB,.slice (some ⟨i60,of61,none⟩) pC.length zH] 38 0 true)]] (by kernel_rfl) fun s hS=>?_)
 refine KW.nil (WW.seq ?_)
 refine WW.seq (WW.region ?_)
 refine sg0 hS 2 [0] [94] [.bool y117.2.1] [i119] (by kernel_rfl) fun s hS=>(KW.nil ?_)
 refine bc hz38 (fun hc120 hz38=>?_) fun hc120 hz38=>?_
 refine WW.condK hS rfl hc120 (WW.seq ?_)
 refine WW.region ?_
 obtain⟨y121,hy121,hz38⟩:=bind_some hz38
 refine cK (g_o.ok hy121) hS 1 96 0 rfl (by kernel_rfl) fun s v S' F' hp122 hF hS=>?_
 obtain⟨a123,z124,B126,a127,z128,B130,rfl,rfl,rfl,h125,h129⟩:=hp122
 refine sg hS 1 [8] [] [] [i2] [B126,B130,[(i119,.row [.int .i64 y117.1,.bool y117.2.1,.bool y117.2.2.1,vB y117.2.2.2] 141 0 true)],B19,B15,B11,[(i4,.row [.int .i64 0,aa x5.2.1,.slice a8 x5.2.2.1.length z9,vB x5.2.2.2.1,.int .i64 z84.2,.bool x5.2.2.2.2.2.1] 138 0 true)],[(i3,.row [.slice a12 x5.2.2.2.2.2.2.1.length z13,.slice a16 x5.2.2.2.2.2.2.2.length z17,.int .i64 0,.int .i64 0] 55 0 true)],[(i2,.row [.slice a123 y121.1.length z124,.slice a127 y121.2.1.length z128,.int .i64 y121.2.2.1,.int .i64 y121.2.2.2] 55 0 true)],[(i1,.row [aa pA,.bool pB,.slice (some ⟨i60,of61,none⟩) pC.length zH] 38 0 true)]] (by kernel_rfl) fun s hS=>(KW.nil ?_)
 refine WW.ret ?_
 obtain rfl:=Option.some.inj hz38
 replace h36:=aj h36
 have hres:=(aL hS (t:=2) (ty:=55) rfl (p:=8) rfl ee ef (ws:=[.slice a123 y121.1.length z124,.slice a127 y121.2.1.length z128,.int .i64 y121.2.2.1,.int .i64 y121.2.2.2]) rfl (aw (E:=EV) (s:=s)))
 replace hS:=(hS.pull 2).drop
 replace hS:=(hS.pull 2).drop
 replace hS:=(hS.pull 2).drop
 replace hS:=(hS.pull 2).drop
 replace hS:=(hS.pull 2).drop
 replace hS:=(hS.pull 2).drop
 replace hS:=(hS.pull 2).drop
 replace hS:=(hS.pull 2).drop
 cases h36
 exact⟨_,rfl,rfl,fin hS (.inr rfl) hres (v:= .agg #[.slice a123 y121.1.length z124,.slice a127 y121.2.1.length z128,.int .i64 y121.2.2.1,.int .i64 y121.2.2.2]) rfl ⟨_,_,_,_,_,_,(hF7),rfl,rfl,h125,h129⟩⟩
 refine WW.condF hS rfl hc120 (WW.skip ?_)
 refine WW.seq (WW.seq ?_)
 refine WW.region (sg0 hS 3 [4] [99] [.bool (decide (z84.2>39))] [i4] (by kernel_rfl) fun s hS=>?_)
 refine KW.nil (bc hz38 (fun hc131 hz38=>?_) fun hc131 hz38=>?_)
 refine WW.condK hS rfl hc131 (WW.seq ?_)
 refine WW.region ?_
 obtain⟨y132,hy132,hz38⟩:=bind_some hz38
 refine cK (g_o.ok hy132) hS 1 101 0 rfl (by kernel_rfl) fun s v S' F' hp133 hF hS=>?_
 obtain⟨a134,z135,B137,a138,z139,B141,rfl,rfl,rfl,h136,h140⟩:=hp133
 refine sg hS 1 [8] [] [] [i2] [B137,B141,[(i119,.row [.int .i64 y117.1,.bool y117.2.1,.bool y117.2.2.1,vB y117.2.2.2] 141 0 true)],B19,B15,B11,[(i4,.row [.int .i64 0,aa x5.2.1,.slice a8 x5.2.2.1.length z9,vB x5.2.2.2.1,.int .i64 z84.2,.bool x5.2.2.2.2.2.1] 138 0 true)],[(i3,.row [.slice a12 x5.2.2.2.2.2.2.1.length z13,.slice a16 x5.2.2.2.2.2.2.2.length z17,.int .i64 0,.int .i64 0] 55 0 true)],[(i2,.row [.slice a134 y132.1.length z135,.slice a138 y132.2.1.length z139,.int .i64 y132.2.2.1,.int .i64 y132.2.2.2] 55 0 true)],[(i1,.row [aa pA,.bool pB,.slice (some ⟨i60,of61,none⟩) pC.length zH] 38 0 true)]] (by kernel_rfl) fun s hS=>(KW.nil ?_)
 refine WW.ret ?_
 obtain rfl:=Option.some.inj hz38
 replace h36:=aj h36
 have hres:=(aL hS (t:=2) (ty:=55) rfl (p:=8) rfl ee ef (ws:=[.slice a134 y132.1.length z135,.slice a138 y132.2.1.length z139,.int .i64 y132.2.2.1,.int .i64 y132.2.2.2]) rfl (aw (E:=EV) (s:=s)))
 replace hS:=(hS.pull 2).drop
 replace hS:=(hS.pull 2).drop
 replace hS:=(hS.pull 2).drop
 replace hS:=(hS.pull 2).drop
 replace hS:=(hS.pull 2).drop
 replace hS:=(hS.pull 2).drop
 replace hS:=(hS.pull 2).drop
 replace hS:=(hS.pull 2).drop
 cases h36
 exact⟨_,rfl,rfl,fin hS (.inr rfl) hres (v:= .agg #[.slice a134 y132.1.length z135,.slice a138 y132.2.1.length z139,.int .i64 y132.2.2.1,.int .i64 y132.2.2.2]) rfl ⟨_,_,_,_,_,_,(hF7),rfl,rfl,h136,h140⟩⟩
 refine WW.condF hS rfl hc131 (WW.skip ?_)
 refine WW.seq (WW.seq ?_)
 refine WW.region (sg0 hS 4 [0] [105] [.bool ((y117.2.2.2.toNat:Int) != ((0:UInt8).toNat:Int))] [i119] (by kernel_rfl) fun s hS=>?_)
 refine aH 4 (fun s=>Stt EV s [(109,.bool (((y117.2.2.2.toNat:Int) != ((0:UInt8).toNat:Int))&&(!y117.2.2.1))),(1,.pointer (some ⟨i1,0,none⟩)),(2,.pointer (some ⟨i2,0,none⟩)),(3,.pointer (some ⟨i3,0,none⟩)),(4,.pointer (some ⟨i4,0,none⟩)),(5,.int .i64 x5.1),(6,aa (gt pC x5.1)),(7,.int .i64 z84.1),(8,.int .i64 2),(9,.pointer (some ⟨i119,0,none⟩))] [[(i119,.row [.int .i64 y117.1,.bool y117.2.1,.bool y117.2.2.1,vB y117.2.2.2] 141 0 true)],B19,B15,B11,[(i4,.row [.int .i64 0,aa x5.2.1,.slice a8 x5.2.2.1.length z9,vB x5.2.2.2.1,.int .i64 z84.2,.bool x5.2.2.2.2.2.1] 138 0 true)],[(i3,.row [.slice a12 x5.2.2.2.2.2.2.1.length z13,.slice a16 x5.2.2.2.2.2.2.2.length z17,.int .i64 0,.int .i64 0] 55 0 true)],[(i2,.row [.slice none 0 0,.slice none 0 0,.int .i64 0,.int .i64 0] 55 0 true)],[(i1,.row [aa pA,.bool pB,.slice (some ⟨i60,of61,none⟩) pC.length zH] 38 0 true)]] F6 L F nx0) ?_ fun s hS=>?_
 rcases ax (((y117.2.2.2.toNat:Int) != ((0:UInt8).toNat:Int))) with hcj | hcj
 replace hS:=hS.know (t:=105) rfl (congrArg Value.bool hcj)
 refine sg0 hS 4 [0] [109] [.bool (!y117.2.2.1)] [i119] (by kernel_rfl) fun s hS=>(KW.nil ?_)
 exact(hS.know (t:=109) (u':= .bool (((y117.2.2.2.toNat:Int) != ((0:UInt8).toNat:Int))&&(!y117.2.2.1))) rfl (bw hcj)).subR rfl
 replace hS:=hS.know (t:=105) rfl (congrArg Value.bool hcj)
 refine sg0 hS 4 [] [109] [.bool false] [] (by kernel_rfl) fun s hS=>(KW.nil ?_)
 exact(hS.know (t:=109) (u':= .bool (((y117.2.2.2.toNat:Int) != ((0:UInt8).toNat:Int))&&(!y117.2.2.1))) rfl (bx hcj)).subR rfl
 refine KW.nil (bc hz38 (fun hc142 hz38=>?_) fun hc142 hz38=>?_)
 refine WW.condK hS rfl hc142 (WW.seq ?_)
 refine WW.region ?_
 obtain⟨y143,hy143,hz38⟩:=bind_some hz38
 refine cK (g_o.ok hy143) hS 1 111 0 rfl (by kernel_rfl) fun s v S' F' hp144 hF hS=>?_
 obtain⟨a145,z146,B148,a149,z150,B152,rfl,rfl,rfl,h147,h151⟩:=hp144
 refine sg hS 1 [8] [] [] [i2] [B148,B152,[(i119,.row [.int .i64 y117.1,.bool y117.2.1,.bool y117.2.2.1,vB y117.2.2.2] 141 0 true)],B19,B15,B11,[(i4,.row [.int .i64 0,aa x5.2.1,.slice a8 x5.2.2.1.length z9,vB x5.2.2.2.1,.int .i64 z84.2,.bool x5.2.2.2.2.2.1] 138 0 true)],[(i3,.row [.slice a12 x5.2.2.2.2.2.2.1.length z13,.slice a16 x5.2.2.2.2.2.2.2.length z17,.int .i64 0,.int .i64 0] 55 0 true)],[(i2,.row [.slice a145 y143.1.length z146,.slice a149 y143.2.1.length z150,.int .i64 y143.2.2.1,.int .i64 y143.2.2.2] 55 0 true)],[(i1,.row [aa pA,.bool pB,.slice (some ⟨i60,of61,none⟩) pC.length zH] 38 0 true)]] (by kernel_rfl) fun s hS=>(KW.nil ?_)
 refine WW.ret ?_
 obtain rfl:=Option.some.inj hz38
 replace h36:=aj h36
 have hres:=(aL hS (t:=2) (ty:=55) rfl (p:=8) rfl ee ef (ws:=[.slice a145 y143.1.length z146,.slice a149 y143.2.1.length z150,.int .i64 y143.2.2.1,.int .i64 y143.2.2.2]) rfl (aw (E:=EV) (s:=s)))
 replace hS:=(hS.pull 2).drop
 replace hS:=(hS.pull 2).drop
 replace hS:=(hS.pull 2).drop
 replace hS:=(hS.pull 2).drop
 replace hS:=(hS.pull 2).drop
 replace hS:=(hS.pull 2).drop
 replace hS:=(hS.pull 2).drop
 replace hS:=(hS.pull 2).drop
 cases h36
 exact⟨_,rfl,rfl,fin hS (.inr rfl) hres (v:= .agg #[.slice a145 y143.1.length z146,.slice a149 y143.2.1.length z150,.int .i64 y143.2.2.1,.int .i64 y143.2.2.2]) rfl ⟨_,_,_,_,_,_,(hF7),rfl,rfl,h147,h151⟩⟩
 refine WW.condF hS rfl hc142 (WW.skip ?_)
 refine WW.seq (WW.region ?_)
 refine sg hS 2 [4] [] [] [i4] [[(i119,.row [.int .i64 y117.1,.bool y117.2.1,.bool y117.2.2.1,vB y117.2.2.2] 141 0 true)],B19,B15,B11,[(i4,.row [.int .i64 0,aa x5.2.1,.slice a8 x5.2.2.1.length z9,vB x5.2.2.2.1,.int .i64 z84.2,.bool false] 138 0 true)],[(i3,.row [.slice a12 x5.2.2.2.2.2.2.1.length z13,.slice a16 x5.2.2.2.2.2.2.2.length z17,.int .i64 0,.int .i64 0] 55 0 true)],[(i2,.row [.slice none 0 0,.slice none 0 0,.int .i64 0,.int .i64 0] 55 0 true)],[(i1,.row [aa pA,.bool pB,.slice (some ⟨i60,of61,none⟩) pC.length zH] 38 0 true)]] (by kernel_rfl) fun s hS=>(KW.nil ?_)
 refine WW.seq (WW.block ?_)
 obtain⟨o164,ho164,hz38⟩:=bind_some hz38
 refine WW.loop (LW.iterS ho164 (fun(x153:Int×Int×List UInt8×(List (Int×Int×Int))×UInt8×Int×(List (Int×List UInt8×(List (Int×Int×Int))))) s=> ∃(a156:Option Addr) (z157:Nat) (B159:Seg) (a160:Option Addr) (z161:Nat) (B163:Seg) (F154:FZ),Stt EV s [(1,.pointer (some ⟨i1,0,none⟩)),(2,.pointer (some ⟨i2,0,none⟩)),(3,.pointer (some ⟨i3,0,none⟩)),(4,.pointer (some ⟨i4,0,none⟩)),(5,.int .i64 x5.1),(6,aa (gt pC x5.1)),(7,.int .i64 x153.1),(8,.int .i64 x153.2.1),(9,.pointer (some ⟨i119,0,none⟩))] [[(i119,.row [.int .i64 y117.1,.bool y117.2.1,.bool y117.2.2.1,vB y117.2.2.2] 141 0 true)],B19,B163,B159,[(i4,.row [.int .i64 0,aa x153.2.2.1,.slice a156 x153.2.2.2.1.length z157,vB x153.2.2.2.2.1,.int .i64 x153.2.2.2.2.2.1,.bool false] 138 0 true)],[(i3,.row [.slice a160 x153.2.2.2.2.2.2.length z161,.slice a16 x5.2.2.2.2.2.2.2.length z17,.int .i64 0,.int .i64 0] 55 0 true)],[(i2,.row [.slice none 0 0,.slice none 0 0,.int .i64 0,.int .i64 0] 55 0 true)],[(i1,.row [aa pA,.bool pB,.slice (some ⟨i60,of61,none⟩) pC.length zH] 38 0 true)]] F154 L F nx0∧Own dj F154 a156 z157 x153.2.2.2.1 B159∧Own bs F154 a160 z161 x153.2.2.2.2.2.2 B163∧FLe F6 F154) 4 (fun r=>dq EV Tryz.f55 L F nx0 (fun v S' F'=> ∃(ra1:Option Addr) (rz2:Nat) (rB4:Seg) (ra5:Option Addr) (rz6:Nat) (rB8:Seg),FLe F F'∧v= .agg #[.slice ra1 r.1.length rz2,.slice ra5 r.2.1.length rz6,.int .i64 r.2.2.1,.int .i64 r.2.2.2]∧S'= [rB4,rB8]∧Own bs F' ra1 rz2 r.1 rB4∧Own (elI .i64 3) F' ra5 rz6 r.2.1 rB8)) ⟨_,_,_,_,_,_,_,(hS.subR rfl),h10,h14,(FLe.refl _)⟩ ?_ ?_)
 clear hS
 rintro x153 s ⟨a156,z157,B159,a160,z161,B163,F154,hS,h158,h162,hF155⟩ o164' h176
 unfold g_j.b2 at h176
 refine WW.seq (WW.seq ?_)
 refine WW.region (sg0 hS 4 [0] [116] [.bool (decide (x153.1<y117.1))] [i119] (by kernel_rfl) fun s hS=>?_)
 refine KW.nil (bc h176 (fun hc177 h176=>?_) fun hc177 h176=>?_)
 refine WW.condK hS rfl hc177 (WW.skip ?_)
 refine WW.block (WW.seq ?_)
 refine WW.region (sg0 hS 2 [] [117,118] [aa (gt pC x5.1),.int .i64 x153.1] [] (by kernel_rfl) fun s hS=>?_)
 obtain⟨hk178,h176⟩:=ac h176
 refine am hS (wn rfl) rfl rfl rfl (v:=vB (gt (gt pC x5.1) x153.1)) (aA tu9 (hS.lk rfl) (hS.lk rfl) hk178) fun s hS=>(sg0 hS 1 [] [10] [vB (gt (gt pC x5.1) x153.1)] [] (by kernel_rfl) fun s hS=>?_)
 refine KW.nil (WW.seq ?_)
 refine WW.seq (WW.region ?_)
 refine sg0 hS 4 [4] [123] [.bool ((x153.2.2.2.2.1.toNat:Int)==((0:UInt8).toNat:Int))] [i4] (by kernel_rfl) fun s hS=>(aH 3 (fun s=>Stt EV s [(126,.bool (((x153.2.2.2.2.1.toNat:Int)==((0:UInt8).toNat:Int))&&(((gt (gt pC x5.1) x153.1).toNat:Int)==((59:UInt8).toNat:Int)))),(1,.pointer (some ⟨i1,0,none⟩)),(2,.pointer (some ⟨i2,0,none⟩)),(3,.pointer (some ⟨i3,0,none⟩)),(4,.pointer (some ⟨i4,0,none⟩)),(5,.int .i64 x5.1),(6,aa (gt pC x5.1)),(7,.int .i64 x153.1),(8,.int .i64 x153.2.1),(9,.pointer (some ⟨i119,0,none⟩)),(10,vB (gt (gt pC x5.1) x153.1))] [[(i119,.row [.int .i64 y117.1,.bool y117.2.1,.bool y117.2.2.1,vB y117.2.2.2] 141 0 true)],B19,B163,B159,[(i4,.row [.int .i64 0,aa x153.2.2.1,.slice a156 x153.2.2.2.1.length z157,vB x153.2.2.2.2.1,.int .i64 x153.2.2.2.2.2.1,.bool false] 138 0 true)],[(i3,.row [.slice a160 x153.2.2.2.2.2.2.length z161,.slice a16 x5.2.2.2.2.2.2.2.length z17,.int .i64 0,.int .i64 0] 55 0 true)],[(i2,.row [.slice none 0 0,.slice none 0 0,.int .i64 0,.int .i64 0] 55 0 true)],[(i1,.row [aa pA,.bool pB,.slice (some ⟨i60,of61,none⟩) pC.length zH] 38 0 true)]] F154 L F nx0) ?_ fun s hS=>?_)
 rcases ax (((x153.2.2.2.2.1.toNat:Int)==((0:UInt8).toNat:Int))) with hcj | hcj
 replace hS:=hS.know (t:=123) rfl (congrArg Value.bool hcj)
 refine sg0 hS 3 [] [126] [.bool (((gt (gt pC x5.1) x153.1).toNat:Int)==((59:UInt8).toNat:Int))] [] (by kernel_rfl) fun s hS=>(KW.nil ?_)
 exact(hS.know (t:=126) (u':= .bool (((x153.2.2.2.2.1.toNat:Int)==((0:UInt8).toNat:Int))&&(((gt (gt pC x5.1) x153.1).toNat:Int)==((59:UInt8).toNat:Int)))) rfl (bw hcj)).subR rfl
 replace hS:=hS.know (t:=123) rfl (congrArg Value.bool hcj)
 refine sg0 hS 3 [] [126] [.bool false] [] (by kernel_rfl) fun s hS=>(KW.nil ?_)
 exact(hS.know (t:=126) (u':= .bool (((x153.2.2.2.2.1.toNat:Int)==((0:UInt8).toNat:Int))&&(((gt (gt pC x5.1) x153.1).toNat:Int)==((59:UInt8).toNat:Int)))) rfl (bx hcj)).subR rfl
 refine KW.nil (bc h176 (fun hc179 h176=>?_) fun hc179 h176=>?_)
 refine WW.condK hS rfl hc179 (WW.seq ?_)
 refine WW.region (sg0 hS 2 [4] [129] [.agg #[.int .i64 0,aa x153.2.2.1,.slice a156 x153.2.2.2.1.length z157]] [i4] (by kernel_rfl) fun s hS=>?_)
 replace hS:=hS.pull 3
 obtain⟨F180,hF181,hS,hz182⟩:=hS.frzO h158
 obtain⟨y183,hy183,h176⟩:=bind_some h176
 refine bE hS (wn rfl) (vs:=[.agg #[.int .i64 0,aa x153.2.2.1,.slice a156 x153.2.2.2.1.length z157]]) (ws:=[.agg #[.int .i64 0,aa x153.2.2.1,.slice a156 x153.2.2.2.1.length z157]]) rfl rfl rfl rfl rfl 0 rfl (g_h.ok hy183 hz182) fun s v S' F' hp184 hF hS=>?_
 obtain⟨a185,z186,rfl,rfl,rfl,h187⟩:=hp184
 refine sg0 hS 3 [] [131,132] [.agg #[.int .i64 y183.1,aa y183.2.1,.slice a185 y183.2.2.1.length z186],.int .i64 y183.2.2.2] [] (by kernel_rfl) fun s hS=>(bf hS (wn rfl) rfl rfl rfl (v:=fun i=> .pointer (some ⟨i,0,none⟩)) (b:= .row [.int .i64 0,aa ([]),.slice none 0 0] 61 0 true) (aU ed) fun s i188 hS=>?_)
 refine sg hS 2 [0] [12] [.int .i64 y183.2.2.2] [i188] [[(i188,.row [.int .i64 y183.1,aa y183.2.1,.slice a185 y183.2.2.1.length z186] 61 0 true)],[(i119,.row [.int .i64 y117.1,.bool y117.2.1,.bool y117.2.2.1,vB y117.2.2.2] 141 0 true)],B19,B163,[(i4,.row [.int .i64 0,aa x153.2.2.1,.slice a156 x153.2.2.2.1.length z157,vB x153.2.2.2.2.1,.int .i64 x153.2.2.2.2.2.1,.bool false] 138 0 true)],[(i3,.row [.slice a160 x153.2.2.2.2.2.2.length z161,.slice a16 x5.2.2.2.2.2.2.2.length z17,.int .i64 0,.int .i64 0] 55 0 true)],[(i2,.row [.slice none 0 0,.slice none 0 0,.int .i64 0,.int .i64 0] 55 0 true)],[(i1,.row [aa pA,.bool pB,.slice (some ⟨i60,of61,none⟩) pC.length zH] 38 0 true)]] (by kernel_rfl) fun s hS=>(KW.nil ?_)
 refine WW.seq (WW.seq ?_)
 refine WW.region (sg0 hS 2 [] [134] [.bool (y183.2.2.2 != 0)] [] (by kernel_rfl) fun s hS=>?_)
 refine KW.nil (bc h176 (fun hc189 h176=>?_) fun hc189 h176=>?_)
 refine WW.condK hS rfl hc189 (WW.seq ?_)
 refine WW.region (sg0 hS 2 [] [135,136] [.int .i64 x5.1,.int .i64 y183.2.2.2] [] (by kernel_rfl) fun s hS=>?_)
 refine am hS (wn rfl) rfl rfl rfl (v:= .agg #[.slice none 0 0,.slice none 0 0,.int .i64 x5.1,.int .i64 y183.2.2.2]) (bp eU tp55 [(2,.int .i64 x5.1),(3,.int .i64 y183.2.2.2)] (ar hS rfl) (cs:=[.slice none 0 0,.slice none 0 0,.int .i64 x5.1,.int .i64 y183.2.2.2]) rfl) fun s hS=>(sg hS 1 [6] [] [] [i2] [[(i188,.row [.int .i64 y183.1,aa y183.2.1,.slice a185 y183.2.2.1.length z186] 61 0 true)],[(i119,.row [.int .i64 y117.1,.bool y117.2.1,.bool y117.2.2.1,vB y117.2.2.2] 141 0 true)],B19,B163,[(i4,.row [.int .i64 0,aa x153.2.2.1,.slice a156 x153.2.2.2.1.length z157,vB x153.2.2.2.2.1,.int .i64 x153.2.2.2.2.2.1,.bool false] 138 0 true)],[(i3,.row [.slice a160 x153.2.2.2.2.2.2.length z161,.slice a16 x5.2.2.2.2.2.2.2.length z17,.int .i64 0,.int .i64 0] 55 0 true)],[(i2,.row [.slice none 0 0,.slice none 0 0,.int .i64 x5.1,.int .i64 y183.2.2.2] 55 0 true)],[(i1,.row [aa pA,.bool pB,.slice (some ⟨i60,of61,none⟩) pC.length zH] 38 0 true)]] (by kernel_rfl) fun s hS=>?_)
 refine KW.nil (WW.ret ?_)
 replace hS:=hS.gap0
 replace hS:=hS.gap0
 have hres:=(aL hS (t:=2) (ty:=55) rfl (p:=8) rfl ee ef (ws:=[.slice none ([]:List (Int×List UInt8×(List (Int×Int×Int)))).length 0,.slice none ([]:List Int).length 0,.int .i64 x5.1,.int .i64 y183.2.2.2]) rfl (aw (E:=EV) (s:=s)))
 replace hS:=(hS.pull 2).drop
 replace hS:=(hS.pull 2).drop
 replace hS:=(hS.pull 2).drop
 replace hS:=(hS.pull 2).drop
 replace hS:=(hS.pull 2).drop
 replace hS:=(hS.pull 2).drop
 replace hS:=(hS.pull 2).drop
 replace hS:=(hS.pull 2).drop
 replace hS:=hS.pull 1
 cases h176
 exact⟨_,rfl,rfl,fin hS (.inr rfl) hres (v:= .agg #[.slice none ([]:List (Int×List UInt8×(List (Int×Int×Int)))).length 0,.slice none ([]:List Int).length 0,.int .i64 x5.1,.int .i64 y183.2.2.2]) rfl ⟨_,_,_,_,_,_,((FLe.trans hF7 (FLe.trans hF155 hF181))),rfl,rfl,Own.nil,Own.nil⟩⟩
 refine WW.condF hS rfl hc189 (WW.skip ?_)
 obtain⟨z190,hz190,h176⟩:=bind_some h176
 refine WW.seqJ (fun s=> ∃(a191:Option Addr) (z192:Nat) (B194:Seg),Stt EV s [(1,.pointer (some ⟨i1,0,none⟩)),(2,.pointer (some ⟨i2,0,none⟩)),(3,.pointer (some ⟨i3,0,none⟩)),(4,.pointer (some ⟨i4,0,none⟩)),(5,.int .i64 x5.1),(6,aa (gt pC x5.1)),(7,.int .i64 x153.1),(8,.int .i64 x153.2.1),(9,.pointer (some ⟨i119,0,none⟩)),(10,vB (gt (gt pC x5.1) x153.1))] [[(i188,.row [.int .i64 y183.1,aa y183.2.1,.slice a185 y183.2.2.1.length z186] 61 0 true)],[(i119,.row [.int .i64 y117.1,.bool y117.2.1,.bool y117.2.2.1,vB y117.2.2.2] 141 0 true)],B19,B194,[(i4,.row [.int .i64 0,aa x153.2.2.1,.slice a156 x153.2.2.2.1.length z157,vB x153.2.2.2.2.1,.int .i64 x153.2.2.2.2.2.1,.bool false] 138 0 true)],[(i3,.row [.slice a191 z190.length z192,.slice a16 x5.2.2.2.2.2.2.2.length z17,.int .i64 0,.int .i64 0] 55 0 true)],[(i2,.row [.slice none 0 0,.slice none 0 0,.int .i64 0,.int .i64 0] 55 0 true)],[(i1,.row [aa pA,.bool pB,.slice (some ⟨i60,of61,none⟩) pC.length zH] 38 0 true)]] F180 L F nx0∧Own bs F180 a191 z192 z190 B194) ?_ ?_
 refine WW.seq (WW.region ?_)
 refine sg0 hS 2 [0] [139] [aa y183.2.1] [i188] (by kernel_rfl) fun s hS=>(am hS (wn rfl) rfl rfl rfl (v:= .bool (!decide (y183.2.1= []))) (lT (hS.lk rfl) (hS.lk rfl)) fun s hS=>?_)
 refine KW.nil (bc hz190 (fun hc195 hz190=>?_) fun hc195 hz190=>?_)
 refine WW.condK hS rfl hc195 (WW.region ?_)
 refine sg0 hS 3 [5,0] [142,143] [.slice a160 x153.2.2.2.2.2.2.length z161,.agg #[.int .i64 y183.1,aa y183.2.1,.slice a185 y183.2.2.1.length z186]] [i3,i188] (by kernel_rfl) fun s hS=>(bf hS (wn rfl) rfl rfl rfl (v:=fun i=> .slice (some ⟨i,0,none⟩) 1 3) (b:= .row [.int .i64 y183.1,aa y183.2.1,.slice a185 y183.2.2.1.length z186] 61 3 true) (be tu40 kp ed rfl [(0,.agg #[.int .i64 y183.1,aa y183.2.1,.slice a185 y183.2.2.1.length z186])] (ar hS rfl) rfl) fun s i196 hS=>?_)
 have hC197:au bs F180 ([(y183.1,y183.2.1,y183.2.2.1)]:List (Int×List UInt8×(List (Int×Int×Int)))) [.int .i64 y183.1,aa y183.2.1,.slice a185 y183.2.2.1.length z186]:=⟨[.int .i64 y183.1,aa y183.2.1,.slice a185 y183.2.2.1.length z186],[],rfl,⟨_,_,rfl,h187⟩,rfl⟩
 obtain⟨hk201,hz190⟩:=ac hz190
 replace hS:=hS.pull 4
 replace hS:=hS.pull 1
 refine eb hS (wn rfl) (dd:=bs) (lst:=x153.2.2.2.2.2.2) (m:=([(y183.1,y183.2.1,y183.2.2.1)]:List (Int×List UInt8×(List (Int×Int×Int))))) rfl rfl iO rfl rfl (h162.mono hF181) (Nat.succ_pos _) hC197 hk201 fun s i198 cs199 hC200 hS=>(sg hS 2 [5] [] [] [i3] [[(i198,.row cs199 61 3 true)],[(i188,.row [.int .i64 y183.1,aa y183.2.1,.slice a185 y183.2.2.1.length z186] 61 0 true)],[(i119,.row [.int .i64 y117.1,.bool y117.2.1,.bool y117.2.2.1,vB y117.2.2.2] 141 0 true)],B19,[(i4,.row [.int .i64 0,aa x153.2.2.1,.slice a156 x153.2.2.2.1.length z157,vB x153.2.2.2.2.1,.int .i64 x153.2.2.2.2.2.1,.bool false] 138 0 true)],[(i3,.row [.slice (some ⟨i198,0,none⟩) (x153.2.2.2.2.2.2++([(y183.1,y183.2.1,y183.2.2.1)]:List (Int×List UInt8×(List (Int×Int×Int))))).length 3,.slice a16 x5.2.2.2.2.2.2.2.length z17,.int .i64 0,.int .i64 0] 55 0 true)],[(i2,.row [.slice none 0 0,.slice none 0 0,.int .i64 0,.int .i64 0] 55 0 true)],[(i1,.row [aa pA,.bool pB,.slice (some ⟨i60,of61,none⟩) pC.length zH] 38 0 true)]] (by kernel_rfl) fun s hS=>?_)
 refine KW.nil ?_
 replace hS:=hS.pull 7
 replace hS:=hS.pull 7
 replace hS:=hS.pull 7
 replace hS:=hS.pull 7
 replace hS:=hS.pull 4
 replace hS:=hS.pull 7
 replace hS:=hS.pull 7
 replace hS:=hS.pull 7
 obtain rfl:=Option.some.inj hz190
 exact⟨_,_,_,(hS.subR rfl),(Own.blk0 hC200)⟩
 refine WW.condF hS rfl hc195 (WW.skip ?_)
 obtain rfl:=Option.some.inj hz190
 exact⟨_,_,_,(hS.subR rfl),(h162.mono hF181)⟩
 rintro s ⟨a191,z192,B194,hS,h193⟩
 refine WW.seq (WW.region ?_)
 refine am hS (wn rfl) rfl rfl rfl (v:= .agg #[.int .i64 0,aa ([]),.slice none 0 0,vB 0,.int .i64 0,.bool false]) (bp lY r5 [] (ar hS rfl) (cs:=[.int .i64 0,aa ([]),.slice none 0 0,vB 0,.int .i64 0,.bool false]) rfl) fun s hS=>(sg hS 1 [4] [] [] [i4] [[(i188,.row [.int .i64 y183.1,aa y183.2.1,.slice a185 y183.2.2.1.length z186] 61 0 true)],[(i119,.row [.int .i64 y117.1,.bool y117.2.1,.bool y117.2.2.1,vB y117.2.2.2] 141 0 true)],B19,B194,[(i4,.row [.int .i64 0,aa ([]),.slice none 0 0,vB 0,.int .i64 0,.bool false] 138 0 true)],[(i3,.row [.slice a191 z190.length z192,.slice a16 x5.2.2.2.2.2.2.2.length z17,.int .i64 0,.int .i64 0] 55 0 true)],[(i2,.row [.slice none 0 0,.slice none 0 0,.int .i64 0,.int .i64 0] 55 0 true)],[(i1,.row [aa pA,.bool pB,.slice (some ⟨i60,of61,none⟩) pC.length zH] 38 0 true)]] (by kernel_rfl) fun s hS=>?_)
 refine KW.nil (WW.seq ?_)
 refine WW.region (sg0 hS 3 [] [7] [.int .i64 (w64 (x153.1+1))] [] (by kernel_rfl) fun s hS=>?_)
 refine KW.nil (WW.exit ?_)
 refine af (ah ?_)
 replace hS:=hS.gap0
 replace hS:=(hS.pull 1).drop
 replace hS:=hS.pull 7
 replace hS:=hS.pull 7
 replace hS:=hS.pull 7
 replace hS:=hS.pull 7
 replace hS:=hS.pull 4
 replace hS:=hS.pull 7
 replace hS:=hS.pull 7
 replace hS:=hS.pull 7
 obtain rfl:=Option.some.inj h176
 exact⟨_,rfl,_,_,_,_,_,_,_,(hS.subR rfl),Own.nil,h193,(FLe.trans hF155 hF181)⟩
 refine WW.condF hS rfl hc179 (WW.skip ?_)
 obtain⟨z202,hz202,h176⟩:=bind_some h176
 refine WW.seqJ (fun s=>Stt EV s [(1,.pointer (some ⟨i1,0,none⟩)),(2,.pointer (some ⟨i2,0,none⟩)),(3,.pointer (some ⟨i3,0,none⟩)),(4,.pointer (some ⟨i4,0,none⟩)),(5,.int .i64 x5.1),(6,aa (gt pC x5.1)),(7,.int .i64 x153.1),(8,.int .i64 z202),(9,.pointer (some ⟨i119,0,none⟩)),(10,vB (gt (gt pC x5.1) x153.1))] [[(i119,.row [.int .i64 y117.1,.bool y117.2.1,.bool y117.2.2.1,vB y117.2.2.2] 141 0 true)],B19,B163,B159,[(i4,.row [.int .i64 0,aa x153.2.2.1,.slice a156 x153.2.2.2.1.length z157,vB x153.2.2.2.2.1,.int .i64 x153.2.2.2.2.2.1,.bool false] 138 0 true)],[(i3,.row [.slice a160 x153.2.2.2.2.2.2.length z161,.slice a16 x5.2.2.2.2.2.2.2.length z17,.int .i64 0,.int .i64 0] 55 0 true)],[(i2,.row [.slice none 0 0,.slice none 0 0,.int .i64 0,.int .i64 0] 55 0 true)],[(i1,.row [aa pA,.bool pB,.slice (some ⟨i60,of61,none⟩) pC.length zH] 38 0 true)]] F154 L F nx0) ?_ ?_
 refine WW.seq (WW.region ?_)
 refine sg0 hS 3 [] [152] [.bool (((gt (gt pC x5.1) x153.1).toNat:Int) != ((32:UInt8).toNat:Int))] [] (by kernel_rfl) fun s hS=>?_
 obtain⟨z203,hz203,hz202⟩:=bind_some hz202
 refine aH 5 (fun s=>Stt EV s [(157,.bool z203),(1,.pointer (some ⟨i1,0,none⟩)),(2,.pointer (some ⟨i2,0,none⟩)),(3,.pointer (some ⟨i3,0,none⟩)),(4,.pointer (some ⟨i4,0,none⟩)),(5,.int .i64 x5.1),(6,aa (gt pC x5.1)),(7,.int .i64 x153.1),(8,.int .i64 x153.2.1),(9,.pointer (some ⟨i119,0,none⟩)),(10,vB (gt (gt pC x5.1) x153.1))] [[(i119,.row [.int .i64 y117.1,.bool y117.2.1,.bool y117.2.2.1,vB y117.2.2.2] 141 0 true)],B19,B163,B159,[(i4,.row [.int .i64 0,aa x153.2.2.1,.slice a156 x153.2.2.2.1.length z157,vB x153.2.2.2.2.1,.int .i64 x153.2.2.2.2.2.1,.bool false] 138 0 true)],[(i3,.row [.slice a160 x153.2.2.2.2.2.2.length z161,.slice a16 x5.2.2.2.2.2.2.2.length z17,.int .i64 0,.int .i64 0] 55 0 true)],[(i2,.row [.slice none 0 0,.slice none 0 0,.int .i64 0,.int .i64 0] 55 0 true)],[(i1,.row [aa pA,.bool pB,.slice (some ⟨i60,of61,none⟩) pC.length zH] 38 0 true)]] F154 L F nx0) ?_ fun s hS=>?_
 refine bc hz203 (fun hc204 hz203=>?_) fun hc204 hz203=>?_
 replace hS:=hS.kb 152 hc204 rfl
 refine sg0 hS 3 [4] [155] [aa x153.2.2.1] [i4] (by kernel_rfl) fun s hS=>?_
 obtain⟨y205,hy205,hz203⟩:=bind_some hz203
 refine bE hS (wt hS rfl rfl rfl rfl) (vs:=[aa x153.2.2.1]) (ws:=[aa x153.2.2.1]) rfl rfl rfl rfl rfl 0 rfl (g_k.ok hy205) fun s v S' F' hp206 hF hS=>?_
 obtain⟨rfl,rfl,rfl⟩:=hp206
 refine sg0 hS 1 [] [157] [.bool y205] [] (by kernel_rfl) fun s hS=>(KW.nil ?_)
 obtain rfl:=Option.some.inj hz203
 exact hS.subR rfl
 replace hS:=hS.kb 152 hc204 rfl
 refine sg0 hS 5 [] [157] [.bool false] [] (by kernel_rfl) fun s hS=>(KW.nil ?_)
 obtain rfl:=Option.some.inj hz203
 exact hS.subR rfl
 refine KW.nil (bc hz202 (fun hc207 hz202=>?_) fun hc207 hz202=>?_)
 refine WW.condK hS rfl hc207 (WW.region ?_)
 refine sg0 hS 1 [] [8] [.int .i64 1] [] (by kernel_rfl) fun s hS=>(KW.nil ?_)
 obtain rfl:=Option.some.inj hz202
 exact(hS.subR rfl)
 refine WW.condF hS rfl hc207 (WW.skip ?_)
 obtain rfl:=Option.some.inj hz202
 exact(hS.subR rfl)
 rintro s hS
 obtain⟨z208,hz208,h176⟩:=bind_some h176
 refine WW.seqJ (fun s=>Stt EV s [(1,.pointer (some ⟨i1,0,none⟩)),(2,.pointer (some ⟨i2,0,none⟩)),(3,.pointer (some ⟨i3,0,none⟩)),(4,.pointer (some ⟨i4,0,none⟩)),(5,.int .i64 x5.1),(6,aa (gt pC x5.1)),(7,.int .i64 x153.1),(8,.int .i64 z202),(9,.pointer (some ⟨i119,0,none⟩))] [[(i119,.row [.int .i64 y117.1,.bool y117.2.1,.bool y117.2.2.1,vB y117.2.2.2] 141 0 true)],B19,B163,B159,[(i4,.row [.int .i64 0,aa x153.2.2.1,.slice a156 x153.2.2.2.1.length z157,vB z208,.int .i64 x153.2.2.2.2.2.1,.bool false] 138 0 true)],[(i3,.row [.slice a160 x153.2.2.2.2.2.2.length z161,.slice a16 x5.2.2.2.2.2.2.2.length z17,.int .i64 0,.int .i64 0] 55 0 true)],[(i2,.row [.slice none 0 0,.slice none 0 0,.int .i64 0,.int .i64 0] 55 0 true)],[(i1,.row [aa pA,.bool pB,.slice (some ⟨i60,of61,none⟩) pC.length zH] 38 0 true)]] F154 L F nx0) ?_ ?_
 refine WW.seq (WW.region ?_)
 refine sg0 hS 4 [4] [161] [.bool ((x153.2.2.2.2.1.toNat:Int)==((0:UInt8).toNat:Int))] [i4] (by kernel_rfl) fun s hS=>(aH 7 (fun s=>Stt EV s [(168,.bool (((x153.2.2.2.2.1.toNat:Int)==((0:UInt8).toNat:Int))&&((((gt (gt pC x5.1) x153.1).toNat:Int)==((39:UInt8).toNat:Int))||(((gt (gt pC x5.1) x153.1).toNat:Int)==((34:UInt8).toNat:Int))))),(1,.pointer (some ⟨i1,0,none⟩)),(2,.pointer (some ⟨i2,0,none⟩)),(3,.pointer (some ⟨i3,0,none⟩)),(4,.pointer (some ⟨i4,0,none⟩)),(5,.int .i64 x5.1),(6,aa (gt pC x5.1)),(7,.int .i64 x153.1),(8,.int .i64 z202),(9,.pointer (some ⟨i119,0,none⟩)),(10,vB (gt (gt pC x5.1) x153.1))] [[(i119,.row [.int .i64 y117.1,.bool y117.2.1,.bool y117.2.2.1,vB y117.2.2.2] 141 0 true)],B19,B163,B159,[(i4,.row [.int .i64 0,aa x153.2.2.1,.slice a156 x153.2.2.2.1.length z157,vB x153.2.2.2.2.1,.int .i64 x153.2.2.2.2.2.1,.bool false] 138 0 true)],[(i3,.row [.slice a160 x153.2.2.2.2.2.2.length z161,.slice a16 x5.2.2.2.2.2.2.2.length z17,.int .i64 0,.int .i64 0] 55 0 true)],[(i2,.row [.slice none 0 0,.slice none 0 0,.int .i64 0,.int .i64 0] 55 0 true)],[(i1,.row [aa pA,.bool pB,.slice (some ⟨i60,of61,none⟩) pC.length zH] 38 0 true)]] F154 L F nx0) ?_ fun s hS=>?_)
 rcases ax (((x153.2.2.2.2.1.toNat:Int)==((0:UInt8).toNat:Int))) with hcj | hcj
 replace hS:=hS.know (t:=161) rfl (congrArg Value.bool hcj)
 refine sg0 hS 3 [] [164] [.bool (((gt (gt pC x5.1) x153.1).toNat:Int)==((39:UInt8).toNat:Int))] [] (by kernel_rfl) fun s hS=>(aH 3 (fun s=>Stt EV s [(167,.bool ((((gt (gt pC x5.1) x153.1).toNat:Int)==((39:UInt8).toNat:Int))||(((gt (gt pC x5.1) x153.1).toNat:Int)==((34:UInt8).toNat:Int)))),(1,.pointer (some ⟨i1,0,none⟩)),(2,.pointer (some ⟨i2,0,none⟩)),(3,.pointer (some ⟨i3,0,none⟩)),(4,.pointer (some ⟨i4,0,none⟩)),(5,.int .i64 x5.1),(6,aa (gt pC x5.1)),(7,.int .i64 x153.1),(8,.int .i64 z202),(9,.pointer (some ⟨i119,0,none⟩)),(10,vB (gt (gt pC x5.1) x153.1)),(161,.bool true)] [[(i119,.row [.int .i64 y117.1,.bool y117.2.1,.bool y117.2.2.1,vB y117.2.2.2] 141 0 true)],B19,B163,B159,[(i4,.row [.int .i64 0,aa x153.2.2.1,.slice a156 x153.2.2.2.1.length z157,vB x153.2.2.2.2.1,.int .i64 x153.2.2.2.2.2.1,.bool false] 138 0 true)],[(i3,.row [.slice a160 x153.2.2.2.2.2.2.length z161,.slice a16 x5.2.2.2.2.2.2.2.length z17,.int .i64 0,.int .i64 0] 55 0 true)],[(i2,.row [.slice none 0 0,.slice none 0 0,.int .i64 0,.int .i64 0] 55 0 true)],[(i1,.row [aa pA,.bool pB,.slice (some ⟨i60,of61,none⟩) pC.length zH] 38 0 true)]] F154 L F nx0) ?_ fun s hS=>?_)
 rcases ax ((((gt (gt pC x5.1) x153.1).toNat:Int)==((39:UInt8).toNat:Int))) with hcj | hcj
 replace hS:=hS.know (t:=164) rfl (congrArg Value.bool hcj)
 refine sg0 hS 3 [] [167] [.bool true] [] (by kernel_rfl) fun s hS=>(KW.nil ?_)
 exact(hS.know (t:=167) (u':= .bool ((((gt (gt pC x5.1) x153.1).toNat:Int)==((39:UInt8).toNat:Int))||(((gt (gt pC x5.1) x153.1).toNat:Int)==((34:UInt8).toNat:Int)))) rfl (cB hcj)).subR rfl
 replace hS:=hS.know (t:=164) rfl (congrArg Value.bool hcj)
 refine sg0 hS 3 [] [167] [.bool (((gt (gt pC x5.1) x153.1).toNat:Int)==((34:UInt8).toNat:Int))] [] (by kernel_rfl) fun s hS=>(KW.nil ?_)
 exact(hS.know (t:=167) (u':= .bool ((((gt (gt pC x5.1) x153.1).toNat:Int)==((39:UInt8).toNat:Int))||(((gt (gt pC x5.1) x153.1).toNat:Int)==((34:UInt8).toNat:Int)))) rfl (cC hcj)).subR rfl
 refine sg0 hS 1 [] [168] [.bool ((((gt (gt pC x5.1) x153.1).toNat:Int)==((39:UInt8).toNat:Int))||(((gt (gt pC x5.1) x153.1).toNat:Int)==((34:UInt8).toNat:Int)))] [] (by kernel_rfl) fun s hS=>(KW.nil ?_)
 exact(hS.know (t:=168) (u':= .bool (((x153.2.2.2.2.1.toNat:Int)==((0:UInt8).toNat:Int))&&((((gt (gt pC x5.1) x153.1).toNat:Int)==((39:UInt8).toNat:Int))||(((gt (gt pC x5.1) x153.1).toNat:Int)==((34:UInt8).toNat:Int))))) rfl (bw hcj)).subR rfl
 replace hS:=hS.know (t:=161) rfl (congrArg Value.bool hcj)
 refine sg0 hS 3 [] [164] [undef] [] (by kernel_rfl) fun s hS=>(dx hS (wu hS rfl rfl rfl) rfl fun s hS=>?_)
 refine dx hS (wu hS rfl rfl rfl) rfl fun s hS=>(sg0 hS 2 [] [168] [.bool false] [] (by kernel_rfl) fun s hS=>?_)
 refine KW.nil ?_
 exact(hS.know (t:=168) (u':= .bool (((x153.2.2.2.2.1.toNat:Int)==((0:UInt8).toNat:Int))&&((((gt (gt pC x5.1) x153.1).toNat:Int)==((39:UInt8).toNat:Int))||(((gt (gt pC x5.1) x153.1).toNat:Int)==((34:UInt8).toNat:Int))))) rfl (bx hcj)).subR rfl
 refine KW.nil (bc hz208 (fun hc209 hz208=>?_) fun hc209 hz208=>?_)
 refine WW.condK hS rfl hc209 (WW.region ?_)
 refine sg hS 3 [4] [] [] [i4] [[(i119,.row [.int .i64 y117.1,.bool y117.2.1,.bool y117.2.2.1,vB y117.2.2.2] 141 0 true)],B19,B163,B159,[(i4,.row [.int .i64 0,aa x153.2.2.1,.slice a156 x153.2.2.2.1.length z157,vB (gt (gt pC x5.1) x153.1),.int .i64 x153.2.2.2.2.2.1,.bool false] 138 0 true)],[(i3,.row [.slice a160 x153.2.2.2.2.2.2.length z161,.slice a16 x5.2.2.2.2.2.2.2.length z17,.int .i64 0,.int .i64 0] 55 0 true)],[(i2,.row [.slice none 0 0,.slice none 0 0,.int .i64 0,.int .i64 0] 55 0 true)],[(i1,.row [aa pA,.bool pB,.slice (some ⟨i60,of61,none⟩) pC.length zH] 38 0 true)]] (by kernel_rfl) fun s hS=>(KW.nil ?_)
 obtain rfl:=Option.some.inj hz208
 exact(hS.subR rfl)
 refine WW.condF hS rfl hc209 (WW.seq ?_)
 refine WW.region (sg0 hS 4 [4] [174] [.bool (((gt (gt pC x5.1) x153.1).toNat:Int)==(x153.2.2.2.2.1.toNat:Int))] [i4] (by kernel_rfl) fun s hS=>?_)
 refine KW.nil (bc hz208 (fun hc210 hz208=>?_) fun hc210 hz208=>?_)
 refine WW.condK hS rfl hc210 (WW.region ?_)
 refine sg hS 2 [4] [] [] [i4] [[(i119,.row [.int .i64 y117.1,.bool y117.2.1,.bool y117.2.2.1,vB y117.2.2.2] 141 0 true)],B19,B163,B159,[(i4,.row [.int .i64 0,aa x153.2.2.1,.slice a156 x153.2.2.2.1.length z157,vB 0,.int .i64 x153.2.2.2.2.2.1,.bool false] 138 0 true)],[(i3,.row [.slice a160 x153.2.2.2.2.2.2.length z161,.slice a16 x5.2.2.2.2.2.2.2.length z17,.int .i64 0,.int .i64 0] 55 0 true)],[(i2,.row [.slice none 0 0,.slice none 0 0,.int .i64 0,.int .i64 0] 55 0 true)],[(i1,.row [aa pA,.bool pB,.slice (some ⟨i60,of61,none⟩) pC.length zH] 38 0 true)]] (by kernel_rfl) fun s hS=>(KW.nil ?_)
 obtain rfl:=Option.some.inj hz208
 exact(hS.subR rfl)
 refine WW.condF hS rfl hc210 (WW.skip ?_)
 obtain rfl:=Option.some.inj hz208
 exact(hS.subR rfl)
 rintro s hS
 refine WW.seq (WW.regionD (i:=[[],[],[],[2,1,0],[3,2,1,0],[4,3,2,1,0],[4,3,2,1,0],[2,1,0],[],[],[],[]]) (by kernel_rfl) ?_)
 have hq:=RS.start [i119,i4,i3,i2,i1]
 refine kg hS hq 2 [177] [.pointer (some ⟨i4,1,none⟩)] (by kernel_rfl) fun s rs hS hq=>(K.ld hS hq rfl (wn rfl) rfl rfl rfl (hS.at (k:=4) rfl) tg9 (v:=aa x153.2.2.1) rfl 1 rfl rfl fun s rs hS hq=>?_)
 refine kg hS hq 4 [179,180,182] [aa (gt pC x5.1),.int .i64 x153.1,.int .i64 (w64 (x153.1+1))] (by kernel_rfl) fun s rs hS hq=>?_
 obtain⟨hk211,h176⟩:=ac h176
 refine K.pu hS hq rfl (wn rfl) rfl rfl rfl (v:=aa (mid (gt pC x5.1) x153.1 (w64 (x153.1+1)))) (cu tu9 (hS.lk rfl) (i:=x153.1) (j:=(w64 (x153.1+1))) (bu hS rfl) (bu hS rfl) hk211) fun s rs hS hq=>?_
 obtain⟨hk212,h176⟩:=ac h176
 refine K.pu hS hq rfl (wn rfl) rfl rfl rfl (v:=aa (x153.2.2.1++(mid (gt pC x5.1) x153.1 (w64 (x153.1+1))))) (gF (hS.lk rfl) (hS.lk rfl) hk212) fun s rs hS hq=>(kg hS hq 2 [186] [.pointer (some ⟨i4,1,none⟩)] (by kernel_rfl) fun s rs hS hq=>?_)
 refine K.sto hS hq rfl (wn rfl) rfl rfl rfl rfl (p:=4) rfl tz9 rfl [.int .i64 0,aa (x153.2.2.1++(mid (gt pC x5.1) x153.1 (w64 (x153.1+1)))),.slice a156 x153.2.2.2.1.length z157,vB z208,.int .i64 x153.2.2.2.2.2.1,.bool false] rfl [0,2,3,4] rfl (aZ rfl mm0 (aZ rfl (mm1 (mm1 (mm1 (mm1 mm0)))) (aZ rfl (mm1 (mm1 (mm1 (mm1 (mm1 mm0))))) (aZ rfl (mm1 (mm1 (mm1 (mm1 (mm1 (mm1 mm0)))))) bv)))) fun s rs hS hq=>(KW.nil ?_)
 refine WW.seq (WW.region ?_)
 refine sg0 hS 6 [4] [189,190,192] [.slice a156 x153.2.2.2.1.length z157,.int .i64 x5.1,.int .i64 (w64 (x153.1+1))] [i4] (by kernel_rfl) fun s hS=>(am hS (wn rfl) rfl rfl rfl (v:= .agg #[.int .i64 0,.int .i64 x5.1,.int .i64 (w64 (x153.1+1))]) (bp jR tp58 [(1,.int .i64 x5.1),(2,.int .i64 (w64 (x153.1+1)))] (ar hS rfl) (cs:=[.int .i64 0,.int .i64 x5.1,.int .i64 (w64 (x153.1+1))]) rfl) fun s hS=>?_)
 refine bf hS (wn rfl) rfl rfl rfl (v:=fun i=> .slice (some ⟨i,0,none⟩) 1 3) (b:= .row [.int .i64 0,.int .i64 x5.1,.int .i64 (w64 (x153.1+1))] 58 3 true) (be tu59 sb jR rfl [(0,.agg #[.int .i64 0,.int .i64 x5.1,.int .i64 (w64 (x153.1+1))])] (ar hS rfl) rfl) fun s i213 hS=>?_
 have hC214:au dj F154 ([(0,x5.1,(w64 (x153.1+1)))]:List (Int×Int×Int)) [.int .i64 0,.int .i64 x5.1,.int .i64 (w64 (x153.1+1))]:=⟨[.int .i64 0,.int .i64 x5.1,.int .i64 (w64 (x153.1+1))],[],rfl,rfl,rfl⟩
 obtain⟨hk218,h176⟩:=ac h176
 replace hS:=hS.pull 4
 replace hS:=hS.pull 1
 refine eb hS (wn rfl) (dd:=dj) (lst:=x153.2.2.2.1) (m:=([(0,x5.1,(w64 (x153.1+1)))]:List (Int×Int×Int))) rfl rfl lZ rfl rfl h158 (Nat.succ_pos _) hC214 hk218 fun s i215 cs216 hC217 hS=>(sg hS 3 [4] [] [] [i4] [[(i215,.row cs216 58 3 true)],[(i119,.row [.int .i64 y117.1,.bool y117.2.1,.bool y117.2.2.1,vB y117.2.2.2] 141 0 true)],B19,B163,[(i4,.row [.int .i64 0,aa (x153.2.2.1++(mid (gt pC x5.1) x153.1 (w64 (x153.1+1)))),.slice (some ⟨i215,0,none⟩) (x153.2.2.2.1++([(0,x5.1,(w64 (x153.1+1)))]:List (Int×Int×Int))).length 3,vB z208,.int .i64 x153.2.2.2.2.2.1,.bool false] 138 0 true)],[(i3,.row [.slice a160 x153.2.2.2.2.2.2.length z161,.slice a16 x5.2.2.2.2.2.2.2.length z17,.int .i64 0,.int .i64 0] 55 0 true)],[(i2,.row [.slice none 0 0,.slice none 0 0,.int .i64 0,.int .i64 0] 55 0 true)],[(i1,.row [aa pA,.bool pB,.slice (some ⟨i60,of61,none⟩) pC.length zH] 38 0 true)]] (by kernel_rfl) fun s hS=>?_)
 refine KW.nil (WW.region ?_)
 refine sg0 hS 3 [] [7] [.int .i64 (w64 (x153.1+1))] [] (by kernel_rfl) fun s hS=>(KW.nil ?_)
 replace hS:=hS.pull 7
 replace hS:=hS.pull 7
 replace hS:=hS.pull 7
 replace hS:=hS.pull 7
 replace hS:=hS.pull 4
 replace hS:=hS.pull 7
 replace hS:=hS.pull 7
 replace hS:=hS.pull 7
 obtain rfl:=Option.some.inj h176
 exact⟨_,rfl,_,_,_,_,_,_,_,(hS.subR rfl),(Own.blk0 hC217),h162,hF155⟩
 refine WW.condF hS rfl hc177 (WW.exit ?_)
 refine af ?_
 obtain rfl:=Option.some.inj h176
 exact⟨_,rfl,rfl,_,_,_,_,_,_,_,(hS.subR rfl),h158,h162,hF155⟩
 clear hS
 rcases o164 with y219 | y219
 rintro e s ⟨rfl,a222,z223,B225,a226,z227,B229,F220,hS,h224,h228,hF221⟩
 replace hz38:=f5 hz38
 refine ah (WW.seq ?_)
 refine WW.region (sg0 hS 3 [5] [201,202] [.slice a16 x5.2.2.2.2.2.2.2.length z17,.int .i64 y219.2.1] [i3] (by kernel_rfl) fun s hS=>?_)
 refine bf hS (wn rfl) rfl rfl rfl (v:=fun i=> .slice (some ⟨i,0,none⟩) 1 1) (b:= .row [.int .i64 y219.2.1] 3 1 true) (be ko tz3 km rfl [(0,.int .i64 y219.2.1)] (ar hS rfl) rfl) fun s i230 hS=>?_
 have hC231:au (elI .i64 3) F220 ([y219.2.1]:List Int) [.int .i64 y219.2.1]:=⟨[.int .i64 y219.2.1],[],rfl,rfl,rfl⟩
 obtain⟨hk235,hz38⟩:=ac hz38
 replace hS:=hS.pull 2
 replace hS:=hS.pull 1
 refine eb hS (wn rfl) (dd:=(elI .i64 3)) (lst:=x5.2.2.2.2.2.2.2) (m:=([y219.2.1]:List Int)) rfl rfl cZ rfl rfl (h18.mono hF221) (Nat.succ_pos _) hC231 hk235 fun s i232 cs233 hC234 hS=>(sg hS 2 [5] [] [] [i3] [[(i232,.row cs233 3 1 true)],[(i119,.row [.int .i64 y117.1,.bool y117.2.1,.bool y117.2.2.1,vB y117.2.2.2] 141 0 true)],B229,B225,[(i4,.row [.int .i64 0,aa y219.2.2.1,.slice a222 y219.2.2.2.1.length z223,vB y219.2.2.2.2.1,.int .i64 y219.2.2.2.2.2.1,.bool false] 138 0 true)],[(i3,.row [.slice a226 y219.2.2.2.2.2.2.length z227,.slice (some ⟨i232,0,none⟩) (x5.2.2.2.2.2.2.2++([y219.2.1]:List Int)).length 1,.int .i64 0,.int .i64 0] 55 0 true)],[(i2,.row [.slice none 0 0,.slice none 0 0,.int .i64 0,.int .i64 0] 55 0 true)],[(i1,.row [aa pA,.bool pB,.slice (some ⟨i60,of61,none⟩) pC.length zH] 38 0 true)]] (by kernel_rfl) fun s hS=>?_)
 refine KW.nil (WW.seq ?_)
 refine WW.region (sg hS 4 [1,4] [] [] [i119,i4] [[(i232,.row cs233 3 1 true)],[(i119,.row [.int .i64 y117.1,.bool y117.2.1,.bool y117.2.2.1,vB y117.2.2.2] 141 0 true)],B229,B225,[(i4,.row [.int .i64 0,aa y219.2.2.1,.slice a222 y219.2.2.2.1.length z223,vB y219.2.2.2.2.1,.int .i64 y219.2.2.2.2.2.1,.bool y117.2.2.1] 138 0 true)],[(i3,.row [.slice a226 y219.2.2.2.2.2.2.length z227,.slice (some ⟨i232,0,none⟩) (x5.2.2.2.2.2.2.2++([y219.2.1]:List Int)).length 1,.int .i64 0,.int .i64 0] 55 0 true)],[(i2,.row [.slice none 0 0,.slice none 0 0,.int .i64 0,.int .i64 0] 55 0 true)],[(i1,.row [aa pA,.bool pB,.slice (some ⟨i60,of61,none⟩) pC.length zH] 38 0 true)]] (by kernel_rfl) fun s hS=>?_)
 refine KW.nil (WW.seq ?_)
 refine WW.seq (WW.region ?_)
 refine sg0 hS 2 [4] [210] [.bool y117.2.2.1] [i4] (by kernel_rfl) fun s hS=>(KW.nil ?_)
 refine bc hz38 (fun hc236 hz38=>?_) fun hc236 hz38=>?_
 refine WW.condK hS rfl hc236 (WW.exit ?_)
 refine af (ah ?_)
 replace hS:=(hS.pull 1).drop
 obtain rfl:=Option.some.inj hz38
 exact⟨_,rfl,_,_,_,_,_,_,_,_,_,_,(hS.subR rfl),(Own.blk0 hC234),h224,h228,hF221⟩
 refine WW.condF hS rfl hc236 (WW.skip ?_)
 refine WW.seq (WW.region ?_)
 refine sg0 hS 2 [4] [213] [.agg #[.int .i64 0,aa y219.2.2.1,.slice a222 y219.2.2.2.1.length z223]] [i4] (by kernel_rfl) fun s hS=>?_
 replace hS:=hS.pull 3
 obtain⟨F237,hF238,hS,hz239⟩:=hS.frzO h224
 obtain⟨y240,hy240,hz38⟩:=bind_some hz38
 refine bE hS (wn rfl) (vs:=[.agg #[.int .i64 0,aa y219.2.2.1,.slice a222 y219.2.2.2.1.length z223]]) (ws:=[.agg #[.int .i64 0,aa y219.2.2.1,.slice a222 y219.2.2.2.1.length z223]]) rfl rfl rfl rfl rfl 0 rfl (g_h.ok hy240 hz239) fun s v S' F' hp241 hF hS=>?_
 obtain⟨a242,z243,rfl,rfl,rfl,h244⟩:=hp241
 refine sg0 hS 3 [] [215,216] [.agg #[.int .i64 y240.1,aa y240.2.1,.slice a242 y240.2.2.1.length z243],.int .i64 y240.2.2.2] [] (by kernel_rfl) fun s hS=>(bf hS (wn rfl) rfl rfl rfl (v:=fun i=> .pointer (some ⟨i,0,none⟩)) (b:= .row [.int .i64 0,aa ([]),.slice none 0 0] 61 0 true) (aU ed) fun s i245 hS=>?_)
 refine sg hS 2 [0] [14] [.int .i64 y240.2.2.2] [i245] [[(i245,.row [.int .i64 y240.1,aa y240.2.1,.slice a242 y240.2.2.1.length z243] 61 0 true)],[(i232,.row cs233 3 1 true)],[(i119,.row [.int .i64 y117.1,.bool y117.2.1,.bool y117.2.2.1,vB y117.2.2.2] 141 0 true)],B229,[(i4,.row [.int .i64 0,aa y219.2.2.1,.slice a222 y219.2.2.2.1.length z223,vB y219.2.2.2.2.1,.int .i64 y219.2.2.2.2.2.1,.bool y117.2.2.1] 138 0 true)],[(i3,.row [.slice a226 y219.2.2.2.2.2.2.length z227,.slice (some ⟨i232,0,none⟩) (x5.2.2.2.2.2.2.2++([y219.2.1]:List Int)).length 1,.int .i64 0,.int .i64 0] 55 0 true)],[(i2,.row [.slice none 0 0,.slice none 0 0,.int .i64 0,.int .i64 0] 55 0 true)],[(i1,.row [aa pA,.bool pB,.slice (some ⟨i60,of61,none⟩) pC.length zH] 38 0 true)]] (by kernel_rfl) fun s hS=>(KW.nil ?_)
 refine WW.seq (WW.seq ?_)
 refine WW.region (sg0 hS 2 [] [218] [.bool (y240.2.2.2 != 0)] [] (by kernel_rfl) fun s hS=>?_)
 refine KW.nil (bc hz38 (fun hc246 hz38=>?_) fun hc246 hz38=>?_)
 refine WW.condK hS rfl hc246 (WW.seq ?_)
 refine WW.region (sg0 hS 2 [] [219,220] [.int .i64 x5.1,.int .i64 y240.2.2.2] [] (by kernel_rfl) fun s hS=>?_)
 refine am hS (wn rfl) rfl rfl rfl (v:= .agg #[.slice none 0 0,.slice none 0 0,.int .i64 x5.1,.int .i64 y240.2.2.2]) (bp eU tp55 [(2,.int .i64 x5.1),(3,.int .i64 y240.2.2.2)] (ar hS rfl) (cs:=[.slice none 0 0,.slice none 0 0,.int .i64 x5.1,.int .i64 y240.2.2.2]) rfl) fun s hS=>(sg hS 1 [6] [] [] [i2] [[(i245,.row [.int .i64 y240.1,aa y240.2.1,.slice a242 y240.2.2.1.length z243] 61 0 true)],[(i232,.row cs233 3 1 true)],[(i119,.row [.int .i64 y117.1,.bool y117.2.1,.bool y117.2.2.1,vB y117.2.2.2] 141 0 true)],B229,[(i4,.row [.int .i64 0,aa y219.2.2.1,.slice a222 y219.2.2.2.1.length z223,vB y219.2.2.2.2.1,.int .i64 y219.2.2.2.2.2.1,.bool y117.2.2.1] 138 0 true)],[(i3,.row [.slice a226 y219.2.2.2.2.2.2.length z227,.slice (some ⟨i232,0,none⟩) (x5.2.2.2.2.2.2.2++([y219.2.1]:List Int)).length 1,.int .i64 0,.int .i64 0] 55 0 true)],[(i2,.row [.slice none 0 0,.slice none 0 0,.int .i64 x5.1,.int .i64 y240.2.2.2] 55 0 true)],[(i1,.row [aa pA,.bool pB,.slice (some ⟨i60,of61,none⟩) pC.length zH] 38 0 true)]] (by kernel_rfl) fun s hS=>?_)
 refine KW.nil (WW.ret ?_)
 obtain rfl:=Option.some.inj hz38
 replace h36:=aj h36
 replace hS:=hS.gap0
 replace hS:=hS.gap0
 have hres:=(aL hS (t:=2) (ty:=55) rfl (p:=8) rfl ee ef (ws:=[.slice none ([]:List (Int×List UInt8×(List (Int×Int×Int)))).length 0,.slice none ([]:List Int).length 0,.int .i64 x5.1,.int .i64 y240.2.2.2]) rfl (aw (E:=EV) (s:=s)))
 replace hS:=(hS.pull 2).drop
 replace hS:=(hS.pull 2).drop
 replace hS:=(hS.pull 2).drop
 replace hS:=(hS.pull 2).drop
 replace hS:=(hS.pull 2).drop
 replace hS:=(hS.pull 2).drop
 replace hS:=(hS.pull 2).drop
 replace hS:=(hS.pull 2).drop
 replace hS:=hS.pull 1
 cases h36
 exact⟨_,rfl,rfl,fin hS (.inr rfl) hres (v:= .agg #[.slice none ([]:List (Int×List UInt8×(List (Int×Int×Int)))).length 0,.slice none ([]:List Int).length 0,.int .i64 x5.1,.int .i64 y240.2.2.2]) rfl ⟨_,_,_,_,_,_,((FLe.trans hF7 (FLe.trans hF221 hF238))),rfl,rfl,Own.nil,Own.nil⟩⟩
 refine WW.condF hS rfl hc246 (WW.skip ?_)
 refine WW.seq (WW.seq ?_)
 refine WW.region (sg0 hS 2 [0] [223] [aa y240.2.1] [i245] (by kernel_rfl) fun s hS=>?_)
 refine am hS (wn rfl) rfl rfl rfl (v:= .bool (!decide (y240.2.1= []))) (lT (hS.lk rfl) (hS.lk rfl)) fun s hS=>(KW.nil ?_)
 refine bc hz38 (fun hc247 hz38=>?_) fun hc247 hz38=>?_
 refine WW.condK hS rfl hc247 (WW.region ?_)
 refine sg0 hS 3 [5,0] [226,227] [.slice a226 y219.2.2.2.2.2.2.length z227,.agg #[.int .i64 y240.1,aa y240.2.1,.slice a242 y240.2.2.1.length z243]] [i3,i245] (by kernel_rfl) fun s hS=>(bf hS (wn rfl) rfl rfl rfl (v:=fun i=> .slice (some ⟨i,0,none⟩) 1 3) (b:= .row [.int .i64 y240.1,aa y240.2.1,.slice a242 y240.2.2.1.length z243] 61 3 true) (be tu40 kp ed rfl [(0,.agg #[.int .i64 y240.1,aa y240.2.1,.slice a242 y240.2.2.1.length z243])] (ar hS rfl) rfl) fun s i248 hS=>?_)
 have hC249:au bs F237 ([(y240.1,y240.2.1,y240.2.2.1)]:List (Int×List UInt8×(List (Int×Int×Int)))) [.int .i64 y240.1,aa y240.2.1,.slice a242 y240.2.2.1.length z243]:=⟨[.int .i64 y240.1,aa y240.2.1,.slice a242 y240.2.2.1.length z243],[],rfl,⟨_,_,rfl,h244⟩,rfl⟩
 obtain⟨hk253,hz38⟩:=ac hz38
 replace hS:=hS.pull 4
 replace hS:=hS.pull 1
 refine eb hS (wn rfl) (dd:=bs) (lst:=y219.2.2.2.2.2.2) (m:=([(y240.1,y240.2.1,y240.2.2.1)]:List (Int×List UInt8×(List (Int×Int×Int))))) rfl rfl iO rfl rfl (h228.mono hF238) (Nat.succ_pos _) hC249 hk253 fun s i250 cs251 hC252 hS=>(sg hS 2 [5] [] [] [i3] [[(i250,.row cs251 61 3 true)],[(i245,.row [.int .i64 y240.1,aa y240.2.1,.slice a242 y240.2.2.1.length z243] 61 0 true)],[(i232,.row cs233 3 1 true)],[(i119,.row [.int .i64 y117.1,.bool y117.2.1,.bool y117.2.2.1,vB y117.2.2.2] 141 0 true)],[(i4,.row [.int .i64 0,aa y219.2.2.1,.slice a222 y219.2.2.2.1.length z223,vB y219.2.2.2.2.1,.int .i64 y219.2.2.2.2.2.1,.bool y117.2.2.1] 138 0 true)],[(i3,.row [.slice (some ⟨i250,0,none⟩) (y219.2.2.2.2.2.2++([(y240.1,y240.2.1,y240.2.2.1)]:List (Int×List UInt8×(List (Int×Int×Int))))).length 3,.slice (some ⟨i232,0,none⟩) (x5.2.2.2.2.2.2.2++([y219.2.1]:List Int)).length 1,.int .i64 0,.int .i64 0] 55 0 true)],[(i2,.row [.slice none 0 0,.slice none 0 0,.int .i64 0,.int .i64 0] 55 0 true)],[(i1,.row [aa pA,.bool pB,.slice (some ⟨i60,of61,none⟩) pC.length zH] 38 0 true)]] (by kernel_rfl) fun s hS=>?_)
 refine KW.nil (WW.region ?_)
 refine am hS (wn rfl) rfl rfl rfl (v:= .agg #[.int .i64 0,aa ([]),.slice none 0 0,vB 0,.int .i64 0,.bool false]) (bp lY r5 [] (ar hS rfl) (cs:=[.int .i64 0,aa ([]),.slice none 0 0,vB 0,.int .i64 0,.bool false]) rfl) fun s hS=>(sg hS 1 [4] [] [] [i4] [[(i250,.row cs251 61 3 true)],[(i245,.row [.int .i64 y240.1,aa y240.2.1,.slice a242 y240.2.2.1.length z243] 61 0 true)],[(i232,.row cs233 3 1 true)],[(i119,.row [.int .i64 y117.1,.bool y117.2.1,.bool y117.2.2.1,vB y117.2.2.2] 141 0 true)],[(i4,.row [.int .i64 0,aa ([]),.slice none 0 0,vB 0,.int .i64 0,.bool false] 138 0 true)],[(i3,.row [.slice (some ⟨i250,0,none⟩) (y219.2.2.2.2.2.2++([(y240.1,y240.2.1,y240.2.2.1)]:List (Int×List UInt8×(List (Int×Int×Int))))).length 3,.slice (some ⟨i232,0,none⟩) (x5.2.2.2.2.2.2.2++([y219.2.1]:List Int)).length 1,.int .i64 0,.int .i64 0] 55 0 true)],[(i2,.row [.slice none 0 0,.slice none 0 0,.int .i64 0,.int .i64 0] 55 0 true)],[(i1,.row [aa pA,.bool pB,.slice (some ⟨i60,of61,none⟩) pC.length zH] 38 0 true)]] (by kernel_rfl) fun s hS=>?_)
 refine KW.nil ?_
 replace hS:=hS.gap0
 replace hS:=(hS.pull 2).drop
 replace hS:=(hS.pull 3).drop
 replace hS:=hS.pull 6
 replace hS:=hS.pull 6
 replace hS:=hS.pull 6
 replace hS:=hS.pull 6
 replace hS:=hS.pull 4
 replace hS:=hS.pull 5
 replace hS:=hS.pull 6
 obtain rfl:=Option.some.inj hz38
 exact⟨_,rfl,_,_,_,_,_,_,_,_,_,_,(hS.subR rfl),(Own.blk0 (hC234.mono hF238)),Own.nil,(Own.blk0 hC252),(FLe.trans hF221 hF238)⟩
 refine WW.condF hS rfl hc247 (WW.skip ?_)
 refine WW.region (am hS (wn rfl) rfl rfl rfl (v:= .agg #[.int .i64 0,aa ([]),.slice none 0 0,vB 0,.int .i64 0,.bool false]) (bp lY r5 [] (ar hS rfl) (cs:=[.int .i64 0,aa ([]),.slice none 0 0,vB 0,.int .i64 0,.bool false]) rfl) fun s hS=>?_)
 refine sg hS 1 [4] [] [] [i4] [[(i245,.row [.int .i64 y240.1,aa y240.2.1,.slice a242 y240.2.2.1.length z243] 61 0 true)],[(i232,.row cs233 3 1 true)],[(i119,.row [.int .i64 y117.1,.bool y117.2.1,.bool y117.2.2.1,vB y117.2.2.2] 141 0 true)],B229,[(i4,.row [.int .i64 0,aa ([]),.slice none 0 0,vB 0,.int .i64 0,.bool false] 138 0 true)],[(i3,.row [.slice a226 y219.2.2.2.2.2.2.length z227,.slice (some ⟨i232,0,none⟩) (x5.2.2.2.2.2.2.2++([y219.2.1]:List Int)).length 1,.int .i64 0,.int .i64 0] 55 0 true)],[(i2,.row [.slice none 0 0,.slice none 0 0,.int .i64 0,.int .i64 0] 55 0 true)],[(i1,.row [aa pA,.bool pB,.slice (some ⟨i60,of61,none⟩) pC.length zH] 38 0 true)]] (by kernel_rfl) fun s hS=>(KW.nil ?_)
 replace hS:=hS.gap0
 replace hS:=(hS.pull 1).drop
 replace hS:=(hS.pull 2).drop
 replace hS:=hS.pull 6
 replace hS:=hS.pull 6
 replace hS:=hS.pull 6
 replace hS:=hS.pull 6
 replace hS:=hS.pull 4
 replace hS:=hS.pull 6
 replace hS:=hS.pull 6
 obtain rfl:=Option.some.inj hz38
 exact⟨_,rfl,_,_,_,_,_,_,_,_,_,_,(hS.subR rfl),(Own.blk0 (hC234.mono hF238)),Own.nil,(h228.mono hF238),(FLe.trans hF221 hF238)⟩
 rintro e s ⟨rfl,hfin⟩
 replace hz38:=f7 hz38
 obtain rfl:=Option.some.inj hz38
 replace h36:=aj h36
 obtain rfl:=Option.some.inj h36
 exact⟨_,rfl,rfl,hfin⟩
 rintro s ⟨z39,rfl,a42,z43,B45,a46,z47,B49,a50,z51,B53,F40,hS,h44,h48,h52,hF41⟩
 replace h36:=aB h36
 refine WW.region (sg0 hS 3 [] [5] [.int .i64 (w64 (x5.1+1))] [] (by kernel_rfl) fun s hS=>?_)
 refine KW.nil ?_
 obtain rfl:=Option.some.inj h36
 exact⟨_,rfl,_,_,_,_,_,_,_,_,_,_,(hS.subR rfl),h48,h52,h44,(FLe.trans hF7 hF41)⟩
 refine WW.condF hS rfl hc37 (WW.exit ?_)
 refine af ?_
 obtain rfl:=Option.some.inj h36
 exact⟨_,rfl,rfl,_,_,_,_,_,_,_,_,_,_,(hS.subR rfl),h10,h14,h18,hF7⟩
 clear hS
 rcases o20 with y254 | y254
 rintro e s ⟨rfl,a257,z258,B260,a261,z262,B264,a265,z266,B268,F255,hS,h259,h263,h267,hF256⟩
 replace h:=aB h
 refine ah (WW.seq ?_)
 refine WW.seq (WW.region ?_)
 refine sg0 hS 2 [3] [233] [.bool y254.2.2.2.2.2.1] [i4] (by kernel_rfl) fun s hS=>(KW.nil ?_)
 refine bc h (fun hc269 h=>?_) fun hc269 h=>?_
 refine WW.condK hS rfl hc269 (WW.seq ?_)
 refine WW.region (sg0 hS 4 [6] [237] [.int .i64 (w64 ((pC.length:Int)-1))] [i1] (by kernel_rfl) fun s hS=>?_)
 obtain⟨y270,hy270,h⟩:=bind_some h
 refine bE hS (wn rfl) (vs:=[.int .i64 (w64 ((pC.length:Int)-1)),.int .i64 39]) (ws:=[.int .i64 (w64 ((pC.length:Int)-1)),.int .i64 39]) rfl rfl rfl rfl rfl 0 rfl (g_o.ok hy270) fun s v S' F' hp271 hF hS=>?_
 obtain⟨a272,z273,B275,a276,z277,B279,rfl,rfl,rfl,h274,h278⟩:=hp271
 refine sg hS 1 [7] [] [] [i2] [B275,B279,B268,B264,B260,[(i4,.row [.int .i64 0,aa y254.2.1,.slice a257 y254.2.2.1.length z258,vB y254.2.2.2.1,.int .i64 y254.2.2.2.2.1,.bool y254.2.2.2.2.2.1] 138 0 true)],[(i3,.row [.slice a261 y254.2.2.2.2.2.2.1.length z262,.slice a265 y254.2.2.2.2.2.2.2.length z266,.int .i64 0,.int .i64 0] 55 0 true)],[(i2,.row [.slice a272 y270.1.length z273,.slice a276 y270.2.1.length z277,.int .i64 y270.2.2.1,.int .i64 y270.2.2.2] 55 0 true)],[(i1,.row [aa pA,.bool pB,.slice aE pC.length zH] 38 0 true)]] (by kernel_rfl) fun s hS=>(KW.nil ?_)
 refine WW.ret ?_
 have hres:=(aL hS (t:=2) (ty:=55) rfl (p:=7) rfl ee ef (ws:=[.slice a272 y270.1.length z273,.slice a276 y270.2.1.length z277,.int .i64 y270.2.2.1,.int .i64 y270.2.2.2]) rfl (aw (E:=EV) (s:=s)))
 replace hS:=(hS.pull 2).drop
 replace hS:=(hS.pull 2).drop
 replace hS:=(hS.pull 2).drop
 replace hS:=(hS.pull 2).drop
 replace hS:=(hS.pull 2).drop
 replace hS:=(hS.pull 2).drop
 replace hS:=(hS.pull 2).drop
 cases h
 exact fin hS (.inr rfl) hres (v:= .agg #[.slice a272 y270.1.length z273,.slice a276 y270.2.1.length z277,.int .i64 y270.2.2.1,.int .i64 y270.2.2.2]) rfl ⟨_,_,_,_,_,_,(hF256),rfl,rfl,h274,h278⟩
 refine WW.condF hS rfl hc269 (WW.skip ?_)
 refine WW.seq (WW.region ?_)
 refine sg hS 2 [4,5] [] [] [i3,i2] [B268,B264,B260,[(i4,.row [.int .i64 0,aa y254.2.1,.slice a257 y254.2.2.1.length z258,vB y254.2.2.2.1,.int .i64 y254.2.2.2.2.1,.bool y254.2.2.2.2.2.1] 138 0 true)],[(i3,.row [.slice a261 y254.2.2.2.2.2.2.1.length z262,.slice a265 y254.2.2.2.2.2.2.2.length z266,.int .i64 0,.int .i64 0] 55 0 true)],[(i2,.row [.slice a261 y254.2.2.2.2.2.2.1.length z262,.slice a265 y254.2.2.2.2.2.2.2.length z266,.int .i64 0,.int .i64 0] 55 0 true)],[(i1,.row [aa pA,.bool pB,.slice aE pC.length zH] 38 0 true)]] (by kernel_rfl) fun s hS=>(KW.nil ?_)
 refine WW.ret ?_
 have hres:=(aL hS (t:=2) (ty:=55) rfl (p:=5) rfl ee ef (ws:=[.slice a261 y254.2.2.2.2.2.2.1.length z262,.slice a265 y254.2.2.2.2.2.2.2.length z266,.int .i64 0,.int .i64 0]) rfl (aw (E:=EV) (s:=s)))
 replace hS:=(hS.pull 2).drop
 replace hS:=(hS.pull 2).drop
 replace hS:=(hS.pull 2).drop
 replace hS:=(hS.pull 2).drop
 replace hS:=(hS.pull 2).drop
 replace hS:=hS.pull 1
 cases h
 exact fin hS (.inr rfl) hres (v:= .agg #[.slice a261 y254.2.2.2.2.2.2.1.length z262,.slice a265 y254.2.2.2.2.2.2.2.length z266,.int .i64 0,.int .i64 0]) rfl ⟨_,_,_,_,_,_,(hF256),rfl,rfl,h263,h267⟩
 rintro e s ⟨rfl,hfin⟩
 replace h:=aj h
 obtain rfl:=Option.some.inj h
 exact hfin
noncomputable def g_e.b0 (pA:Int) (x1:List UInt8×Int):Option ((List UInt8×Int)⊕(List UInt8×Int)) :=
  (if(decide (x1.2<pA)) then(if x1.1.length+([32]:List UInt8).length<1000000000 then some (.inl ((x1.1++ [32]),(w64 (x1.2+1)))) else none) else some (.inr (x1.1,x1.2)))
noncomputable def g_e.f (pA:Int):Option (List UInt8) :=
  Option.bind (iter (g_e.b0 pA) ([],0)) fun o2=>some o2.1
theorem g_e.ok {pA:Int} {F:FZ} {r:List UInt8} (h:g_e.f pA=some r) :
    Cl EV 90 [.int .i64 pA] [] F (fun v S' F'=>F=F'∧v=aa r∧S'= []):=by
 refine Cl.of Tryz.func90 rfl (fun _ _=>rfl) (by kernel_rfl) fun s L nx0 hS=>?_
 unfold g_e.f at h
 refine WW.seq (WW.region ?_)
 refine sg0 hS 1 [] [2] [aa ([])] [] (by kernel_rfl) fun s hS=>(KW.nil ?_)
 refine WW.seq (WW.region ?_)
 refine sg0 hS 1 [] [3] [aa ([])] [] (by kernel_rfl) fun s hS=>(KW.nil ?_)
 refine WW.seq (WW.seq ?_)
 refine WW.region (sg0 hS 1 [] [4] [.int .i64 0] [] (by kernel_rfl) fun s hS=>?_)
 refine KW.nil (WW.block ?_)
 obtain⟨o2,ho2,h⟩:=bind_some h
 refine WW.loop (LW.iterE ho2 (fun(x1:List UInt8×Int) s=>Stt EV s [(0,.int .i64 pA),(2,aa ([])),(3,aa x1.1),(4,.int .i64 x1.2)] [] F L F nx0) 0 (hS.subR rfl) ?_ ?_)
 clear hS
 rintro x1 s hS o2' h4
 unfold g_e.b0 at h4
 refine WW.seq (WW.seq ?_)
 refine WW.region (sg0 hS 3 [] [7] [.bool (decide (x1.2<pA))] [] (by kernel_rfl) fun s hS=>?_)
 refine KW.nil (bc h4 (fun hc5 h4=>?_) fun hc5 h4=>?_)
 refine WW.condK hS rfl hc5 (WW.skip ?_)
 refine WW.seq (WW.block ?_)
 refine WW.region (sg0 hS 1 [] [10] [aa x1.1] [] (by kernel_rfl) fun s hS=>?_)
 obtain⟨hk6,h4⟩:=ac h4
 refine am hS (wn rfl) rfl rfl rfl (v:=aa (x1.1++ [32])) (gF (hS.lk rfl) (hS.lk rfl) hk6) fun s hS=>(sg0 hS 1 [] [3] [aa (x1.1++ [32])] [] (by kernel_rfl) fun s hS=>?_)
 refine KW.nil (WW.region ?_)
 refine sg0 hS 3 [] [4] [.int .i64 (w64 (x1.2+1))] [] (by kernel_rfl) fun s hS=>(KW.nil ?_)
 obtain rfl:=Option.some.inj h4
 exact⟨_,rfl,(hS.subR rfl)⟩
 refine WW.condF hS rfl hc5 (WW.exit ?_)
 refine af ?_
 obtain rfl:=Option.some.inj h4
 exact⟨_,rfl,rfl,(hS.subR rfl)⟩
 clear hS
 rintro e s ⟨rfl,hS⟩
 refine ah (WW.seq ?_)
 refine WW.region (sg0 hS 2 [] [2] [aa o2.1] [] (by kernel_rfl) fun s hS=>?_)
 refine KW.nil (WW.ret ?_)
 cases h
 exact aS hS (.inr rfl) 2 rfl rfl ⟨rfl,rfl,rfl⟩
noncomputable def g_g.b0 (pK:Int) (x5:Int×(List (Int×Int×Int))):Option ((Int×(List (Int×Int×Int)))⊕(Int×(List (Int×Int×Int)))) :=
  (if(decide (x5.1≤72)) then(if x5.2.length+([(0,pK,x5.1)]:List (Int×Int×Int)).length<1000000000 then some (.inl ((w64 (x5.1+1)),(x5.2++([(0,pK,x5.1)]:List (Int×Int×Int))))) else none) else some (.inr (x5.1,x5.2)))
noncomputable def g_g.f (pA:Int) (pB:List UInt8) (pC:List (Int×Int×Int)) (pJ:List UInt8) (pK:Int):Option (Int×List UInt8×(List (Int×Int×Int))) :=
  (if 0≤(6:Int)∧(6:Int)≤72∧72≤(pJ.length:Int) then(if pB.length+(mid pJ (6:Int) 72).length<1000000000 then Option.bind (iter (g_g.b0 pK) (7,pC)) fun o10=>some (pA,(pB++(mid pJ (6:Int) 72)),o10.2) else none) else none)
theorem g_g.ok {aE:Option Addr} {zH:Nat} {BJ:Seg} {pA:Int} {pB:List UInt8} {pC:List (Int×Int×Int)} {pJ:List UInt8} {pK:Int} {F:FZ} {r:Int×List UInt8×(List (Int×Int×Int))} (h:g_g.f pA pB pC pJ pK=some r) (hI:Own dj F aE zH pC BJ) :
    Cl EV 91 [.agg #[.int .i64 pA,aa pB,.slice aE pC.length zH],aa pJ,.int .i64 pK] [BJ] F (fun v S' F'=> ∃(ra1:Option Addr) (rz2:Nat) (rB4:Seg),F=F'∧v= .agg #[.int .i64 r.1,aa r.2.1,.slice ra1 r.2.2.length rz2]∧S'= [rB4]∧Own dj F' ra1 rz2 r.2.2 rB4):=by
 refine Cl.of Tryz.func91 rfl (fun _ _=>rfl) (by kernel_rfl) fun s L nx0 hS=>?_
 unfold g_g.f at h
 refine WW.seq (WW.region ?_)
 refine bf hS (wn rfl) rfl rfl rfl (v:=fun i=> .pointer (some ⟨i,0,none⟩)) (b:= .row [.int .i64 pA,aa pB,.slice aE pC.length zH] 61 0 true) (br (hS.lk rfl) rfl [.int .i64 pA,aa pB,.slice aE pC.length zH] rfl) fun s i1 hS=>(bf hS (wn rfl) rfl rfl rfl (v:=fun i=> .pointer (some ⟨i,0,none⟩)) (b:= .row [.int .i64 0,aa ([]),.slice none 0 0] 61 0 true) (aU ed) fun s i2 hS=>?_)
 refine KW.nil (WW.seq ?_)
 refine WW.regionD (i:=[[],[],[1,0],[1,0],[],[],[]]) (by kernel_rfl) ?_
 have hq:=RS.start [i2,i1]
 refine kg hS hq 1 [8] [.pointer (some ⟨i1,1,none⟩)] (by kernel_rfl) fun s rs hS hq=>(K.ld hS hq rfl (wn rfl) rfl rfl rfl (hS.at (k:=1) rfl) tg9 (v:=aa pB) rfl 1 rfl rfl fun s rs hS hq=>?_)
 refine kg hS hq 1 [10] [aa pJ] (by kernel_rfl) fun s rs hS hq=>?_
 obtain⟨hk3,h⟩:=ac h
 refine K.pu hS hq rfl (wn rfl) rfl rfl rfl (v:=aa (mid pJ (6:Int) 72)) (cu tu9 (hS.lk rfl) (i:=(6:Int)) (j:=72) (bu hS rfl) (bu hS rfl) hk3) fun s rs hS hq=>?_
 obtain⟨hk4,h⟩:=ac h
 refine K.pu hS hq rfl (wn rfl) rfl rfl rfl (v:=aa (pB++(mid pJ (6:Int) 72))) (gF (hS.lk rfl) (hS.lk rfl) hk4) fun s rs hS hq=>(kg hS hq 1 [13] [.pointer (some ⟨i1,1,none⟩)] (by kernel_rfl) fun s rs hS hq=>?_)
 refine K.sto hS hq rfl (wn rfl) rfl rfl rfl rfl (p:=1) rfl tz9 rfl [.int .i64 pA,aa (pB++(mid pJ (6:Int) 72)),.slice aE pC.length zH] rfl [0] rfl (aZ rfl mm0 bv) fun s rs hS hq=>(KW.nil ?_)
 refine WW.seq (WW.seq ?_)
 refine WW.region (sg0 hS 1 [] [7] [.int .i64 7] [] (by kernel_rfl) fun s hS=>?_)
 refine KW.nil (WW.block ?_)
 obtain⟨o10,ho10,h⟩:=bind_some h
 refine WW.loop (LW.iterE ho10 (fun(x5:Int×(List (Int×Int×Int))) s=> ∃(a6:Option Addr) (z7:Nat) (B9:Seg),Stt EV s [(2,.int .i64 pK),(3,.pointer (some ⟨i1,0,none⟩)),(6,.pointer (some ⟨i2,0,none⟩)),(7,.int .i64 x5.1)] [[(i2,.row [.int .i64 0,aa ([]),.slice none 0 0] 61 0 true)],[(i1,.row [.int .i64 pA,aa (pB++(mid pJ (6:Int) 72)),.slice a6 x5.2.length z7] 61 0 true)],B9] F L F nx0∧Own dj F a6 z7 x5.2 B9) 0 ⟨_,_,_,(hS.subR rfl),hI⟩ ?_ ?_)
 clear hS
 rintro x5 s ⟨a6,z7,B9,hS,h8⟩ o10' h16
 unfold g_g.b0 at h16
 refine WW.seq (WW.seq ?_)
 refine WW.region (sg0 hS 2 [] [15] [.bool (decide (x5.1≤72))] [] (by kernel_rfl) fun s hS=>?_)
 refine KW.nil (bc h16 (fun hc17 h16=>?_) fun hc17 h16=>?_)
 refine WW.condK hS rfl hc17 (WW.skip ?_)
 refine WW.seq (WW.block ?_)
 refine WW.region (sg0 hS 4 [1] [19,20,21] [.slice a6 x5.2.length z7,.int .i64 pK,.int .i64 x5.1] [i1] (by kernel_rfl) fun s hS=>?_)
 refine am hS (wn rfl) rfl rfl rfl (v:= .agg #[.int .i64 0,.int .i64 pK,.int .i64 x5.1]) (bp jR tp58 [(1,.int .i64 pK),(2,.int .i64 x5.1)] (ar hS rfl) (cs:=[.int .i64 0,.int .i64 pK,.int .i64 x5.1]) rfl) fun s hS=>(bf hS (wn rfl) rfl rfl rfl (v:=fun i=> .slice (some ⟨i,0,none⟩) 1 3) (b:= .row [.int .i64 0,.int .i64 pK,.int .i64 x5.1] 58 3 true) (be tu59 sb jR rfl [(0,.agg #[.int .i64 0,.int .i64 pK,.int .i64 x5.1])] (ar hS rfl) rfl) fun s i18 hS=>?_)
 have hC19:au dj F ([(0,pK,x5.1)]:List (Int×Int×Int)) [.int .i64 0,.int .i64 pK,.int .i64 x5.1]:=⟨[.int .i64 0,.int .i64 pK,.int .i64 x5.1],[],rfl,rfl,rfl⟩
 obtain⟨hk23,h16⟩:=ac h16
 replace hS:=hS.pull 3
 replace hS:=hS.pull 1
 refine eb hS (wn rfl) (dd:=dj) (lst:=x5.2) (m:=([(0,pK,x5.1)]:List (Int×Int×Int))) rfl rfl lZ rfl rfl h8 (Nat.succ_pos _) hC19 hk23 fun s i20 cs21 hC22 hS=>(sg hS 2 [2] [] [] [i1] [[(i20,.row cs21 58 3 true)],[(i2,.row [.int .i64 0,aa ([]),.slice none 0 0] 61 0 true)],[(i1,.row [.int .i64 pA,aa (pB++(mid pJ (6:Int) 72)),.slice (some ⟨i20,0,none⟩) (x5.2++([(0,pK,x5.1)]:List (Int×Int×Int))).length 3] 61 0 true)]] (by kernel_rfl) fun s hS=>?_)
 refine KW.nil (WW.region ?_)
 refine sg0 hS 3 [] [7] [.int .i64 (w64 (x5.1+1))] [] (by kernel_rfl) fun s hS=>(KW.nil ?_)
 replace hS:=hS.pull 2
 replace hS:=hS.pull 2
 obtain rfl:=Option.some.inj h16
 exact⟨_,rfl,_,_,_,(hS.subR rfl),(Own.blk0 hC22)⟩
 refine WW.condF hS rfl hc17 (WW.exit ?_)
 refine af ?_
 obtain rfl:=Option.some.inj h16
 exact⟨_,rfl,rfl,_,_,_,(hS.subR rfl),h8⟩
 clear hS
 rintro e s ⟨rfl,a24,z25,B27,hS,h26⟩
 refine ah (WW.seq ?_)
 refine WW.region (sg hS 2 [1,0] [] [] [i1,i2] [[(i2,.row [.int .i64 pA,aa (pB++(mid pJ (6:Int) 72)),.slice a24 o10.2.length z25] 61 0 true)],[(i1,.row [.int .i64 pA,aa (pB++(mid pJ (6:Int) 72)),.slice a24 o10.2.length z25] 61 0 true)],B27] (by kernel_rfl) fun s hS=>?_)
 refine KW.nil (WW.ret ?_)
 have hres:=(aL hS (t:=6) (ty:=61) rfl (p:=0) rfl qt kp (ws:=[.int .i64 pA,aa (pB++(mid pJ (6:Int) 72)),.slice a24 o10.2.length z25]) rfl (aw (E:=EV) (s:=s)))
 replace hS:=hS.drop
 replace hS:=hS.drop
 cases h
 exact fin hS (.inr rfl) hres (v:= .agg #[.int .i64 pA,aa (pB++(mid pJ (6:Int) 72)),.slice a24 o10.2.length z25]) rfl ⟨_,_,_,rfl,rfl,rfl,h26⟩
noncomputable def g_i.b1 (x5:Bool×Int×Int×Int×Int×List UInt8×(List (Int×Int×Int))×(List (Int×List UInt8×(List (Int×Int×Int))))×List Int) (z54:List UInt8) (x191:Int×Int×Int):Option ((Int×Int×Int)⊕((Int×Int×Int)⊕((List (Int×List UInt8×(List (Int×Int×Int))))×List Int×Int×Int))) :=
  (if(decide (x191.2.2<5)) then Option.bind ((if 0≤x191.2.2∧x191.2.2<(z54.length:Int) then Option.bind (g_l.f (gt z54 x191.2.2)) fun y199=>(if y199 then(if 0≤x191.2.2∧x191.2.2<(z54.length:Int) then some (.inl ((w64 ((w64 (10*x191.1))+(IntKind.i64.wrap (((gt z54 x191.2.2)-48).toNat:Int)))),(w64 (x191.2.1+1)))) else none) else(if 0≤x191.2.2∧x191.2.2<(z54.length:Int) then(if(((gt z54 x191.2.2).toNat:Int) != ((32:UInt8).toNat:Int)) then Option.bind (g_o.f x5.2.2.2.1 7) fun y205=>some (.inr (.inr (.inr (y205.1,y205.2.1,y205.2.2.1,y205.2.2.2)))) else some (.inl (x191.1,x191.2.1))) else none)) else none)) fun z196=>bj z196 fun z197=>some (.inl (z197.1,z197.2,(w64 (x191.2.2+1)))) else some (.inr (.inl (x191.1,x191.2.1,x191.2.2))))
noncomputable def g_i.b0 (pC:List (List UInt8)) (x5:Bool×Int×Int×Int×Int×List UInt8×(List (Int×Int×Int))×(List (Int×List UInt8×(List (Int×Int×Int))))×List Int):Option ((Bool×Int×Int×Int×Int×List UInt8×(List (Int×Int×Int))×(List (Int×List UInt8×(List (Int×Int×Int))))×List Int)⊕((Bool×Int×Int×Int×Int×List UInt8×(List (Int×Int×Int))×(List (Int×List UInt8×(List (Int×Int×Int))))×List Int)⊕((List (Int×List UInt8×(List (Int×Int×Int))))×List Int×Int×Int))) :=
  (if(decide (x5.2.2.2.1≤(pC.length:Int))) then Option.bind (Option.bind ((if(decide (x5.2.2.2.1<(pC.length:Int))) then(if 0≤x5.2.2.2.1∧x5.2.2.2.1<(pC.length:Int) then(if 0≤x5.2.2.2.1∧x5.2.2.2.1<(pC.length:Int) then Option.bind (g_e.f (w64 (80-((gt pC x5.2.2.2.1).length:Int)))) fun y72=>(if(gt pC x5.2.2.2.1).length+y72.length<1000000000 then(if 0≤(0:Int)∧(0:Int)≤72∧72≤(((gt pC x5.2.2.2.1)++y72).length:Int) then Option.bind (g_k.f (mid ((gt pC x5.2.2.2.1)++y72) (0:Int) 72)) fun y76=>Option.bind ((if y76 then some true else(if 0≤(0:Int)∧(0:Int)<(((gt pC x5.2.2.2.1)++y72).length:Int) then some (((gt ((gt pC x5.2.2.2.1)++y72) (0:Int)).toNat:Int)==((67:UInt8).toNat:Int)) else none))) fun z78=>Option.bind ((if z78 then some true else(if 0≤(0:Int)∧(0:Int)<(((gt pC x5.2.2.2.1)++y72).length:Int) then some (((gt ((gt pC x5.2.2.2.1)++y72) (0:Int)).toNat:Int)==((99:UInt8).toNat:Int)) else none))) fun z81=>Option.bind ((if z81 then some true else(if 0≤(0:Int)∧(0:Int)<(((gt pC x5.2.2.2.1)++y72).length:Int) then some (((gt ((gt pC x5.2.2.2.1)++y72) (0:Int)).toNat:Int)==((42:UInt8).toNat:Int)) else none))) fun z84=>Option.bind ((if z84 then some true else(if 0≤(0:Int)∧(0:Int)<(((gt pC x5.2.2.2.1)++y72).length:Int) then some (((gt ((gt pC x5.2.2.2.1)++y72) (0:Int)).toNat:Int)==((33:UInt8).toNat:Int)) else none))) fun z87=>(if z87 then(if x5.2.2.2.2.2.2.2.2.length+([0]:List Int).length<1000000000 then some (.inr (.inl ((x5.2.2.2.2.2.2.2.2++([0]:List Int)),x5.2.2.1,x5.2.2.2.2.1,x5.2.2.2.2.2.1,x5.2.2.2.2.2.2.1,x5.1,x5.2.1,x5.2.2.2.2.2.2.2.1))) else none) else(if 0≤(5:Int)∧(5:Int)<(((gt pC x5.2.2.2.1)++y72).length:Int) then Option.bind ((if(((gt ((gt pC x5.2.2.2.1)++y72) (5:Int)).toNat:Int) != ((32:UInt8).toNat:Int)) then(if 0≤(5:Int)∧(5:Int)<(((gt pC x5.2.2.2.1)++y72).length:Int) then some (((gt ((gt pC x5.2.2.2.1)++y72) (5:Int)).toNat:Int) != ((48:UInt8).toNat:Int)) else none) else some false)) fun z98=>(if z98 then(if(!x5.1) then Option.bind (g_o.f x5.2.2.2.1 9) fun y103=>some (.inr (.inr (.inr (.inr (y103.1,y103.2.1,y103.2.2.1,y103.2.2.2))))) else(if 0≤(0:Int)∧(0:Int)≤5∧5≤(((gt pC x5.2.2.2.1)++y72).length:Int) then Option.bind (g_k.f (mid ((gt pC x5.2.2.2.1)++y72) (0:Int) 5)) fun y114=>(if(!y114) then Option.bind (g_o.f x5.2.2.2.1 3) fun y117=>some (.inr (.inr (.inr (.inr (y117.1,y117.2.1,y117.2.2.1,y117.2.2.2))))) else(if(decide ((w64 (x5.2.2.1+1))>19)) then Option.bind (g_o.f x5.2.2.2.1 8) fun y128=>some (.inr (.inr (.inr (.inr (y128.1,y128.2.1,y128.2.2.1,y128.2.2.2))))) else(if x5.2.2.2.2.2.2.2.2.length+([2]:List Int).length<1000000000 then Option.bind (g_g.f x5.2.2.2.2.1 x5.2.2.2.2.2.1 x5.2.2.2.2.2.2.1 ((gt pC x5.2.2.2.1)++y72) x5.2.2.2.1) fun y144=>some (.inr (.inl ((x5.2.2.2.2.2.2.2.2++([2]:List Int)),(w64 (x5.2.2.1+1)),y144.1,y144.2.1,y144.2.2,x5.1,x5.2.1,x5.2.2.2.2.2.2.2.1))) else none))) else none)) else some (.inl ((gt pC x5.2.2.2.1)++y72))) else none)) else none) else none) else none) else none) else some (.inl ([])))) fun z53=>bj z53 fun z54=>Option.bind ((if x5.1 then Option.bind (g_n.f x5.2.2.2.2.1 x5.2.2.2.2.2.1 x5.2.2.2.2.2.2.1) fun y165=>(if(decide (y165.2.1= [])) then Option.bind (g_o.f x5.2.1 17) fun y171=>some (.inr (.inr (.inr (.inr (y171.1,y171.2.1,y171.2.2.1,y171.2.2.2))))) else(if x5.2.2.2.2.2.2.2.1.length+([(y165.1,y165.2.1,y165.2.2)]:List (Int×List UInt8×(List (Int×Int×Int)))).length<1000000000 then some (.inl (true,y165.1,y165.2.1,y165.2.2,(x5.2.2.2.2.2.2.2.1++([(y165.1,y165.2.1,y165.2.2)]:List (Int×List UInt8×(List (Int×Int×Int))))))) else none)) else some (.inl (false,x5.2.2.2.2.1,x5.2.2.2.2.2.1,x5.2.2.2.2.2.2.1,x5.2.2.2.2.2.2.2.1)))) fun z150=>bj z150 fun z151=>(if(x5.2.2.2.1==(pC.length:Int)) then some (.inr (.inr (.inl (z151.1,x5.2.1,x5.2.2.1,x5.2.2.2.1,z151.2.1,z151.2.2.1,z151.2.2.2.1,z151.2.2.2.2,x5.2.2.2.2.2.2.2.2)))) else Option.bind (iter (g_i.b1 x5 z54) (0,0,0)) fun o192=>f4 o192 (fun r=>some (.inr (.inr (.inr r)))) fun y215=>(if((decide (y215.2.1>0))&&(y215.1==0)) then Option.bind (g_o.f x5.2.2.2.1 2) fun y217=>some (.inr (.inr (.inr (y217.1,y217.2.1,y217.2.2.1,y217.2.2.2)))) else(if x5.2.2.2.2.2.2.2.2.length+([1]:List Int).length<1000000000 then Option.bind (g_g.f y215.1 ([]) ([]:List (Int×Int×Int)) z54 x5.2.2.2.1) fun y233=>some (.inl ((x5.2.2.2.2.2.2.2.2++([1]:List Int)),0,y233.1,y233.2.1,y233.2.2,true,x5.2.2.2.1,z151.2.2.2.2)) else none)))) fun z37=>bj z37 fun z38=>some (.inl (z38.2.2.2.2.2.1,z38.2.2.2.2.2.2.1,z38.2.1,(w64 (x5.2.2.2.1+1)),z38.2.2.1,z38.2.2.2.1,z38.2.2.2.2.1,z38.2.2.2.2.2.2.2,z38.1)) else some (.inr (.inl (x5.1,x5.2.1,x5.2.2.1,x5.2.2.2.1,x5.2.2.2.2.1,x5.2.2.2.2.2.1,x5.2.2.2.2.2.2.1,x5.2.2.2.2.2.2.2.1,x5.2.2.2.2.2.2.2.2))))
noncomputable def g_i.f (pC:List (List UInt8)):Option ((List (Int×List UInt8×(List (Int×Int×Int))))×List Int×Int×Int) :=
  Option.bind (iter (g_i.b0 pC) (false,0,0,0,0,[],([]:List (Int×Int×Int)),([]:List (Int×List UInt8×(List (Int×Int×Int)))),([]:List Int))) fun o20=>bj o20 fun y242=>some (y242.2.2.2.2.2.2.2.1,y242.2.2.2.2.2.2.2.2,0,0)
theorem g_i.ok {aE:Option Addr} {zH:Nat} {pA:List UInt8} {pB:Bool} {pC:List (List UInt8)} {F:FZ} {r:(List (Int×List UInt8×(List (Int×Int×Int))))×List Int×Int×Int} (h:g_i.f pC=some r) (hI:Frz (elS 9) F aE zH pC) :
    Cl EV 56 [.agg #[aa pA,.bool pB,.slice aE pC.length zH]] [] F (fun v S' F'=> ∃(ra1:Option Addr) (rz2:Nat) (rB4:Seg) (ra5:Option Addr) (rz6:Nat) (rB8:Seg),FLe F F'∧v= .agg #[.slice ra1 r.1.length rz2,.slice ra5 r.2.1.length rz6,.int .i64 r.2.2.1,.int .i64 r.2.2.2]∧S'= [rB4,rB8]∧Own bs F' ra1 rz2 r.1 rB4∧Own (elI .i64 3) F' ra5 rz6 r.2.1 rB8):=by
 refine Cl.of Tryz.func56 rfl (fun _ _=>rfl) (by kernel_rfl) fun s L nx0 hS=>?_
 unfold g_i.f at h
 refine WW.seq (WW.region ?_)
 refine bf hS (wn rfl) rfl rfl rfl (v:=fun i=> .pointer (some ⟨i,0,none⟩)) (b:= .row [aa pA,.bool pB,.slice aE pC.length zH] 38 0 true) (br (hS.lk rfl) rfl [aa pA,.bool pB,.slice aE pC.length zH] rfl) fun s i1 hS=>(bf hS (wn rfl) rfl rfl rfl (v:=fun i=> .pointer (some ⟨i,0,none⟩)) (b:= .row [.slice none 0 0,.slice none 0 0,.int .i64 0,.int .i64 0] 55 0 true) (aU eU) fun s i2 hS=>?_)
 refine KW.nil (WW.seq ?_)
 refine WW.region (bf hS (wn rfl) rfl rfl rfl (v:=fun i=> .pointer (some ⟨i,0,none⟩)) (b:= .row [.slice none 0 0,.slice none 0 0,.int .i64 0,.int .i64 0] 55 0 true) (aU eU) fun s i3 hS=>?_)
 refine KW.nil (WW.seq ?_)
 refine WW.region (bf hS (wn rfl) rfl rfl rfl (v:=fun i=> .pointer (some ⟨i,0,none⟩)) (b:= .row [.int .i64 0,aa ([]),.slice none 0 0] 61 0 true) (aU ed) fun s i4 hS=>?_)
 refine KW.nil (WW.seq ?_)
 refine WW.region (sg0 hS 3 [] [5,6,7] [.bool false,.int .i64 0,.int .i64 0] [] (by kernel_rfl) fun s hS=>?_)
 refine KW.nil (WW.seq ?_)
 refine WW.seq (WW.region ?_)
 refine sg0 hS 1 [] [8] [.int .i64 0] [] (by kernel_rfl) fun s hS=>(KW.nil ?_)
 refine WW.block ?_
 replace hS:=hS.gap0
 replace hS:=hS.gap0
 replace hS:=hS.gap0
 obtain⟨o20,ho20,h⟩:=bind_some h
 refine WW.loop (LW.iter ho20 (fun(x5:Bool×Int×Int×Int×Int×List UInt8×(List (Int×Int×Int))×(List (Int×List UInt8×(List (Int×Int×Int))))×List Int) s=> ∃(a8:Option Addr) (z9:Nat) (B11:Seg) (a12:Option Addr) (z13:Nat) (B15:Seg) (a16:Option Addr) (z17:Nat) (B19:Seg) (F6:FZ),Stt EV s [(1,.pointer (some ⟨i1,0,none⟩)),(2,.pointer (some ⟨i2,0,none⟩)),(3,.pointer (some ⟨i3,0,none⟩)),(4,.pointer (some ⟨i4,0,none⟩)),(5,.bool x5.1),(6,.int .i64 x5.2.1),(7,.int .i64 x5.2.2.1),(8,.int .i64 x5.2.2.2.1)] [B19,B15,B11,[(i4,.row [.int .i64 x5.2.2.2.2.1,aa x5.2.2.2.2.2.1,.slice a8 x5.2.2.2.2.2.2.1.length z9] 61 0 true)],[(i3,.row [.slice a12 x5.2.2.2.2.2.2.2.1.length z13,.slice a16 x5.2.2.2.2.2.2.2.2.length z17,.int .i64 0,.int .i64 0] 55 0 true)],[(i2,.row [.slice none 0 0,.slice none 0 0,.int .i64 0,.int .i64 0] 55 0 true)],[(i1,.row [aa pA,.bool pB,.slice aE pC.length zH] 38 0 true)]] F6 L F nx0∧Own dj F6 a8 z9 x5.2.2.2.2.2.2.1 B11∧Own bs F6 a12 z13 x5.2.2.2.2.2.2.2.1 B15∧Own (elI .i64 3) F6 a16 z17 x5.2.2.2.2.2.2.2.2 B19∧FLe F F6) (fun(o:(Bool×Int×Int×Int×Int×List UInt8×(List (Int×Int×Int))×(List (Int×List UInt8×(List (Int×Int×Int))))×List Int)⊕((List (Int×List UInt8×(List (Int×Int×Int))))×List Int×Int×Int)) e s=>match o with | .inl y21=>(e= .exit 0∧ ∃(a24:Option Addr) (z25:Nat) (a27:Option Addr) (z28:Nat) (B30:Seg) (a31:Option Addr) (z32:Nat) (B34:Seg) (F22:FZ),Stt EV s [(1,.pointer (some ⟨i1,0,none⟩)),(2,.pointer (some ⟨i2,0,none⟩)),(3,.pointer (some ⟨i3,0,none⟩)),(4,.pointer (some ⟨i4,0,none⟩)),(5,.bool y21.1),(6,.int .i64 y21.2.1),(7,.int .i64 y21.2.2.1),(8,.int .i64 y21.2.2.2.1)] [B34,B30,[(i4,.row [.int .i64 y21.2.2.2.2.1,aa y21.2.2.2.2.2.1,.slice a24 y21.2.2.2.2.2.2.1.length z25] 61 0 true)],[(i3,.row [.slice a27 y21.2.2.2.2.2.2.2.1.length z28,.slice a31 y21.2.2.2.2.2.2.2.2.length z32,.int .i64 0,.int .i64 0] 55 0 true)],[(i2,.row [.slice none 0 0,.slice none 0 0,.int .i64 0,.int .i64 0] 55 0 true)],[(i1,.row [aa pA,.bool pB,.slice aE pC.length zH] 38 0 true)]] F22 L F nx0∧Frz dj F22 a24 z25 y21.2.2.2.2.2.2.1∧Own bs F22 a27 z28 y21.2.2.2.2.2.2.2.1 B30∧Own (elI .i64 3) F22 a31 z32 y21.2.2.2.2.2.2.2.2 B34∧FLe F F22) | .inr r=>(e= .ret∧dq EV Tryz.f56 L F nx0 (fun v S' F'=> ∃(ra1:Option Addr) (rz2:Nat) (rB4:Seg) (ra5:Option Addr) (rz6:Nat) (rB8:Seg),FLe F F'∧v= .agg #[.slice ra1 r.1.length rz2,.slice ra5 r.2.1.length rz6,.int .i64 r.2.2.1,.int .i64 r.2.2.2]∧S'= [rB4,rB8]∧Own bs F' ra1 rz2 r.1 rB4∧Own (elI .i64 3) F' ra5 rz6 r.2.1 rB8) e s)) ⟨_,_,_,_,_,_,_,_,_,_,(hS.subR rfl),Own.nil,Own.nil,Own.nil,(FLe.refl _)⟩ ?_ ?_)
 clear hS
 rintro x5 s ⟨a8,z9,B11,a12,z13,B15,a16,z17,B19,F6,hS,h10,h14,h18,hF7⟩ o20' h35
 unfold g_i.b0 at h35
 refine WW.seq (WW.seq ?_)
 refine WW.region (sg0 hS 5 [6] [17] [.bool (decide (x5.2.2.2.1≤(pC.length:Int)))] [i1] (by kernel_rfl) fun s hS=>?_)
 refine KW.nil (bc h35 (fun hc36 h35=>?_) fun hc36 h35=>?_)
 refine WW.condK hS rfl hc36 (WW.skip ?_)
 obtain⟨z37,hz37,h35⟩:=bind_some h35
 refine WW.seqJ (fun s=> ∃(z38:List Int×Int×Int×List UInt8×(List (Int×Int×Int))×Bool×Int×(List (Int×List UInt8×(List (Int×Int×Int))))),z37= .inl z38∧ ∃(a41:Option Addr) (z42:Nat) (B44:Seg) (a45:Option Addr) (z46:Nat) (B48:Seg) (a49:Option Addr) (z50:Nat) (B52:Seg) (F39:FZ),Stt EV s [(1,.pointer (some ⟨i1,0,none⟩)),(2,.pointer (some ⟨i2,0,none⟩)),(3,.pointer (some ⟨i3,0,none⟩)),(4,.pointer (some ⟨i4,0,none⟩)),(5,.bool z38.2.2.2.2.2.1),(6,.int .i64 z38.2.2.2.2.2.2.1),(7,.int .i64 z38.2.1),(8,.int .i64 x5.2.2.2.1)] [B44,B52,B48,[(i4,.row [.int .i64 z38.2.2.1,aa z38.2.2.2.1,.slice a45 z38.2.2.2.2.1.length z46] 61 0 true)],[(i3,.row [.slice a49 z38.2.2.2.2.2.2.2.length z50,.slice a41 z38.1.length z42,.int .i64 0,.int .i64 0] 55 0 true)],[(i2,.row [.slice none 0 0,.slice none 0 0,.int .i64 0,.int .i64 0] 55 0 true)],[(i1,.row [aa pA,.bool pB,.slice aE pC.length zH] 38 0 true)]] F39 L F nx0∧Own (elI .i64 3) F39 a41 z42 z38.1 B44∧Own dj F39 a45 z46 z38.2.2.2.2.1 B48∧Own bs F39 a49 z50 z38.2.2.2.2.2.2.2 B52∧FLe F6 F39) ?_ ?_
 refine WW.block (WW.seq ?_)
 refine WW.region (sg0 hS 1 [] [9] [aa ([])] [] (by kernel_rfl) fun s hS=>?_)
 refine KW.nil ?_
 obtain⟨z53,hz53,hz37⟩:=bind_some hz37
 refine WW.seqJ (fun s=> ∃(z54:List UInt8),z53= .inl z54∧Stt EV s [(1,.pointer (some ⟨i1,0,none⟩)),(2,.pointer (some ⟨i2,0,none⟩)),(3,.pointer (some ⟨i3,0,none⟩)),(4,.pointer (some ⟨i4,0,none⟩)),(5,.bool x5.1),(6,.int .i64 x5.2.1),(7,.int .i64 x5.2.2.1),(8,.int .i64 x5.2.2.2.1),(9,aa z54)] [B19,B15,B11,[(i4,.row [.int .i64 x5.2.2.2.2.1,aa x5.2.2.2.2.2.1,.slice a8 x5.2.2.2.2.2.2.1.length z9] 61 0 true)],[(i3,.row [.slice a12 x5.2.2.2.2.2.2.2.1.length z13,.slice a16 x5.2.2.2.2.2.2.2.2.length z17,.int .i64 0,.int .i64 0] 55 0 true)],[(i2,.row [.slice none 0 0,.slice none 0 0,.int .i64 0,.int .i64 0] 55 0 true)],[(i1,.row [aa pA,.bool pB,.slice aE pC.length zH] 38 0 true)]] F6 L F nx0) ?_ ?_
 refine WW.seq (WW.region ?_)
 refine sg0 hS 5 [6] [24] [.bool (decide (x5.2.2.2.1<(pC.length:Int)))] [i1] (by kernel_rfl) fun s hS=>(KW.nil ?_)
 refine bc hz53 (fun hc55 hz53=>?_) fun hc55 hz53=>?_
 refine WW.condK hS rfl hc55 (WW.seq ?_)
 refine WW.regionD (i:=[[],[],[1,0],[],[],[4,3,2,1,0],[4,3,2,1,0],[6,5,4,3,2,1,0],[4,3,2,1,0],[4,3,2,1,0],[4,3,2,1,0],[4,3,2,1,0],[4,3,2,1,0],[],[]]) (by kernel_rfl) ?_
 have hq:=RS.start [i4,i3,i2,i1]
 refine kg hS hq 1 [25] [.pointer (some ⟨i1,2,none⟩)] (by kernel_rfl) fun s rs hS hq=>(K.ld hS hq rfl (wn rfl) rfl rfl rfl (hS.at (k:=6) rfl) nV (v:= .slice aE pC.length zH) rfl 3 rfl rfl fun s rs hS hq=>?_)
 refine kg hS hq 1 [27] [.int .i64 x5.2.2.2.1] (by kernel_rfl) fun s rs hS hq=>?_
 obtain⟨hk56,hz53⟩:=ac hz53
 obtain⟨i62,of63,rfl⟩:=Frz.addr hI (by omega)
 obtain⟨_,_,_,_,c57,hF64,hR58,hN59,hN60,hT61⟩:=Frz.at (hI.mono hF7) hk56 (m:=1) rfl
 obtain rfl:=hR58
 refine K.pu hS hq rfl (wn rfl) rfl rfl rfl (v:= .pointer (some ⟨i62,of63+(x5.2.2.2.1).toNat*1,none⟩)) (aW (hS.lk rfl) (hS.lk rfl) ie hk56) fun s rs hS hq=>?_
 replace hq:=hq.more i62 rfl rfl rfl
 refine K.ld hS hq rfl (wn rfl) rfl rfl rfl (hS.fat hF64) tg9 (v:=aa (gt pC x5.2.2.2.1)) hN59 4 rfl rfl fun s rs hS hq=>(kg hS hq 1 [30] [.pointer (some ⟨i1,2,none⟩)] (by kernel_rfl) fun s rs hS hq=>?_)
 refine K.ld hS hq rfl (wn rfl) rfl rfl rfl (hS.at (k:=6) rfl) nV (v:= .slice (some ⟨i62,of63,none⟩) pC.length zH) rfl 3 rfl rfl fun s rs hS hq=>(kg hS hq 1 [32] [.int .i64 x5.2.2.2.1] (by kernel_rfl) fun s rs hS hq=>?_)
 obtain⟨hk65,hz53⟩:=ac hz53
 obtain⟨_,_,_,_,c66,hF71,hR67,hN68,hN69,hT70⟩:=Frz.at (hI.mono hF7) hk65 (m:=1) rfl
 obtain rfl:=hR67
 refine K.pu hS hq rfl (wn rfl) rfl rfl rfl (v:= .pointer (some ⟨i62,of63+(x5.2.2.2.1).toNat*1,none⟩)) (aW (hS.lk rfl) (hS.lk rfl) ie hk65) fun s rs hS hq=>(K.ld hS hq rfl (wn rfl) rfl rfl rfl (hS.fat hF71) tg9 (v:=aa (gt pC x5.2.2.2.1)) hN68 4 rfl rfl fun s rs hS hq=>?_)
 refine kg hS hq 2 [36] [.int .i64 (w64 (80-((gt pC x5.2.2.2.1).length:Int)))] (by kernel_rfl) fun s rs hS hq=>?_
 obtain⟨y72,hy72,hz53⟩:=bind_some hz53
 refine K.cl hS hq rfl (wn rfl) (vs:=[.int .i64 (w64 (80-((gt pC x5.2.2.2.1).length:Int)))]) (ws:=[.int .i64 (w64 (80-((gt pC x5.2.2.2.1).length:Int)))]) rfl rfl rfl rfl rfl 0 rfl (g_e.ok hy72)  [0,1,2,3,4] rfl rfl (aZ rfl (mm1 (mm1 (mm1 mm0))) (aZ rfl (mm1 (mm1 (mm1 (mm1 mm0)))) (aZ rfl (mm1 (mm1 (mm1 (mm1 (mm1 mm0))))) (aZ rfl (mm1 (mm1 (mm1 (mm1 (mm1 (mm1 mm0)))))) (fv rfl hF71 bv))))) fun s rs v S' F' hp73 hF hS hq=>?_
 obtain⟨rfl,rfl,rfl⟩:=hp73
 obtain⟨hk74,hz53⟩:=ac hz53
 refine K.pu hS hq rfl (wn rfl) rfl rfl rfl (v:=aa ((gt pC x5.2.2.2.1)++y72)) (gF (hS.lk rfl) (hS.lk rfl) hk74) fun s rs hS hq=>(kg hS hq 1 [9] [aa ((gt pC x5.2.2.2.1)++y72)] (by kernel_rfl) fun s rs hS hq=>?_)
 refine KW.nil (WW.seq ?_)
 refine WW.seq (WW.region ?_)
 refine sg0 hS 1 [] [39] [aa ((gt pC x5.2.2.2.1)++y72)] [] (by kernel_rfl) fun s hS=>?_
 obtain⟨hk75,hz53⟩:=ac hz53
 refine am hS (wn rfl) rfl rfl rfl (v:=aa (mid ((gt pC x5.2.2.2.1)++y72) (0:Int) 72)) (cu tu9 (hS.lk rfl) (i:=(0:Int)) (j:=72) rfl (bu hS rfl) hk75) fun s hS=>?_
 obtain⟨y76,hy76,hz53⟩:=bind_some hz53
 refine cR (g_k.ok hy76) hS 0 41 0 rfl (by kernel_rfl) fun s hS=>(sg0 hS 1 [] [42] [.bool y76] [] (by kernel_rfl) fun s hS=>?_)
 obtain⟨z78,hz78,hz53⟩:=bind_some hz53
 refine aH 4 (fun s=>Stt EV s [(46,.bool z78),(1,.pointer (some ⟨i1,0,none⟩)),(2,.pointer (some ⟨i2,0,none⟩)),(3,.pointer (some ⟨i3,0,none⟩)),(4,.pointer (some ⟨i4,0,none⟩)),(5,.bool x5.1),(6,.int .i64 x5.2.1),(7,.int .i64 x5.2.2.1),(8,.int .i64 x5.2.2.2.1),(9,aa ((gt pC x5.2.2.2.1)++y72))] [B19,B15,B11,[(i4,.row [.int .i64 x5.2.2.2.2.1,aa x5.2.2.2.2.2.1,.slice a8 x5.2.2.2.2.2.2.1.length z9] 61 0 true)],[(i3,.row [.slice a12 x5.2.2.2.2.2.2.2.1.length z13,.slice a16 x5.2.2.2.2.2.2.2.2.length z17,.int .i64 0,.int .i64 0] 55 0 true)],[(i2,.row [.slice none 0 0,.slice none 0 0,.int .i64 0,.int .i64 0] 55 0 true)],[(i1,.row [aa pA,.bool pB,.slice (some ⟨i62,of63,none⟩) pC.length zH] 38 0 true)]] F6 L F nx0) ?_ fun s hS=>?_
 refine bc hz78 (fun hc79 hz78=>?_) fun hc79 hz78=>?_
 replace hS:=hS.kb 41 hc79 rfl
 replace hS:=hS.kb 42 hc79 rfl
 refine sg0 hS 4 [] [46] [.bool true] [] (by kernel_rfl) fun s hS=>(KW.nil ?_)
 obtain rfl:=Option.some.inj hz78
 exact hS.subR rfl
 replace hS:=hS.kb 41 hc79 rfl
 replace hS:=hS.kb 42 hc79 rfl
 refine sg0 hS 1 [] [43] [aa ((gt pC x5.2.2.2.1)++y72)] [] (by kernel_rfl) fun s hS=>?_
 obtain⟨hk80,hz78⟩:=ac hz78
 refine am hS (wt hS rfl rfl rfl rfl) rfl rfl rfl (v:=vB (gt ((gt pC x5.2.2.2.1)++y72) (0:Int))) (aA tu9 (hS.lk rfl) (hS.lk rfl) hk80) fun s hS=>(sg0 hS 2 [] [46] [.bool (((gt ((gt pC x5.2.2.2.1)++y72) (0:Int)).toNat:Int)==((67:UInt8).toNat:Int))] [] (by kernel_rfl) fun s hS=>?_)
 refine KW.nil ?_
 obtain rfl:=Option.some.inj hz78
 exact hS.subR rfl
 refine sg0 hS 1 [] [47] [.bool z78] [] (by kernel_rfl) fun s hS=>?_
 obtain⟨z81,hz81,hz53⟩:=bind_some hz53
 refine aH 4 (fun s=>Stt EV s [(51,.bool z81),(1,.pointer (some ⟨i1,0,none⟩)),(2,.pointer (some ⟨i2,0,none⟩)),(3,.pointer (some ⟨i3,0,none⟩)),(4,.pointer (some ⟨i4,0,none⟩)),(5,.bool x5.1),(6,.int .i64 x5.2.1),(7,.int .i64 x5.2.2.1),(8,.int .i64 x5.2.2.2.1),(9,aa ((gt pC x5.2.2.2.1)++y72))] [B19,B15,B11,[(i4,.row [.int .i64 x5.2.2.2.2.1,aa x5.2.2.2.2.2.1,.slice a8 x5.2.2.2.2.2.2.1.length z9] 61 0 true)],[(i3,.row [.slice a12 x5.2.2.2.2.2.2.2.1.length z13,.slice a16 x5.2.2.2.2.2.2.2.2.length z17,.int .i64 0,.int .i64 0] 55 0 true)],[(i2,.row [.slice none 0 0,.slice none 0 0,.int .i64 0,.int .i64 0] 55 0 true)],[(i1,.row [aa pA,.bool pB,.slice (some ⟨i62,of63,none⟩) pC.length zH] 38 0 true)]] F6 L F nx0) ?_ fun s hS=>?_
 refine bc hz81 (fun hc82 hz81=>?_) fun hc82 hz81=>?_
 replace hS:=hS.kb 46 hc82 rfl
 replace hS:=hS.kb 47 hc82 rfl
 refine sg0 hS 4 [] [51] [.bool true] [] (by kernel_rfl) fun s hS=>(KW.nil ?_)
 obtain rfl:=Option.some.inj hz81
 exact hS.subR rfl
 replace hS:=hS.kb 46 hc82 rfl
 replace hS:=hS.kb 47 hc82 rfl
 refine sg0 hS 1 [] [48] [aa ((gt pC x5.2.2.2.1)++y72)] [] (by kernel_rfl) fun s hS=>?_
 obtain⟨hk83,hz81⟩:=ac hz81
 refine am hS (wt hS rfl rfl rfl rfl) rfl rfl rfl (v:=vB (gt ((gt pC x5.2.2.2.1)++y72) (0:Int))) (aA tu9 (hS.lk rfl) (hS.lk rfl) hk83) fun s hS=>(sg0 hS 2 [] [51] [.bool (((gt ((gt pC x5.2.2.2.1)++y72) (0:Int)).toNat:Int)==((99:UInt8).toNat:Int))] [] (by kernel_rfl) fun s hS=>?_)
 refine KW.nil ?_
 obtain rfl:=Option.some.inj hz81
 exact hS.subR rfl
 refine sg0 hS 1 [] [52] [.bool z81] [] (by kernel_rfl) fun s hS=>?_
 obtain⟨z84,hz84,hz53⟩:=bind_some hz53
 refine aH 4 (fun s=>Stt EV s [(56,.bool z84),(1,.pointer (some ⟨i1,0,none⟩)),(2,.pointer (some ⟨i2,0,none⟩)),(3,.pointer (some ⟨i3,0,none⟩)),(4,.pointer (some ⟨i4,0,none⟩)),(5,.bool x5.1),(6,.int .i64 x5.2.1),(7,.int .i64 x5.2.2.1),(8,.int .i64 x5.2.2.2.1),(9,aa ((gt pC x5.2.2.2.1)++y72))] [B19,B15,B11,[(i4,.row [.int .i64 x5.2.2.2.2.1,aa x5.2.2.2.2.2.1,.slice a8 x5.2.2.2.2.2.2.1.length z9] 61 0 true)],[(i3,.row [.slice a12 x5.2.2.2.2.2.2.2.1.length z13,.slice a16 x5.2.2.2.2.2.2.2.2.length z17,.int .i64 0,.int .i64 0] 55 0 true)],[(i2,.row [.slice none 0 0,.slice none 0 0,.int .i64 0,.int .i64 0] 55 0 true)],[(i1,.row [aa pA,.bool pB,.slice (some ⟨i62,of63,none⟩) pC.length zH] 38 0 true)]] F6 L F nx0) ?_ fun s hS=>?_
 refine bc hz84 (fun hc85 hz84=>?_) fun hc85 hz84=>?_
 replace hS:=hS.kb 51 hc85 rfl
 replace hS:=hS.kb 52 hc85 rfl
 refine sg0 hS 4 [] [56] [.bool true] [] (by kernel_rfl) fun s hS=>(KW.nil ?_)
 obtain rfl:=Option.some.inj hz84
 exact hS.subR rfl
 replace hS:=hS.kb 51 hc85 rfl
 replace hS:=hS.kb 52 hc85 rfl
 refine sg0 hS 1 [] [53] [aa ((gt pC x5.2.2.2.1)++y72)] [] (by kernel_rfl) fun s hS=>?_
 obtain⟨hk86,hz84⟩:=ac hz84
 refine am hS (wt hS rfl rfl rfl rfl) rfl rfl rfl (v:=vB (gt ((gt pC x5.2.2.2.1)++y72) (0:Int))) (aA tu9 (hS.lk rfl) (hS.lk rfl) hk86) fun s hS=>(sg0 hS 2 [] [56] [.bool (((gt ((gt pC x5.2.2.2.1)++y72) (0:Int)).toNat:Int)==((42:UInt8).toNat:Int))] [] (by kernel_rfl) fun s hS=>?_)
 refine KW.nil ?_
 obtain rfl:=Option.some.inj hz84
 exact hS.subR rfl
 refine sg0 hS 1 [] [57] [.bool z84] [] (by kernel_rfl) fun s hS=>?_
 obtain⟨z87,hz87,hz53⟩:=bind_some hz53
 refine aH 4 (fun s=>Stt EV s [(61,.bool z87),(1,.pointer (some ⟨i1,0,none⟩)),(2,.pointer (some ⟨i2,0,none⟩)),(3,.pointer (some ⟨i3,0,none⟩)),(4,.pointer (some ⟨i4,0,none⟩)),(5,.bool x5.1),(6,.int .i64 x5.2.1),(7,.int .i64 x5.2.2.1),(8,.int .i64 x5.2.2.2.1),(9,aa ((gt pC x5.2.2.2.1)++y72))] [B19,B15,B11,[(i4,.row [.int .i64 x5.2.2.2.2.1,aa x5.2.2.2.2.2.1,.slice a8 x5.2.2.2.2.2.2.1.length z9] 61 0 true)],[(i3,.row [.slice a12 x5.2.2.2.2.2.2.2.1.length z13,.slice a16 x5.2.2.2.2.2.2.2.2.length z17,.int .i64 0,.int .i64 0] 55 0 true)],[(i2,.row [.slice none 0 0,.slice none 0 0,.int .i64 0,.int .i64 0] 55 0 true)],[(i1,.row [aa pA,.bool pB,.slice (some ⟨i62,of63,none⟩) pC.length zH] 38 0 true)]] F6 L F nx0) ?_ fun s hS=>?_
 refine bc hz87 (fun hc88 hz87=>?_) fun hc88 hz87=>?_
 replace hS:=hS.kb 56 hc88 rfl
 replace hS:=hS.kb 57 hc88 rfl
 refine sg0 hS 4 [] [61] [.bool true] [] (by kernel_rfl) fun s hS=>(KW.nil ?_)
 obtain rfl:=Option.some.inj hz87
 exact hS.subR rfl
 replace hS:=hS.kb 56 hc88 rfl
 replace hS:=hS.kb 57 hc88 rfl
 refine sg0 hS 1 [] [58] [aa ((gt pC x5.2.2.2.1)++y72)] [] (by kernel_rfl) fun s hS=>?_
 obtain⟨hk89,hz87⟩:=ac hz87
 refine am hS (wt hS rfl rfl rfl rfl) rfl rfl rfl (v:=vB (gt ((gt pC x5.2.2.2.1)++y72) (0:Int))) (aA tu9 (hS.lk rfl) (hS.lk rfl) hk89) fun s hS=>(sg0 hS 2 [] [61] [.bool (((gt ((gt pC x5.2.2.2.1)++y72) (0:Int)).toNat:Int)==((33:UInt8).toNat:Int))] [] (by kernel_rfl) fun s hS=>?_)
 refine KW.nil ?_
 obtain rfl:=Option.some.inj hz87
 exact hS.subR rfl
 refine KW.nil (bc hz53 (fun hc90 hz53=>?_) fun hc90 hz53=>?_)
 refine WW.condK hS rfl hc90 (WW.seq ?_)
 refine WW.region (sg0 hS 2 [4] [63] [.slice a16 x5.2.2.2.2.2.2.2.2.length z17] [i3] (by kernel_rfl) fun s hS=>?_)
 refine bf hS (wn rfl) rfl rfl rfl (v:=fun i=> .slice (some ⟨i,0,none⟩) 1 1) (b:= .row [.int .i64 0] 3 1 true) (be ko tz3 km rfl [(0,.int .i64 0)] (ar hS rfl) rfl) fun s i91 hS=>?_
 have hC92:au (elI .i64 3) F6 ([0]:List Int) [.int .i64 0]:=⟨[.int .i64 0],[],rfl,rfl,rfl⟩
 obtain⟨hk96,hz53⟩:=ac hz53
 refine eb hS (wn rfl) (dd:=(elI .i64 3)) (lst:=x5.2.2.2.2.2.2.2.2) (m:=([0]:List Int)) rfl rfl cZ rfl rfl h18 (Nat.succ_pos _) hC92 hk96 fun s i93 cs94 hC95 hS=>(sg hS 2 [4] [] [] [i3] [[(i93,.row cs94 3 1 true)],B15,B11,[(i4,.row [.int .i64 x5.2.2.2.2.1,aa x5.2.2.2.2.2.1,.slice a8 x5.2.2.2.2.2.2.1.length z9] 61 0 true)],[(i3,.row [.slice a12 x5.2.2.2.2.2.2.2.1.length z13,.slice (some ⟨i93,0,none⟩) (x5.2.2.2.2.2.2.2.2++([0]:List Int)).length 1,.int .i64 0,.int .i64 0] 55 0 true)],[(i2,.row [.slice none 0 0,.slice none 0 0,.int .i64 0,.int .i64 0] 55 0 true)],[(i1,.row [aa pA,.bool pB,.slice (some ⟨i62,of63,none⟩) pC.length zH] 38 0 true)]] (by kernel_rfl) fun s hS=>?_)
 refine KW.nil (WW.exit ?_)
 refine af (af ?_)
 obtain rfl:=Option.some.inj hz53
 replace hz37:=aj hz37
 refine ah ?_
 obtain rfl:=Option.some.inj hz37
 exact⟨_,rfl,_,_,_,_,_,_,_,_,_,_,(hS.subR rfl),(Own.blk0 hC95),h10,h14,(FLe.refl _)⟩
 refine WW.condF hS rfl hc90 (WW.skip ?_)
 refine WW.seq (WW.region ?_)
 refine sg0 hS 1 [] [67] [aa ((gt pC x5.2.2.2.1)++y72)] [] (by kernel_rfl) fun s hS=>?_
 obtain⟨hk97,hz53⟩:=ac hz53
 refine am hS (wn rfl) rfl rfl rfl (v:=vB (gt ((gt pC x5.2.2.2.1)++y72) (5:Int))) (aA tu9 (hS.lk rfl) (hS.lk rfl) hk97) fun s hS=>(sg0 hS 2 [] [70] [.bool (((gt ((gt pC x5.2.2.2.1)++y72) (5:Int)).toNat:Int) != ((32:UInt8).toNat:Int))] [] (by kernel_rfl) fun s hS=>?_)
 obtain⟨z98,hz98,hz53⟩:=bind_some hz53
 refine aH 4 (fun s=>Stt EV s [(74,.bool z98),(1,.pointer (some ⟨i1,0,none⟩)),(2,.pointer (some ⟨i2,0,none⟩)),(3,.pointer (some ⟨i3,0,none⟩)),(4,.pointer (some ⟨i4,0,none⟩)),(5,.bool x5.1),(6,.int .i64 x5.2.1),(7,.int .i64 x5.2.2.1),(8,.int .i64 x5.2.2.2.1),(9,aa ((gt pC x5.2.2.2.1)++y72))] [B19,B15,B11,[(i4,.row [.int .i64 x5.2.2.2.2.1,aa x5.2.2.2.2.2.1,.slice a8 x5.2.2.2.2.2.2.1.length z9] 61 0 true)],[(i3,.row [.slice a12 x5.2.2.2.2.2.2.2.1.length z13,.slice a16 x5.2.2.2.2.2.2.2.2.length z17,.int .i64 0,.int .i64 0] 55 0 true)],[(i2,.row [.slice none 0 0,.slice none 0 0,.int .i64 0,.int .i64 0] 55 0 true)],[(i1,.row [aa pA,.bool pB,.slice (some ⟨i62,of63,none⟩) pC.length zH] 38 0 true)]] F6 L F nx0) ?_ fun s hS=>?_
 refine bc hz98 (fun hc99 hz98=>?_) fun hc99 hz98=>?_
 replace hS:=hS.kb 70 hc99 rfl
 refine sg0 hS 1 [] [71] [aa ((gt pC x5.2.2.2.1)++y72)] [] (by kernel_rfl) fun s hS=>?_
 obtain⟨hk100,hz98⟩:=ac hz98
 refine am hS (wt hS rfl rfl rfl rfl) rfl rfl rfl (v:=vB (gt ((gt pC x5.2.2.2.1)++y72) (5:Int))) (aA tu9 (hS.lk rfl) (hS.lk rfl) hk100) fun s hS=>(sg0 hS 2 [] [74] [.bool (((gt ((gt pC x5.2.2.2.1)++y72) (5:Int)).toNat:Int) != ((48:UInt8).toNat:Int))] [] (by kernel_rfl) fun s hS=>?_)
 refine KW.nil ?_
 obtain rfl:=Option.some.inj hz98
 exact hS.subR rfl
 replace hS:=hS.kb 70 hc99 rfl
 refine sg0 hS 4 [] [74] [.bool false] [] (by kernel_rfl) fun s hS=>(KW.nil ?_)
 obtain rfl:=Option.some.inj hz98
 exact hS.subR rfl
 refine KW.nil (bc hz53 (fun hc101 hz53=>?_) fun hc101 hz53=>?_)
 refine WW.condK hS rfl hc101 (WW.seq ?_)
 refine WW.seq (WW.region ?_)
 refine sg0 hS 2 [] [76] [.bool (!x5.1)] [] (by kernel_rfl) fun s hS=>(KW.nil ?_)
 refine bc hz53 (fun hc102 hz53=>?_) fun hc102 hz53=>?_
 refine WW.condK hS rfl hc102 (WW.seq ?_)
 refine WW.region ?_
 obtain⟨y103,hy103,hz53⟩:=bind_some hz53
 refine cK (g_o.ok hy103) hS 1 78 0 rfl (by kernel_rfl) fun s v S' F' hp104 hF hS=>?_
 obtain⟨a105,z106,B108,a109,z110,B112,rfl,rfl,rfl,h107,h111⟩:=hp104
 refine sg hS 1 [7] [] [] [i2] [B108,B112,B19,B15,B11,[(i4,.row [.int .i64 x5.2.2.2.2.1,aa x5.2.2.2.2.2.1,.slice a8 x5.2.2.2.2.2.2.1.length z9] 61 0 true)],[(i3,.row [.slice a12 x5.2.2.2.2.2.2.2.1.length z13,.slice a16 x5.2.2.2.2.2.2.2.2.length z17,.int .i64 0,.int .i64 0] 55 0 true)],[(i2,.row [.slice a105 y103.1.length z106,.slice a109 y103.2.1.length z110,.int .i64 y103.2.2.1,.int .i64 y103.2.2.2] 55 0 true)],[(i1,.row [aa pA,.bool pB,.slice (some ⟨i62,of63,none⟩) pC.length zH] 38 0 true)]] (by kernel_rfl) fun s hS=>(KW.nil ?_)
 refine WW.ret ?_
 obtain rfl:=Option.some.inj hz53
 replace hz37:=aj hz37
 obtain rfl:=Option.some.inj hz37
 replace h35:=aj h35
 have hres:=(aL hS (t:=2) (ty:=55) rfl (p:=7) rfl ee ef (ws:=[.slice a105 y103.1.length z106,.slice a109 y103.2.1.length z110,.int .i64 y103.2.2.1,.int .i64 y103.2.2.2]) rfl (aw (E:=EV) (s:=s)))
 replace hS:=(hS.pull 2).drop
 replace hS:=(hS.pull 2).drop
 replace hS:=(hS.pull 2).drop
 replace hS:=(hS.pull 2).drop
 replace hS:=(hS.pull 2).drop
 replace hS:=(hS.pull 2).drop
 replace hS:=(hS.pull 2).drop
 cases h35
 exact⟨_,rfl,rfl,fin hS (.inr rfl) hres (v:= .agg #[.slice a105 y103.1.length z106,.slice a109 y103.2.1.length z110,.int .i64 y103.2.2.1,.int .i64 y103.2.2.2]) rfl ⟨_,_,_,_,_,_,(hF7),rfl,rfl,h107,h111⟩⟩
 refine WW.condF hS rfl hc102 (WW.skip ?_)
 refine WW.seq (WW.seq ?_)
 refine WW.region (sg0 hS 1 [] [79] [aa ((gt pC x5.2.2.2.1)++y72)] [] (by kernel_rfl) fun s hS=>?_)
 obtain⟨hk113,hz53⟩:=ac hz53
 refine am hS (wn rfl) rfl rfl rfl (v:=aa (mid ((gt pC x5.2.2.2.1)++y72) (0:Int) 5)) (cu tu9 (hS.lk rfl) (i:=(0:Int)) (j:=5) rfl (bu hS rfl) hk113) fun s hS=>?_
 obtain⟨y114,hy114,hz53⟩:=bind_some hz53
 refine cR (g_k.ok hy114) hS 0 81 0 rfl (by kernel_rfl) fun s hS=>(sg0 hS 1 [] [82] [.bool (!y114)] [] (by kernel_rfl) fun s hS=>?_)
 refine KW.nil (bc hz53 (fun hc116 hz53=>?_) fun hc116 hz53=>?_)
 refine WW.condK hS rfl hc116 (WW.seq ?_)
 refine WW.region ?_
 obtain⟨y117,hy117,hz53⟩:=bind_some hz53
 refine cK (g_o.ok hy117) hS 1 84 0 rfl (by kernel_rfl) fun s v S' F' hp118 hF hS=>?_
 obtain⟨a119,z120,B122,a123,z124,B126,rfl,rfl,rfl,h121,h125⟩:=hp118
 refine sg hS 1 [7] [] [] [i2] [B122,B126,B19,B15,B11,[(i4,.row [.int .i64 x5.2.2.2.2.1,aa x5.2.2.2.2.2.1,.slice a8 x5.2.2.2.2.2.2.1.length z9] 61 0 true)],[(i3,.row [.slice a12 x5.2.2.2.2.2.2.2.1.length z13,.slice a16 x5.2.2.2.2.2.2.2.2.length z17,.int .i64 0,.int .i64 0] 55 0 true)],[(i2,.row [.slice a119 y117.1.length z120,.slice a123 y117.2.1.length z124,.int .i64 y117.2.2.1,.int .i64 y117.2.2.2] 55 0 true)],[(i1,.row [aa pA,.bool pB,.slice (some ⟨i62,of63,none⟩) pC.length zH] 38 0 true)]] (by kernel_rfl) fun s hS=>(KW.nil ?_)
 refine WW.ret ?_
 obtain rfl:=Option.some.inj hz53
 replace hz37:=aj hz37
 obtain rfl:=Option.some.inj hz37
 replace h35:=aj h35
 have hres:=(aL hS (t:=2) (ty:=55) rfl (p:=7) rfl ee ef (ws:=[.slice a119 y117.1.length z120,.slice a123 y117.2.1.length z124,.int .i64 y117.2.2.1,.int .i64 y117.2.2.2]) rfl (aw (E:=EV) (s:=s)))
 replace hS:=(hS.pull 2).drop
 replace hS:=(hS.pull 2).drop
 replace hS:=(hS.pull 2).drop
 replace hS:=(hS.pull 2).drop
 replace hS:=(hS.pull 2).drop
 replace hS:=(hS.pull 2).drop
 replace hS:=(hS.pull 2).drop
 cases h35
 exact⟨_,rfl,rfl,fin hS (.inr rfl) hres (v:= .agg #[.slice a119 y117.1.length z120,.slice a123 y117.2.1.length z124,.int .i64 y117.2.2.1,.int .i64 y117.2.2.2]) rfl ⟨_,_,_,_,_,_,(hF7),rfl,rfl,h121,h125⟩⟩
 refine WW.condF hS rfl hc116 (WW.skip ?_)
 refine WW.seq (WW.region ?_)
 refine sg0 hS 3 [] [7] [.int .i64 (w64 (x5.2.2.1+1))] [] (by kernel_rfl) fun s hS=>(KW.nil ?_)
 refine WW.seq (WW.seq ?_)
 refine WW.region (sg0 hS 2 [] [88] [.bool (decide ((w64 (x5.2.2.1+1))>19))] [] (by kernel_rfl) fun s hS=>?_)
 refine KW.nil (bc hz53 (fun hc127 hz53=>?_) fun hc127 hz53=>?_)
 refine WW.condK hS rfl hc127 (WW.seq ?_)
 refine WW.region ?_
 obtain⟨y128,hy128,hz53⟩:=bind_some hz53
 refine cK (g_o.ok hy128) hS 1 90 0 rfl (by kernel_rfl) fun s v S' F' hp129 hF hS=>?_
 obtain⟨a130,z131,B133,a134,z135,B137,rfl,rfl,rfl,h132,h136⟩:=hp129
 refine sg hS 1 [7] [] [] [i2] [B133,B137,B19,B15,B11,[(i4,.row [.int .i64 x5.2.2.2.2.1,aa x5.2.2.2.2.2.1,.slice a8 x5.2.2.2.2.2.2.1.length z9] 61 0 true)],[(i3,.row [.slice a12 x5.2.2.2.2.2.2.2.1.length z13,.slice a16 x5.2.2.2.2.2.2.2.2.length z17,.int .i64 0,.int .i64 0] 55 0 true)],[(i2,.row [.slice a130 y128.1.length z131,.slice a134 y128.2.1.length z135,.int .i64 y128.2.2.1,.int .i64 y128.2.2.2] 55 0 true)],[(i1,.row [aa pA,.bool pB,.slice (some ⟨i62,of63,none⟩) pC.length zH] 38 0 true)]] (by kernel_rfl) fun s hS=>(KW.nil ?_)
 refine WW.ret ?_
 obtain rfl:=Option.some.inj hz53
 replace hz37:=aj hz37
 obtain rfl:=Option.some.inj hz37
 replace h35:=aj h35
 have hres:=(aL hS (t:=2) (ty:=55) rfl (p:=7) rfl ee ef (ws:=[.slice a130 y128.1.length z131,.slice a134 y128.2.1.length z135,.int .i64 y128.2.2.1,.int .i64 y128.2.2.2]) rfl (aw (E:=EV) (s:=s)))
 replace hS:=(hS.pull 2).drop
 replace hS:=(hS.pull 2).drop
 replace hS:=(hS.pull 2).drop
 replace hS:=(hS.pull 2).drop
 replace hS:=(hS.pull 2).drop
 replace hS:=(hS.pull 2).drop
 replace hS:=(hS.pull 2).drop
 cases h35
 exact⟨_,rfl,rfl,fin hS (.inr rfl) hres (v:= .agg #[.slice a130 y128.1.length z131,.slice a134 y128.2.1.length z135,.int .i64 y128.2.2.1,.int .i64 y128.2.2.2]) rfl ⟨_,_,_,_,_,_,(hF7),rfl,rfl,h132,h136⟩⟩
 refine WW.condF hS rfl hc127 (WW.skip ?_)
 refine WW.seq (WW.region ?_)
 refine sg0 hS 2 [4] [92] [.slice a16 x5.2.2.2.2.2.2.2.2.length z17] [i3] (by kernel_rfl) fun s hS=>(bf hS (wn rfl) rfl rfl rfl (v:=fun i=> .slice (some ⟨i,0,none⟩) 1 1) (b:= .row [.int .i64 2] 3 1 true) (be ko tz3 km rfl [(0,.int .i64 2)] (ar hS rfl) rfl) fun s i138 hS=>?_)
 have hC139:au (elI .i64 3) F6 ([2]:List Int) [.int .i64 2]:=⟨[.int .i64 2],[],rfl,rfl,rfl⟩
 obtain⟨hk143,hz53⟩:=ac hz53
 refine eb hS (wn rfl) (dd:=(elI .i64 3)) (lst:=x5.2.2.2.2.2.2.2.2) (m:=([2]:List Int)) rfl rfl cZ rfl rfl h18 (Nat.succ_pos _) hC139 hk143 fun s i140 cs141 hC142 hS=>(sg hS 2 [4] [] [] [i3] [[(i140,.row cs141 3 1 true)],B15,B11,[(i4,.row [.int .i64 x5.2.2.2.2.1,aa x5.2.2.2.2.2.1,.slice a8 x5.2.2.2.2.2.2.1.length z9] 61 0 true)],[(i3,.row [.slice a12 x5.2.2.2.2.2.2.2.1.length z13,.slice (some ⟨i140,0,none⟩) (x5.2.2.2.2.2.2.2.2++([2]:List Int)).length 1,.int .i64 0,.int .i64 0] 55 0 true)],[(i2,.row [.slice none 0 0,.slice none 0 0,.int .i64 0,.int .i64 0] 55 0 true)],[(i1,.row [aa pA,.bool pB,.slice (some ⟨i62,of63,none⟩) pC.length zH] 38 0 true)]] (by kernel_rfl) fun s hS=>?_)
 refine KW.nil (WW.seq ?_)
 refine WW.region (sg0 hS 3 [3] [96,97,98] [.agg #[.int .i64 x5.2.2.2.2.1,aa x5.2.2.2.2.2.1,.slice a8 x5.2.2.2.2.2.2.1.length z9],aa ((gt pC x5.2.2.2.1)++y72),.int .i64 x5.2.2.2.1] [i4] (by kernel_rfl) fun s hS=>?_)
 obtain⟨y144,hy144,hz53⟩:=bind_some hz53
 replace hS:=hS.pull 2
 refine bE hS (wn rfl) (vs:=[.agg #[.int .i64 x5.2.2.2.2.1,aa x5.2.2.2.2.2.1,.slice a8 x5.2.2.2.2.2.2.1.length z9],aa ((gt pC x5.2.2.2.1)++y72),.int .i64 x5.2.2.2.1]) (ws:=[.agg #[.int .i64 x5.2.2.2.2.1,aa x5.2.2.2.2.2.1,.slice a8 x5.2.2.2.2.2.2.1.length z9],aa ((gt pC x5.2.2.2.1)++y72),.int .i64 x5.2.2.2.1]) rfl rfl rfl rfl rfl 1 rfl (g_g.ok hy144 h10) fun s v S' F' hp145 hF hS=>?_
 obtain⟨a146,z147,B149,rfl,rfl,rfl,h148⟩:=hp145
 refine sg hS 1 [3] [] [] [i4] [B149,[(i140,.row cs141 3 1 true)],B15,[(i4,.row [.int .i64 y144.1,aa y144.2.1,.slice a146 y144.2.2.length z147] 61 0 true)],[(i3,.row [.slice a12 x5.2.2.2.2.2.2.2.1.length z13,.slice (some ⟨i140,0,none⟩) (x5.2.2.2.2.2.2.2.2++([2]:List Int)).length 1,.int .i64 0,.int .i64 0] 55 0 true)],[(i2,.row [.slice none 0 0,.slice none 0 0,.int .i64 0,.int .i64 0] 55 0 true)],[(i1,.row [aa pA,.bool pB,.slice (some ⟨i62,of63,none⟩) pC.length zH] 38 0 true)]] (by kernel_rfl) fun s hS=>(KW.nil ?_)
 refine WW.exit (af ?_)
 obtain rfl:=Option.some.inj hz53
 replace hz37:=aj hz37
 refine ah ?_
 replace hS:=hS.pull 6
 replace hS:=hS.pull 6
 replace hS:=hS.pull 6
 replace hS:=hS.pull 6
 replace hS:=hS.pull 4
 replace hS:=hS.pull 6
 replace hS:=hS.pull 6
 obtain rfl:=Option.some.inj hz37
 exact⟨_,rfl,_,_,_,_,_,_,_,_,_,_,(hS.subR rfl),(Own.blk0 hC142),h148,h14,(FLe.refl _)⟩
 refine WW.condF hS rfl hc101 (WW.skip ?_)
 obtain rfl:=Option.some.inj hz53
 exact⟨_,rfl,(hS.subR rfl)⟩
 refine WW.condF hS rfl hc55 (WW.skip ?_)
 obtain rfl:=Option.some.inj hz53
 exact⟨_,rfl,(hS.subR rfl)⟩
 rintro s ⟨z54,rfl,hS⟩
 replace hz37:=aB hz37
 obtain⟨z150,hz150,hz37⟩:=bind_some hz37
 refine WW.seqJ (fun s=> ∃(z151:Bool×Int×List UInt8×(List (Int×Int×Int))×(List (Int×List UInt8×(List (Int×Int×Int))))),z150= .inl z151∧ ∃(a154:Option Addr) (z155:Nat) (a157:Option Addr) (z158:Nat) (B160:Seg) (F152:FZ),Stt EV s [(1,.pointer (some ⟨i1,0,none⟩)),(2,.pointer (some ⟨i2,0,none⟩)),(3,.pointer (some ⟨i3,0,none⟩)),(4,.pointer (some ⟨i4,0,none⟩)),(5,.bool z151.1),(6,.int .i64 x5.2.1),(7,.int .i64 x5.2.2.1),(8,.int .i64 x5.2.2.2.1),(9,aa z54)] [B19,B160,[(i4,.row [.int .i64 z151.2.1,aa z151.2.2.1,.slice a154 z151.2.2.2.1.length z155] 61 0 true)],[(i3,.row [.slice a157 z151.2.2.2.2.length z158,.slice a16 x5.2.2.2.2.2.2.2.2.length z17,.int .i64 0,.int .i64 0] 55 0 true)],[(i2,.row [.slice none 0 0,.slice none 0 0,.int .i64 0,.int .i64 0] 55 0 true)],[(i1,.row [aa pA,.bool pB,.slice aE pC.length zH] 38 0 true)]] F152 L F nx0∧Frz dj F152 a154 z155 z151.2.2.2.1∧Own bs F152 a157 z158 z151.2.2.2.2 B160∧FLe F6 F152) ?_ ?_
 refine WW.seq (WW.region ?_)
 refine sg0 hS 1 [] [100] [.bool x5.1] [] (by kernel_rfl) fun s hS=>(KW.nil ?_)
 refine bc hz150 (fun hc161 hz150=>?_) fun hc161 hz150=>?_
 replace hS:=hS.kb 5 hc161 rfl
 refine WW.condK hS rfl hc161 (WW.seq ?_)
 refine WW.region (sg0 hS 1 [3] [101] [.agg #[.int .i64 x5.2.2.2.2.1,aa x5.2.2.2.2.2.1,.slice a8 x5.2.2.2.2.2.2.1.length z9]] [i4] (by kernel_rfl) fun s hS=>?_)
 replace hS:=hS.pull 2
 obtain⟨F162,hF163,hS,hz164⟩:=hS.frzO h10
 obtain⟨y165,hy165,hz150⟩:=bind_some hz150
 refine bE hS (wn rfl) (vs:=[.agg #[.int .i64 x5.2.2.2.2.1,aa x5.2.2.2.2.2.1,.slice a8 x5.2.2.2.2.2.2.1.length z9]]) (ws:=[.agg #[.int .i64 x5.2.2.2.2.1,aa x5.2.2.2.2.2.1,.slice a8 x5.2.2.2.2.2.2.1.length z9]]) rfl rfl rfl rfl rfl 0 rfl (g_n.ok hy165 hz164) fun s v S' F' hp166 hF hS=>?_
 obtain⟨a167,z168,rfl,rfl,rfl,h169⟩:=hp166
 refine sg hS 1 [2] [] [] [i4] [B19,B15,[(i4,.row [.int .i64 y165.1,aa y165.2.1,.slice a167 y165.2.2.length z168] 61 0 true)],[(i3,.row [.slice a12 x5.2.2.2.2.2.2.2.1.length z13,.slice a16 x5.2.2.2.2.2.2.2.2.length z17,.int .i64 0,.int .i64 0] 55 0 true)],[(i2,.row [.slice none 0 0,.slice none 0 0,.int .i64 0,.int .i64 0] 55 0 true)],[(i1,.row [aa pA,.bool pB,.slice aE pC.length zH] 38 0 true)]] (by kernel_rfl) fun s hS=>(KW.nil ?_)
 refine WW.seq (WW.seq ?_)
 refine WW.region (sg0 hS 2 [2] [104] [aa y165.2.1] [i4] (by kernel_rfl) fun s hS=>?_)
 refine am hS (wn rfl) rfl rfl rfl (v:= .bool (decide (y165.2.1= []))) (fk (hS.lk rfl) (hS.lk rfl)) fun s hS=>(KW.nil ?_)
 refine bc hz150 (fun hc170 hz150=>?_) fun hc170 hz150=>?_
 refine WW.condK hS rfl hc170 (WW.seq ?_)
 refine WW.region ?_
 obtain⟨y171,hy171,hz150⟩:=bind_some hz150
 refine cK (g_o.ok hy171) hS 1 107 0 rfl (by kernel_rfl) fun s v S' F' hp172 hF hS=>?_
 obtain⟨a173,z174,B176,a177,z178,B180,rfl,rfl,rfl,h175,h179⟩:=hp172
 refine sg hS 1 [6] [] [] [i2] [B176,B180,B19,B15,[(i4,.row [.int .i64 y165.1,aa y165.2.1,.slice a167 y165.2.2.length z168] 61 0 true)],[(i3,.row [.slice a12 x5.2.2.2.2.2.2.2.1.length z13,.slice a16 x5.2.2.2.2.2.2.2.2.length z17,.int .i64 0,.int .i64 0] 55 0 true)],[(i2,.row [.slice a173 y171.1.length z174,.slice a177 y171.2.1.length z178,.int .i64 y171.2.2.1,.int .i64 y171.2.2.2] 55 0 true)],[(i1,.row [aa pA,.bool pB,.slice aE pC.length zH] 38 0 true)]] (by kernel_rfl) fun s hS=>(KW.nil ?_)
 refine WW.ret ?_
 obtain rfl:=Option.some.inj hz150
 replace hz37:=aj hz37
 obtain rfl:=Option.some.inj hz37
 replace h35:=aj h35
 have hres:=(aL hS (t:=2) (ty:=55) rfl (p:=6) rfl ee ef (ws:=[.slice a173 y171.1.length z174,.slice a177 y171.2.1.length z178,.int .i64 y171.2.2.1,.int .i64 y171.2.2.2]) rfl (aw (E:=EV) (s:=s)))
 replace hS:=(hS.pull 2).drop
 replace hS:=(hS.pull 2).drop
 replace hS:=(hS.pull 2).drop
 replace hS:=(hS.pull 2).drop
 replace hS:=(hS.pull 2).drop
 replace hS:=(hS.pull 2).drop
 cases h35
 exact⟨_,rfl,rfl,fin hS (.inr rfl) hres (v:= .agg #[.slice a173 y171.1.length z174,.slice a177 y171.2.1.length z178,.int .i64 y171.2.2.1,.int .i64 y171.2.2.2]) rfl ⟨_,_,_,_,_,_,((FLe.trans hF7 hF163)),rfl,rfl,h175,h179⟩⟩
 refine WW.condF hS rfl hc170 (WW.skip ?_)
 refine WW.region (sg0 hS 3 [3,2] [109,110] [.slice a12 x5.2.2.2.2.2.2.2.1.length z13,.agg #[.int .i64 y165.1,aa y165.2.1,.slice a167 y165.2.2.length z168]] [i3,i4] (by kernel_rfl) fun s hS=>?_)
 refine bf hS (wn rfl) rfl rfl rfl (v:=fun i=> .slice (some ⟨i,0,none⟩) 1 3) (b:= .row [.int .i64 y165.1,aa y165.2.1,.slice a167 y165.2.2.length z168] 61 3 true) (be tu40 kp ed rfl [(0,.agg #[.int .i64 y165.1,aa y165.2.1,.slice a167 y165.2.2.length z168])] (ar hS rfl) rfl) fun s i181 hS=>?_
 have hC182:au bs F162 ([(y165.1,y165.2.1,y165.2.2)]:List (Int×List UInt8×(List (Int×Int×Int)))) [.int .i64 y165.1,aa y165.2.1,.slice a167 y165.2.2.length z168]:=⟨[.int .i64 y165.1,aa y165.2.1,.slice a167 y165.2.2.length z168],[],rfl,⟨_,_,rfl,h169⟩,rfl⟩
 obtain⟨hk186,hz150⟩:=ac hz150
 replace hS:=hS.pull 2
 replace hS:=hS.pull 1
 refine eb hS (wn rfl) (dd:=bs) (lst:=x5.2.2.2.2.2.2.2.1) (m:=([(y165.1,y165.2.1,y165.2.2)]:List (Int×List UInt8×(List (Int×Int×Int))))) rfl rfl iO rfl rfl (h14.mono hF163) (Nat.succ_pos _) hC182 hk186 fun s i183 cs184 hC185 hS=>(sg hS 2 [3] [] [] [i3] [[(i183,.row cs184 61 3 true)],B19,[(i4,.row [.int .i64 y165.1,aa y165.2.1,.slice a167 y165.2.2.length z168] 61 0 true)],[(i3,.row [.slice (some ⟨i183,0,none⟩) (x5.2.2.2.2.2.2.2.1++([(y165.1,y165.2.1,y165.2.2)]:List (Int×List UInt8×(List (Int×Int×Int))))).length 3,.slice a16 x5.2.2.2.2.2.2.2.2.length z17,.int .i64 0,.int .i64 0] 55 0 true)],[(i2,.row [.slice none 0 0,.slice none 0 0,.int .i64 0,.int .i64 0] 55 0 true)],[(i1,.row [aa pA,.bool pB,.slice aE pC.length zH] 38 0 true)]] (by kernel_rfl) fun s hS=>?_)
 refine KW.nil ?_
 replace hS:=hS.pull 5
 replace hS:=hS.pull 5
 replace hS:=hS.pull 5
 replace hS:=hS.pull 5
 replace hS:=hS.pull 4
 replace hS:=hS.pull 5
 obtain rfl:=Option.some.inj hz150
 exact⟨_,rfl,_,_,_,_,_,_,(hS.subR rfl),h169,(Own.blk0 hC185),hF163⟩
 replace hS:=hS.kb 5 hc161 rfl
 refine WW.condF hS rfl hc161 (WW.skip ?_)
 replace hS:=hS.pull 2
 obtain⟨F187,hF188,hS,hz189⟩:=hS.frzO h10
 obtain rfl:=Option.some.inj hz150
 exact⟨_,rfl,_,_,_,_,_,_,(hS.subR rfl),hz189,(h14.mono hF188),hF188⟩
 rintro s ⟨z151,rfl,a154,z155,a157,z158,B160,F152,hS,h156,h159,hF153⟩
 replace hz37:=aB hz37
 refine WW.seq (WW.seq ?_)
 refine WW.region (sg0 hS 5 [5] [118] [.bool (x5.2.2.2.1==(pC.length:Int))] [i1] (by kernel_rfl) fun s hS=>?_)
 refine KW.nil (bc hz37 (fun hc190 hz37=>?_) fun hc190 hz37=>?_)
 refine WW.condK hS rfl hc190 (WW.exit ?_)
 refine af (gy rfl ?_)
 refine af ?_
 obtain rfl:=Option.some.inj hz37
 replace h35:=aj h35
 obtain rfl:=Option.some.inj h35
 exact⟨_,rfl,rfl,_,_,_,_,_,_,_,_,_,(hS.subR rfl),h156,h159,(h18.mono hF153),(FLe.trans hF7 hF153)⟩
 refine WW.condF hS rfl hc190 (WW.skip ?_)
 refine WW.seq (WW.region ?_)
 refine sg0 hS 2 [] [10,11] [.int .i64 0,.int .i64 0] [] (by kernel_rfl) fun s hS=>(KW.nil ?_)
 refine WW.seq (WW.seq ?_)
 refine WW.region (sg0 hS 1 [] [12] [.int .i64 0] [] (by kernel_rfl) fun s hS=>?_)
 refine KW.nil (WW.block ?_)
 obtain⟨o192,ho192,hz37⟩:=bind_some hz37
 refine WW.loop (LW.iterS ho192 (fun(x191:Int×Int×Int) s=>Stt EV s [(1,.pointer (some ⟨i1,0,none⟩)),(2,.pointer (some ⟨i2,0,none⟩)),(3,.pointer (some ⟨i3,0,none⟩)),(4,.pointer (some ⟨i4,0,none⟩)),(5,.bool z151.1),(6,.int .i64 x5.2.1),(7,.int .i64 x5.2.2.1),(8,.int .i64 x5.2.2.2.1),(9,aa z54),(10,.int .i64 x191.1),(11,.int .i64 x191.2.1),(12,.int .i64 x191.2.2)] [B19,B160,[(i4,.row [.int .i64 z151.2.1,aa z151.2.2.1,.slice a154 z151.2.2.2.1.length z155] 61 0 true)],[(i3,.row [.slice a157 z151.2.2.2.2.length z158,.slice a16 x5.2.2.2.2.2.2.2.2.length z17,.int .i64 0,.int .i64 0] 55 0 true)],[(i2,.row [.slice none 0 0,.slice none 0 0,.int .i64 0,.int .i64 0] 55 0 true)],[(i1,.row [aa pA,.bool pB,.slice aE pC.length zH] 38 0 true)]] F152 L F nx0) 2 (fun r=>dq EV Tryz.f56 L F nx0 (fun v S' F'=> ∃(ra1:Option Addr) (rz2:Nat) (rB4:Seg) (ra5:Option Addr) (rz6:Nat) (rB8:Seg),FLe F F'∧v= .agg #[.slice ra1 r.1.length rz2,.slice ra5 r.2.1.length rz6,.int .i64 r.2.2.1,.int .i64 r.2.2.2]∧S'= [rB4,rB8]∧Own bs F' ra1 rz2 r.1 rB4∧Own (elI .i64 3) F' ra5 rz6 r.2.1 rB8)) (hS.subR rfl) ?_ ?_)
 clear hS
 rintro x191 s hS o192' h194
 unfold g_i.b1 at h194
 refine WW.seq (WW.seq ?_)
 refine WW.region (sg0 hS 2 [] [120] [.bool (decide (x191.2.2<5))] [] (by kernel_rfl) fun s hS=>?_)
 refine KW.nil (bc h194 (fun hc195 h194=>?_) fun hc195 h194=>?_)
 refine WW.condK hS rfl hc195 (WW.skip ?_)
 obtain⟨z196,hz196,h194⟩:=bind_some h194
 refine WW.seqJ (fun s=> ∃(z197:Int×Int),z196= .inl z197∧Stt EV s [(1,.pointer (some ⟨i1,0,none⟩)),(2,.pointer (some ⟨i2,0,none⟩)),(3,.pointer (some ⟨i3,0,none⟩)),(4,.pointer (some ⟨i4,0,none⟩)),(5,.bool z151.1),(6,.int .i64 x5.2.1),(7,.int .i64 x5.2.2.1),(8,.int .i64 x5.2.2.2.1),(9,aa z54),(10,.int .i64 z197.1),(11,.int .i64 z197.2),(12,.int .i64 x191.2.2)] [B19,B160,[(i4,.row [.int .i64 z151.2.1,aa z151.2.2.1,.slice a154 z151.2.2.2.1.length z155] 61 0 true)],[(i3,.row [.slice a157 z151.2.2.2.2.length z158,.slice a16 x5.2.2.2.2.2.2.2.2.length z17,.int .i64 0,.int .i64 0] 55 0 true)],[(i2,.row [.slice none 0 0,.slice none 0 0,.int .i64 0,.int .i64 0] 55 0 true)],[(i1,.row [aa pA,.bool pB,.slice aE pC.length zH] 38 0 true)]] F152 L F nx0) ?_ ?_
 refine WW.block (WW.seq ?_)
 refine WW.region (sg0 hS 2 [] [123,124] [aa z54,.int .i64 x191.2.2] [] (by kernel_rfl) fun s hS=>?_)
 obtain⟨hk198,hz196⟩:=ac hz196
 refine am hS (wn rfl) rfl rfl rfl (v:=vB (gt z54 x191.2.2)) (aA tu9 (hS.lk rfl) (hS.lk rfl) hk198) fun s hS=>?_
 obtain⟨y199,hy199,hz196⟩:=bind_some hz196
 refine cR (g_l.ok hy199) hS 0 126 0 rfl (by kernel_rfl) fun s hS=>(KW.nil ?_)
 refine bc hz196 (fun hc201 hz196=>?_) fun hc201 hz196=>?_
 refine WW.condK hS rfl hc201 (WW.region ?_)
 refine sg0 hS 4 [] [128,129,130] [.int .i64 (w64 (10*x191.1)),aa z54,.int .i64 x191.2.2] [] (by kernel_rfl) fun s hS=>?_
 obtain⟨hk202,hz196⟩:=ac hz196
 refine am hS (wn rfl) rfl rfl rfl (v:=vB (gt z54 x191.2.2)) (aA tu9 (hS.lk rfl) (hS.lk rfl) hk202) fun s hS=>(am hS (wn rfl) rfl rfl rfl (v:=vB ((gt z54 x191.2.2)-48)) (fi (hS.lk rfl) (hS.lk rfl)) fun s hS=>?_)
 refine am hS (wn rfl) rfl rfl (ic hS rfl rfl) (v:= .int .i64 (IntKind.i64.wrap (((gt z54 x191.2.2)-48).toNat:Int))) (fj (hS.lk rfl) tu5 tu3) fun s hS=>(sg0 hS 5 [] [10,11] [.int .i64 (w64 ((w64 (10*x191.1))+(IntKind.i64.wrap (((gt z54 x191.2.2)-48).toNat:Int)))),.int .i64 (w64 (x191.2.1+1))] [] (by kernel_rfl) fun s hS=>?_)
 refine KW.nil ?_
 obtain rfl:=Option.some.inj hz196
 exact⟨_,rfl,(hS.subR rfl)⟩
 refine WW.condF hS rfl hc201 (WW.seq ?_)
 refine WW.region (sg0 hS 2 [] [137,138] [aa z54,.int .i64 x191.2.2] [] (by kernel_rfl) fun s hS=>?_)
 obtain⟨hk203,hz196⟩:=ac hz196
 refine am hS (wn rfl) rfl rfl rfl (v:=vB (gt z54 x191.2.2)) (aA tu9 (hS.lk rfl) (hS.lk rfl) hk203) fun s hS=>(sg0 hS 1 [] [140] [.bool (((gt z54 x191.2.2).toNat:Int) != ((32:UInt8).toNat:Int))] [] (by kernel_rfl) fun s hS=>?_)
 refine KW.nil (bc hz196 (fun hc204 hz196=>?_) fun hc204 hz196=>?_)
 refine WW.condK hS rfl hc204 (WW.seq ?_)
 refine WW.region ?_
 obtain⟨y205,hy205,hz196⟩:=bind_some hz196
 refine cK (g_o.ok hy205) hS 1 142 0 rfl (by kernel_rfl) fun s v S' F' hp206 hF hS=>?_
 obtain⟨a207,z208,B210,a211,z212,B214,rfl,rfl,rfl,h209,h213⟩:=hp206
 refine sg hS 1 [6] [] [] [i2] [B210,B214,B19,B160,[(i4,.row [.int .i64 z151.2.1,aa z151.2.2.1,.slice a154 z151.2.2.2.1.length z155] 61 0 true)],[(i3,.row [.slice a157 z151.2.2.2.2.length z158,.slice a16 x5.2.2.2.2.2.2.2.2.length z17,.int .i64 0,.int .i64 0] 55 0 true)],[(i2,.row [.slice a207 y205.1.length z208,.slice a211 y205.2.1.length z212,.int .i64 y205.2.2.1,.int .i64 y205.2.2.2] 55 0 true)],[(i1,.row [aa pA,.bool pB,.slice aE pC.length zH] 38 0 true)]] (by kernel_rfl) fun s hS=>(KW.nil ?_)
 refine WW.ret ?_
 obtain rfl:=Option.some.inj hz196
 replace h194:=aj h194
 have hres:=(aL hS (t:=2) (ty:=55) rfl (p:=6) rfl ee ef (ws:=[.slice a207 y205.1.length z208,.slice a211 y205.2.1.length z212,.int .i64 y205.2.2.1,.int .i64 y205.2.2.2]) rfl (aw (E:=EV) (s:=s)))
 replace hS:=(hS.pull 2).drop
 replace hS:=(hS.pull 2).drop
 replace hS:=(hS.pull 2).drop
 replace hS:=(hS.pull 2).drop
 replace hS:=(hS.pull 2).drop
 replace hS:=(hS.pull 2).drop
 cases h194
 exact⟨_,rfl,rfl,fin hS (.inr rfl) hres (v:= .agg #[.slice a207 y205.1.length z208,.slice a211 y205.2.1.length z212,.int .i64 y205.2.2.1,.int .i64 y205.2.2.2]) rfl ⟨_,_,_,_,_,_,((FLe.trans hF7 hF153)),rfl,rfl,h209,h213⟩⟩
 refine WW.condF hS rfl hc204 (WW.skip ?_)
 obtain rfl:=Option.some.inj hz196
 exact⟨_,rfl,(hS.subR rfl)⟩
 rintro s ⟨z197,rfl,hS⟩
 replace h194:=aB h194
 refine WW.region (sg0 hS 3 [] [12] [.int .i64 (w64 (x191.2.2+1))] [] (by kernel_rfl) fun s hS=>?_)
 refine KW.nil ?_
 obtain rfl:=Option.some.inj h194
 exact⟨_,rfl,(hS.subR rfl)⟩
 refine WW.condF hS rfl hc195 (WW.exit ?_)
 refine af ?_
 obtain rfl:=Option.some.inj h194
 exact⟨_,rfl,rfl,(hS.subR rfl)⟩
 clear hS
 rcases o192 with y215 | y215
 rintro e s ⟨rfl,hS⟩
 replace hz37:=f5 hz37
 refine ah (WW.seq ?_)
 refine WW.seq (WW.region ?_)
 refine sg0 hS 3 [] [145] [.bool (decide (y215.2.1>0))] [] (by kernel_rfl) fun s hS=>(aH 3 (fun s=>Stt EV s [(148,.bool ((decide (y215.2.1>0))&&(y215.1==0))),(1,.pointer (some ⟨i1,0,none⟩)),(2,.pointer (some ⟨i2,0,none⟩)),(3,.pointer (some ⟨i3,0,none⟩)),(4,.pointer (some ⟨i4,0,none⟩)),(5,.bool z151.1),(6,.int .i64 x5.2.1),(7,.int .i64 x5.2.2.1),(8,.int .i64 x5.2.2.2.1),(9,aa z54),(10,.int .i64 y215.1)] [B19,B160,[(i4,.row [.int .i64 z151.2.1,aa z151.2.2.1,.slice a154 z151.2.2.2.1.length z155] 61 0 true)],[(i3,.row [.slice a157 z151.2.2.2.2.length z158,.slice a16 x5.2.2.2.2.2.2.2.2.length z17,.int .i64 0,.int .i64 0] 55 0 true)],[(i2,.row [.slice none 0 0,.slice none 0 0,.int .i64 0,.int .i64 0] 55 0 true)],[(i1,.row [aa pA,.bool pB,.slice aE pC.length zH] 38 0 true)]] F152 L F nx0) ?_ fun s hS=>?_)
 rcases ax ((decide (y215.2.1>0))) with hcj | hcj
 replace hS:=hS.know (t:=145) rfl (congrArg Value.bool hcj)
 refine sg0 hS 3 [] [148] [.bool (y215.1==0)] [] (by kernel_rfl) fun s hS=>(KW.nil ?_)
 exact(hS.know (t:=148) (u':= .bool ((decide (y215.2.1>0))&&(y215.1==0))) rfl (bw hcj)).subR rfl
 replace hS:=hS.know (t:=145) rfl (congrArg Value.bool hcj)
 refine sg0 hS 3 [] [148] [.bool false] [] (by kernel_rfl) fun s hS=>(KW.nil ?_)
 exact(hS.know (t:=148) (u':= .bool ((decide (y215.2.1>0))&&(y215.1==0))) rfl (bx hcj)).subR rfl
 refine KW.nil (bc hz37 (fun hc216 hz37=>?_) fun hc216 hz37=>?_)
 refine WW.condK hS rfl hc216 (WW.seq ?_)
 refine WW.region ?_
 obtain⟨y217,hy217,hz37⟩:=bind_some hz37
 refine cK (g_o.ok hy217) hS 1 150 0 rfl (by kernel_rfl) fun s v S' F' hp218 hF hS=>?_
 obtain⟨a219,z220,B222,a223,z224,B226,rfl,rfl,rfl,h221,h225⟩:=hp218
 refine sg hS 1 [6] [] [] [i2] [B222,B226,B19,B160,[(i4,.row [.int .i64 z151.2.1,aa z151.2.2.1,.slice a154 z151.2.2.2.1.length z155] 61 0 true)],[(i3,.row [.slice a157 z151.2.2.2.2.length z158,.slice a16 x5.2.2.2.2.2.2.2.2.length z17,.int .i64 0,.int .i64 0] 55 0 true)],[(i2,.row [.slice a219 y217.1.length z220,.slice a223 y217.2.1.length z224,.int .i64 y217.2.2.1,.int .i64 y217.2.2.2] 55 0 true)],[(i1,.row [aa pA,.bool pB,.slice aE pC.length zH] 38 0 true)]] (by kernel_rfl) fun s hS=>(KW.nil ?_)
 refine WW.ret ?_
 obtain rfl:=Option.some.inj hz37
 replace h35:=aj h35
 have hres:=(aL hS (t:=2) (ty:=55) rfl (p:=6) rfl ee ef (ws:=[.slice a219 y217.1.length z220,.slice a223 y217.2.1.length z224,.int .i64 y217.2.2.1,.int .i64 y217.2.2.2]) rfl (aw (E:=EV) (s:=s)))
 replace hS:=(hS.pull 2).drop
 replace hS:=(hS.pull 2).drop
 replace hS:=(hS.pull 2).drop
 replace hS:=(hS.pull 2).drop
 replace hS:=(hS.pull 2).drop
 replace hS:=(hS.pull 2).drop
 cases h35
 exact⟨_,rfl,rfl,fin hS (.inr rfl) hres (v:= .agg #[.slice a219 y217.1.length z220,.slice a223 y217.2.1.length z224,.int .i64 y217.2.2.1,.int .i64 y217.2.2.2]) rfl ⟨_,_,_,_,_,_,((FLe.trans hF7 hF153)),rfl,rfl,h221,h225⟩⟩
 refine WW.condF hS rfl hc216 (WW.skip ?_)
 refine WW.seq (WW.region ?_)
 refine sg0 hS 2 [3] [152] [.slice a16 x5.2.2.2.2.2.2.2.2.length z17] [i3] (by kernel_rfl) fun s hS=>(bf hS (wn rfl) rfl rfl rfl (v:=fun i=> .slice (some ⟨i,0,none⟩) 1 1) (b:= .row [.int .i64 1] 3 1 true) (be ko tz3 km rfl [(0,.int .i64 1)] (ar hS rfl) rfl) fun s i227 hS=>?_)
 have hC228:au (elI .i64 3) F152 ([1]:List Int) [.int .i64 1]:=⟨[.int .i64 1],[],rfl,rfl,rfl⟩
 obtain⟨hk232,hz37⟩:=ac hz37
 refine eb hS (wn rfl) (dd:=(elI .i64 3)) (lst:=x5.2.2.2.2.2.2.2.2) (m:=([1]:List Int)) rfl rfl cZ rfl rfl (h18.mono hF153) (Nat.succ_pos _) hC228 hk232 fun s i229 cs230 hC231 hS=>(sg hS 2 [3] [] [] [i3] [[(i229,.row cs230 3 1 true)],B160,[(i4,.row [.int .i64 z151.2.1,aa z151.2.2.1,.slice a154 z151.2.2.2.1.length z155] 61 0 true)],[(i3,.row [.slice a157 z151.2.2.2.2.length z158,.slice (some ⟨i229,0,none⟩) (x5.2.2.2.2.2.2.2.2++([1]:List Int)).length 1,.int .i64 0,.int .i64 0] 55 0 true)],[(i2,.row [.slice none 0 0,.slice none 0 0,.int .i64 0,.int .i64 0] 55 0 true)],[(i1,.row [aa pA,.bool pB,.slice aE pC.length zH] 38 0 true)]] (by kernel_rfl) fun s hS=>?_)
 refine KW.nil (WW.seq ?_)
 refine WW.region (sg0 hS 4 [] [5,6,7] [.bool true,.int .i64 x5.2.2.2.1,.int .i64 0] [] (by kernel_rfl) fun s hS=>?_)
 refine KW.nil (WW.region ?_)
 refine sg0 hS 1 [] [157] [.int .i64 y215.1] [] (by kernel_rfl) fun s hS=>(am hS (wn rfl) rfl rfl rfl (v:= .agg #[.int .i64 y215.1,aa ([]),.slice none 0 0]) (bp ed tp61 [(0,.int .i64 y215.1)] (ar hS rfl) (cs:=[.int .i64 y215.1,aa ([]),.slice none 0 0]) rfl) fun s hS=>?_)
 replace hS:=hS.gap0
 obtain⟨y233,hy233,hz37⟩:=bind_some hz37
 refine cK (g_g.ok hy233 Own.nil) hS 2 161 1 rfl (by kernel_rfl) fun s v S' F' hp234 hF hS=>?_
 obtain⟨a235,z236,B238,rfl,rfl,rfl,h237⟩:=hp234
 refine sg hS 1 [3] [] [] [i4] [B238,[(i229,.row cs230 3 1 true)],B160,[(i4,.row [.int .i64 y233.1,aa y233.2.1,.slice a235 y233.2.2.length z236] 61 0 true)],[(i3,.row [.slice a157 z151.2.2.2.2.length z158,.slice (some ⟨i229,0,none⟩) (x5.2.2.2.2.2.2.2.2++([1]:List Int)).length 1,.int .i64 0,.int .i64 0] 55 0 true)],[(i2,.row [.slice none 0 0,.slice none 0 0,.int .i64 0,.int .i64 0] 55 0 true)],[(i1,.row [aa pA,.bool pB,.slice aE pC.length zH] 38 0 true)]] (by kernel_rfl) fun s hS=>(KW.nil ?_)
 replace hS:=hS.pull 6
 replace hS:=hS.pull 6
 replace hS:=hS.pull 6
 replace hS:=hS.pull 6
 replace hS:=hS.pull 4
 replace hS:=hS.pull 6
 replace hS:=hS.pull 6
 obtain rfl:=Option.some.inj hz37
 exact⟨_,rfl,_,_,_,_,_,_,_,_,_,_,(hS.subR rfl),(Own.blk0 hC231),h237,h159,hF153⟩
 rintro e s ⟨rfl,hfin⟩
 replace hz37:=f7 hz37
 obtain rfl:=Option.some.inj hz37
 replace h35:=aj h35
 obtain rfl:=Option.some.inj h35
 exact⟨_,rfl,rfl,hfin⟩
 rintro s ⟨z38,rfl,a41,z42,B44,a45,z46,B48,a49,z50,B52,F39,hS,h43,h47,h51,hF40⟩
 replace h35:=aB h35
 refine WW.region (sg0 hS 3 [] [8] [.int .i64 (w64 (x5.2.2.2.1+1))] [] (by kernel_rfl) fun s hS=>?_)
 refine KW.nil ?_
 obtain rfl:=Option.some.inj h35
 exact⟨_,rfl,_,_,_,_,_,_,_,_,_,_,(hS.subR rfl),h47,h51,h43,(FLe.trans hF7 hF40)⟩
 refine WW.condF hS rfl hc36 (WW.exit ?_)
 refine af ?_
 replace hS:=hS.pull 2
 obtain⟨F239,hF240,hS,hz241⟩:=hS.frzO h10
 obtain rfl:=Option.some.inj h35
 exact⟨_,rfl,rfl,_,_,_,_,_,_,_,_,_,(hS.subR rfl),hz241,(h14.mono hF240),(h18.mono hF240),(FLe.trans hF7 hF240)⟩
 clear hS
 rcases o20 with y242 | y242
 rintro e s ⟨rfl,a245,z246,a248,z249,B251,a252,z253,B255,F243,hS,h247,h250,h254,hF244⟩
 replace h:=aB h
 refine ah (WW.seq ?_)
 refine WW.region (sg hS 2 [3,4] [] [] [i3,i2] [B255,B251,[(i4,.row [.int .i64 y242.2.2.2.2.1,aa y242.2.2.2.2.2.1,.slice a245 y242.2.2.2.2.2.2.1.length z246] 61 0 true)],[(i3,.row [.slice a248 y242.2.2.2.2.2.2.2.1.length z249,.slice a252 y242.2.2.2.2.2.2.2.2.length z253,.int .i64 0,.int .i64 0] 55 0 true)],[(i2,.row [.slice a248 y242.2.2.2.2.2.2.2.1.length z249,.slice a252 y242.2.2.2.2.2.2.2.2.length z253,.int .i64 0,.int .i64 0] 55 0 true)],[(i1,.row [aa pA,.bool pB,.slice aE pC.length zH] 38 0 true)]] (by kernel_rfl) fun s hS=>?_)
 refine KW.nil (WW.ret ?_)
 have hres:=(aL hS (t:=2) (ty:=55) rfl (p:=4) rfl ee ef (ws:=[.slice a248 y242.2.2.2.2.2.2.2.1.length z249,.slice a252 y242.2.2.2.2.2.2.2.2.length z253,.int .i64 0,.int .i64 0]) rfl (aw (E:=EV) (s:=s)))
 replace hS:=(hS.pull 2).drop
 replace hS:=(hS.pull 2).drop
 replace hS:=(hS.pull 2).drop
 replace hS:=(hS.pull 2).drop
 replace hS:=hS.pull 1
 cases h
 exact fin hS (.inr rfl) hres (v:= .agg #[.slice a248 y242.2.2.2.2.2.2.2.1.length z249,.slice a252 y242.2.2.2.2.2.2.2.2.length z253,.int .i64 0,.int .i64 0]) rfl ⟨_,_,_,_,_,_,(hF244),rfl,rfl,h250,h254⟩
 rintro e s ⟨rfl,hfin⟩
 replace h:=aj h
 obtain rfl:=Option.some.inj h
 exact hfin
noncomputable def g_c.f (pA:List UInt8) (pB:Bool) (pC:List (List UInt8)):Option ((List (Int×List UInt8×(List (Int×Int×Int))))×List Int×Int×Int) :=
  Option.bind (g_8.f pA pB pC) fun y3=>(if(y3.2 != 0) then some (([]:List (Int×List UInt8×(List (Int×Int×Int)))),([]:List Int),y3.1,y3.2) else(if pB then Option.bind (g_j.f pC) fun y7=>some (y7.1,y7.2.1,y7.2.2.1,y7.2.2.2) else Option.bind (g_i.f pC) fun y19=>some (y19.1,y19.2.1,y19.2.2.1,y19.2.2.2)))
theorem g_c.ok {aE:Option Addr} {zH:Nat} {pA:List UInt8} {pB:Bool} {pC:List (List UInt8)} {F:FZ} {r:(List (Int×List UInt8×(List (Int×Int×Int))))×List Int×Int×Int} (h:g_c.f pA pB pC=some r) (hI:Frz (elS 9) F aE zH pC) :
    Cl EV 25 [.agg #[aa pA,.bool pB,.slice aE pC.length zH]] [] F (fun v S' F'=> ∃(ra1:Option Addr) (rz2:Nat) (rB4:Seg) (ra5:Option Addr) (rz6:Nat) (rB8:Seg),FLe F F'∧v= .agg #[.slice ra1 r.1.length rz2,.slice ra5 r.2.1.length rz6,.int .i64 r.2.2.1,.int .i64 r.2.2.2]∧S'= [rB4,rB8]∧Own bs F' ra1 rz2 r.1 rB4∧Own (elI .i64 3) F' ra5 rz6 r.2.1 rB8):=by
 refine Cl.of Tryz.func25 rfl (fun _ _=>rfl) (by kernel_rfl) fun s L nx0 hS=>?_
 unfold g_c.f at h
 refine WW.seq (WW.region ?_)
 refine bf hS (wn rfl) rfl rfl rfl (v:=fun i=> .pointer (some ⟨i,0,none⟩)) (b:= .row [aa pA,.bool pB,.slice aE pC.length zH] 38 0 true) (br (hS.lk rfl) rfl [aa pA,.bool pB,.slice aE pC.length zH] rfl) fun s i1 hS=>(bf hS (wn rfl) rfl rfl rfl (v:=fun i=> .pointer (some ⟨i,0,none⟩)) (b:= .row [.slice none 0 0,.slice none 0 0,.int .i64 0,.int .i64 0] 55 0 true) (aU eU) fun s i2 hS=>?_)
 refine KW.nil (WW.seq ?_)
 refine WW.seq (WW.region ?_)
 refine sg0 hS 1 [1] [6] [.agg #[aa pA,.bool pB,.slice aE pC.length zH]] [i1] (by kernel_rfl) fun s hS=>?_
 obtain⟨y3,hy3,h⟩:=bind_some h
 refine bE hS (wn rfl) (vs:=[.agg #[aa pA,.bool pB,.slice aE pC.length zH]]) (ws:=[.agg #[aa pA,.bool pB,.slice aE pC.length zH]]) rfl rfl rfl rfl rfl 0 rfl (g_8.ok hy3 hI) fun s v S' F' hp4 hF hS=>?_
 obtain⟨rfl,rfl,rfl⟩:=hp4
 refine sg0 hS 5 [] [3,4] [.int .i64 y3.1,.int .i64 y3.2] [] (by kernel_rfl) fun s hS=>(KW.nil ?_)
 refine WW.seq (WW.region ?_)
 refine sg0 hS 2 [] [11] [.bool (y3.2 != 0)] [] (by kernel_rfl) fun s hS=>(KW.nil ?_)
 refine bc h (fun hc5 h=>?_) fun hc5 h=>?_
 refine WW.condK hS rfl hc5 (WW.seq ?_)
 refine WW.region (sg0 hS 2 [] [12,13] [.int .i64 y3.1,.int .i64 y3.2] [] (by kernel_rfl) fun s hS=>?_)
 refine am hS (wn rfl) rfl rfl rfl (v:= .agg #[.slice none 0 0,.slice none 0 0,.int .i64 y3.1,.int .i64 y3.2]) (bp eU tp55 [(2,.int .i64 y3.1),(3,.int .i64 y3.2)] (ar hS rfl) (cs:=[.slice none 0 0,.slice none 0 0,.int .i64 y3.1,.int .i64 y3.2]) rfl) fun s hS=>(sg hS 1 [0] [] [] [i2] [[(i2,.row [.slice none 0 0,.slice none 0 0,.int .i64 y3.1,.int .i64 y3.2] 55 0 true)],[(i1,.row [aa pA,.bool pB,.slice aE pC.length zH] 38 0 true)]] (by kernel_rfl) fun s hS=>?_)
 refine KW.nil (WW.ret ?_)
 replace hS:=hS.gap0
 replace hS:=hS.gap0
 have hres:=(aL hS (t:=2) (ty:=55) rfl (p:=2) rfl ee ef (ws:=[.slice none ([]:List (Int×List UInt8×(List (Int×Int×Int)))).length 0,.slice none ([]:List Int).length 0,.int .i64 y3.1,.int .i64 y3.2]) rfl (aw (E:=EV) (s:=s)))
 replace hS:=(hS.pull 2).drop
 replace hS:=(hS.pull 2).drop
 replace hS:=hS.pull 1
 cases h
 exact fin hS (.inr rfl) hres (v:= .agg #[.slice none ([]:List (Int×List UInt8×(List (Int×Int×Int)))).length 0,.slice none ([]:List Int).length 0,.int .i64 y3.1,.int .i64 y3.2]) rfl ⟨_,_,_,_,_,_,(FLe.refl _),rfl,rfl,Own.nil,Own.nil⟩
 refine WW.condF hS rfl hc5 (WW.skip ?_)
 refine WW.seq (WW.seq ?_)
 refine WW.region (sg0 hS 2 [1] [16] [.bool pB] [i1] (by kernel_rfl) fun s hS=>?_)
 refine KW.nil (bc h (fun hc6 h=>?_) fun hc6 h=>?_)
 refine WW.condK hS rfl hc6 (WW.seq ?_)
 refine WW.region (sg0 hS 1 [1] [17] [.agg #[aa pA,.bool pB,.slice aE pC.length zH]] [i1] (by kernel_rfl) fun s hS=>?_)
 obtain⟨y7,hy7,h⟩:=bind_some h
 refine bE hS (wn rfl) (vs:=[.agg #[aa pA,.bool pB,.slice aE pC.length zH]]) (ws:=[.agg #[aa pA,.bool pB,.slice aE pC.length zH]]) rfl rfl rfl rfl rfl 0 rfl (g_j.ok hy7 hI) fun s v S' F9 hp8 hF hS=>?_
 obtain⟨a10,z11,B13,a14,z15,B17,hF18,rfl,rfl,h12,h16⟩:=hp8
 refine sg hS 1 [2] [] [] [i2] [B13,B17,[(i2,.row [.slice a10 y7.1.length z11,.slice a14 y7.2.1.length z15,.int .i64 y7.2.2.1,.int .i64 y7.2.2.2] 55 0 true)],[(i1,.row [aa pA,.bool pB,.slice aE pC.length zH] 38 0 true)]] (by kernel_rfl) fun s hS=>(KW.nil ?_)
 refine WW.ret ?_
 have hres:=(aL hS (t:=2) (ty:=55) rfl (p:=2) rfl ee ef (ws:=[.slice a10 y7.1.length z11,.slice a14 y7.2.1.length z15,.int .i64 y7.2.2.1,.int .i64 y7.2.2.2]) rfl (aw (E:=EV) (s:=s)))
 replace hS:=(hS.pull 2).drop
 replace hS:=(hS.pull 2).drop
 cases h
 exact fin hS (.inr rfl) hres (v:= .agg #[.slice a10 y7.1.length z11,.slice a14 y7.2.1.length z15,.int .i64 y7.2.2.1,.int .i64 y7.2.2.2]) rfl ⟨_,_,_,_,_,_,(hF18),rfl,rfl,h12,h16⟩
 refine WW.condF hS rfl hc6 (WW.skip ?_)
 refine WW.seq (WW.region ?_)
 refine sg0 hS 1 [1] [19] [.agg #[aa pA,.bool pB,.slice aE pC.length zH]] [i1] (by kernel_rfl) fun s hS=>?_
 obtain⟨y19,hy19,h⟩:=bind_some h
 refine bE hS (wn rfl) (vs:=[.agg #[aa pA,.bool pB,.slice aE pC.length zH]]) (ws:=[.agg #[aa pA,.bool pB,.slice aE pC.length zH]]) rfl rfl rfl rfl rfl 0 rfl (g_i.ok hy19 hI) fun s v S' F21 hp20 hF hS=>?_
 obtain⟨a22,z23,B25,a26,z27,B29,hF30,rfl,rfl,h24,h28⟩:=hp20
 refine sg hS 1 [2] [] [] [i2] [B25,B29,[(i2,.row [.slice a22 y19.1.length z23,.slice a26 y19.2.1.length z27,.int .i64 y19.2.2.1,.int .i64 y19.2.2.2] 55 0 true)],[(i1,.row [aa pA,.bool pB,.slice aE pC.length zH] 38 0 true)]] (by kernel_rfl) fun s hS=>(KW.nil ?_)
 refine WW.ret ?_
 have hres:=(aL hS (t:=2) (ty:=55) rfl (p:=2) rfl ee ef (ws:=[.slice a22 y19.1.length z23,.slice a26 y19.2.1.length z27,.int .i64 y19.2.2.1,.int .i64 y19.2.2.2]) rfl (aw (E:=EV) (s:=s)))
 replace hS:=(hS.pull 2).drop
 replace hS:=(hS.pull 2).drop
 cases h
 exact fin hS (.inr rfl) hres (v:= .agg #[.slice a22 y19.1.length z23,.slice a26 y19.2.1.length z27,.int .i64 y19.2.2.1,.int .i64 y19.2.2.2]) rfl ⟨_,_,_,_,_,_,(hF30),rfl,rfl,h24,h28⟩
noncomputable def g_b.b0 (pA:List (Int×List UInt8×(List (Int×Int×Int)))) (pE:List (Int×List UInt8×(List (Int×Int×Int)))) (x2:Int):Option ((Int)⊕((Int)⊕(Bool))) :=
  (if(decide (x2<(pA.length:Int))) then(if 0≤x2∧x2<(pA.length:Int) then(if 0≤x2∧x2<(pE.length:Int) then(if(((gt pA x2).1) != ((gt pE x2).1)) then some (.inr (.inr false)) else(if 0≤x2∧x2<(pA.length:Int) then(if 0≤x2∧x2<(pE.length:Int) then(if(!decide (((gt pA x2).2.1)=((gt pE x2).2.1))) then some (.inr (.inr false)) else some (.inl (w64 (x2+1)))) else none) else none)) else none) else none) else some (.inr (.inl x2)))
noncomputable def g_b.f (pA:List (Int×List UInt8×(List (Int×Int×Int)))) (pE:List (Int×List UInt8×(List (Int×Int×Int)))):Option (Bool) :=
  (if((pA.length:Int) != (pE.length:Int)) then some false else Option.bind (iter (g_b.b0 pA pE) 0) fun o3=>bj o3 fun y53=>some true)
theorem g_b.ok {aC:Option Addr} {zD:Nat} {aI:Option Addr} {zJ:Nat} {pA:List (Int×List UInt8×(List (Int×Int×Int)))} {pE:List (Int×List UInt8×(List (Int×Int×Int)))} {F:FZ} {r:Bool} (h:g_b.f pA pE=some r) (hE:Frz bs F aC zD pA) (hK:Frz bs F aI zJ pE) :
    Cl EV 21 [.slice aC pA.length zD,.slice aI pE.length zJ] [] F (fun v S' F'=>F=F'∧v= .bool r∧S'= []):=by
 refine Cl.of Tryz.func21 rfl (fun _ _=>rfl) (by kernel_rfl) fun s L nx0 hS=>?_
 unfold g_b.f at h
 refine WW.seq (WW.region ?_)
 refine sg0 hS 1 [] [4] [.bool false] [] (by kernel_rfl) fun s hS=>(KW.nil ?_)
 refine WW.seq (WW.seq ?_)
 refine WW.region (sg0 hS 5 [] [10] [.bool ((pA.length:Int) != (pE.length:Int))] [] (by kernel_rfl) fun s hS=>?_)
 refine KW.nil (bc h (fun hc1 h=>?_) fun hc1 h=>?_)
 refine WW.condK hS rfl hc1 (WW.seq ?_)
 refine WW.region (sg0 hS 1 [] [4] [.bool false] [] (by kernel_rfl) fun s hS=>?_)
 refine KW.nil (WW.ret ?_)
 cases h
 exact aS hS (.inr rfl) 4 rfl rfl ⟨rfl,rfl,rfl⟩
 refine WW.condF hS rfl hc1 (WW.skip ?_)
 refine WW.seq (WW.seq ?_)
 refine WW.region (sg0 hS 1 [] [5] [.int .i64 0] [] (by kernel_rfl) fun s hS=>?_)
 refine KW.nil (WW.block ?_)
 obtain⟨o3,ho3,h⟩:=bind_some h
 refine WW.loop (LW.iterS ho3 (fun(x2:Int) s=>Stt EV s [(0,.slice aC pA.length zD),(1,.slice aI pE.length zJ),(4,.bool false),(5,.int .i64 x2)] [] F L F nx0) 0 (fun r=>dq EV Tryz.f21 L F nx0 (fun v S' F'=>F=F'∧v= .bool r∧S'= [])) (hS.subR rfl) ?_ ?_)
 clear hS
 rintro x2 s hS o3' h5
 unfold g_b.b0 at h5
 refine WW.seq (WW.seq ?_)
 refine WW.region (sg0 hS 4 [] [14] [.bool (decide (x2<(pA.length:Int)))] [] (by kernel_rfl) fun s hS=>?_)
 refine KW.nil (bc h5 (fun hc6 h5=>?_) fun hc6 h5=>?_)
 refine WW.condK hS rfl hc6 (WW.skip ?_)
 refine WW.seq (WW.block ?_)
 refine WW.seq (WW.regionD (i:=[[],[0],[],[],[],[4,3,2,1,0],[5,4,3,2,1,0],[4,3,2,1,0],[4,3,2,1,0],[4,3,2,1,0],[],[],[],[12],[],[],[],[16,15,14,13,12],[17,16,15,14,13,12],[16,15,14,13,12],[16,15,14,13,12],[16,15,14,13,12],[],[]]) (by kernel_rfl) ?_)
 have hq:=RS.start []
 refine kg hS hq 2 [17,18] [.slice aC pA.length zD,.int .i64 x2] (by kernel_rfl) fun s rs hS hq=>?_
 obtain⟨hk7,h5⟩:=ac h5
 obtain⟨i13,of14,rfl⟩:=Frz.addr hE (by omega)
 obtain⟨_,_,_,_,c8,hF15,hR9,hN10,hN11,hT12⟩:=Frz.at hE hk7 (m:=3) rfl
 obtain⟨a16,z17,rfl,hz18⟩:=hR9
 refine K.pu hS hq rfl (wn rfl) rfl rfl rfl (v:= .pointer (some ⟨i13,of14+(x2).toNat*3,none⟩)) (aW (hS.lk rfl) (hS.lk rfl) l3 hk7) fun s rs hS hq=>(K.pu hS hq rfl (wn rfl) rfl rfl rfl (v:= .pointer (some ⟨i13,of14+(x2).toNat*3+0,none⟩)) (cn (hS.lk rfl) rW rfl rfl) fun s rs hS hq=>?_)
 replace hq:=hq.more i13 rfl rfl rfl
 refine K.ld hS hq rfl (wn rfl) rfl rfl rfl (hS.fat hF15) tg3 (v:= .int .i64 ((gt pA x2).1)) (hN11 0 (by decide)) 0 rfl rfl fun s rs hS hq=>(kg hS hq 2 [22,23] [.slice aI pE.length zJ,.int .i64 x2] (by kernel_rfl) fun s rs hS hq=>?_)
 obtain⟨hk19,h5⟩:=ac h5
 obtain⟨i25,of26,rfl⟩:=Frz.addr hK (by omega)
 obtain⟨_,_,_,_,c20,hF27,hR21,hN22,hN23,hT24⟩:=Frz.at hK hk19 (m:=3) rfl
 obtain⟨a28,z29,rfl,hz30⟩:=hR21
 refine K.pu hS hq rfl (wn rfl) rfl rfl rfl (v:= .pointer (some ⟨i25,of26+(x2).toNat*3,none⟩)) (aW (hS.lk rfl) (hS.lk rfl) l3 hk19) fun s rs hS hq=>(K.pu hS hq rfl (wn rfl) rfl rfl rfl (v:= .pointer (some ⟨i25,of26+(x2).toNat*3+0,none⟩)) (cn (hS.lk rfl) rW rfl rfl) fun s rs hS hq=>?_)
 replace hq:=hq.more i25 rfl rfl rfl
 refine K.ld hS hq rfl (wn rfl) rfl rfl rfl (hS.fat hF27) tg3 (v:= .int .i64 ((gt pE x2).1)) (hN23 0 (by decide)) 1 rfl rfl fun s rs hS hq=>(kg hS hq 2 [28] [.bool (((gt pA x2).1) != ((gt pE x2).1))] (by kernel_rfl) fun s rs hS hq=>?_)
 refine bc h5 (fun hc31 h5=>?_) fun hc31 h5=>?_
 replace hS:=hS.kb 28 hc31 rfl
 refine kg hS hq 12 [40] [.bool true] (by kernel_rfl) fun s rs hS hq=>(KW.nil ?_)
 refine WW.condK hS rfl rfl (WW.seq ?_)
 refine WW.region (sg0 hS 1 [] [4] [.bool false] [] (by kernel_rfl) fun s hS=>?_)
 refine KW.nil (WW.ret ?_)
 cases h5
 exact⟨_,rfl,rfl,aS hS (.inr rfl) 4 rfl rfl ⟨rfl,rfl,rfl⟩⟩
 replace hS:=hS.kb 28 hc31 rfl
 refine kg hS hq 2 [29,30] [.slice (some ⟨i13,of14,none⟩) pA.length zD,.int .i64 x2] (by kernel_rfl) fun s rs hS hq=>?_
 obtain⟨hk32,h5⟩:=ac h5
 obtain⟨_,_,_,_,c33,hF38,hR34,hN35,hN36,hT37⟩:=Frz.at hE hk32 (m:=3) rfl
 obtain⟨a39,z40,rfl,hz41⟩:=hR34
 refine K.pu hS hq rfl (wt hS rfl rfl rfl rfl) rfl rfl rfl (v:= .pointer (some ⟨i13,of14+(x2).toNat*3,none⟩)) (aW (hS.lk rfl) (hS.lk rfl) l3 hk32) fun s rs hS hq=>(K.pu hS hq rfl (wt hS rfl rfl rfl rfl) rfl rfl rfl (v:= .pointer (some ⟨i13,of14+(x2).toNat*3+1,none⟩)) (cn (hS.lk rfl) rX rfl rfl) fun s rs hS hq=>?_)
 refine K.ld hS hq rfl (wt hS rfl rfl rfl rfl) rfl rfl rfl (hS.fat hF38) tg9 (v:=aa ((gt pA x2).2.1)) (hN36 1 (by decide)) 0 rfl rfl fun s rs hS hq=>(kg hS hq 2 [34,35] [.slice (some ⟨i25,of26,none⟩) pE.length zJ,.int .i64 x2] (by kernel_rfl) fun s rs hS hq=>?_)
 obtain⟨hk42,h5⟩:=ac h5
 obtain⟨_,_,_,_,c43,hF48,hR44,hN45,hN46,hT47⟩:=Frz.at hK hk42 (m:=3) rfl
 obtain⟨a49,z50,rfl,hz51⟩:=hR44
 refine K.pu hS hq rfl (wt hS rfl rfl rfl rfl) rfl rfl rfl (v:= .pointer (some ⟨i25,of26+(x2).toNat*3,none⟩)) (aW (hS.lk rfl) (hS.lk rfl) l3 hk42) fun s rs hS hq=>(K.pu hS hq rfl (wt hS rfl rfl rfl rfl) rfl rfl rfl (v:= .pointer (some ⟨i25,of26+(x2).toNat*3+1,none⟩)) (cn (hS.lk rfl) rX rfl rfl) fun s rs hS hq=>?_)
 refine K.ld hS hq rfl (wt hS rfl rfl rfl rfl) rfl rfl rfl (hS.fat hF48) tg9 (v:=aa ((gt pE x2).2.1)) (hN46 1 (by decide)) 1 rfl rfl fun s rs hS hq=>(K.pu hS hq rfl (wt hS rfl rfl rfl rfl) rfl rfl rfl (v:= .bool (!decide (((gt pA x2).2.1)=((gt pE x2).2.1)))) (lT (hS.lk rfl) (hS.lk rfl)) fun s rs hS hq=>?_)
 refine kg hS hq 1 [40] [.bool (!decide (((gt pA x2).2.1)=((gt pE x2).2.1)))] (by kernel_rfl) fun s rs hS hq=>(KW.nil ?_)
 refine bc h5 (fun hc52 h5=>?_) fun hc52 h5=>?_
 refine WW.condK hS rfl hc52 (WW.seq ?_)
 refine WW.region (sg0 hS 1 [] [4] [.bool false] [] (by kernel_rfl) fun s hS=>?_)
 refine KW.nil (WW.ret ?_)
 cases h5
 exact⟨_,rfl,rfl,aS hS (.inr rfl) 4 rfl rfl ⟨rfl,rfl,rfl⟩⟩
 refine WW.condF hS rfl hc52 (WW.skip ?_)
 refine WW.region (sg0 hS 3 [] [5] [.int .i64 (w64 (x2+1))] [] (by kernel_rfl) fun s hS=>?_)
 refine KW.nil ?_
 obtain rfl:=Option.some.inj h5
 exact⟨_,rfl,(hS.subR rfl)⟩
 refine WW.condF hS rfl hc6 (WW.exit ?_)
 refine af ?_
 obtain rfl:=Option.some.inj h5
 exact⟨_,rfl,rfl,(hS.subR rfl)⟩
 clear hS
 rcases o3 with y53 | y53
 rintro e s ⟨rfl,hS⟩
 replace h:=aB h
 refine ah (WW.seq ?_)
 refine WW.region (sg0 hS 1 [] [4] [.bool true] [] (by kernel_rfl) fun s hS=>?_)
 refine KW.nil (WW.ret ?_)
 cases h
 exact aS hS (.inr rfl) 4 rfl rfl ⟨rfl,rfl,rfl⟩
 rintro e s ⟨rfl,hfin⟩
 replace h:=aj h
 obtain rfl:=Option.some.inj h
 exact hfin
end Go.Proofs.YtjcbhbncncbdjaaGreatDoorAi
