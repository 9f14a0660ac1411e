import Derived.Test.YtjcbhbncncbdjaaGreatDoorApX1a
namespace Go.Proofs.YtjcbhbncncbdjaaGreatDoorAi
set_option maxHeartbeats 4000000
open Go Go.RowKit
set_option linter.unusedVariables false
set_option linter.unusedSimpArgs false
set_option maxRecDepth 100000
noncomputable def g_8.f (pA:List UInt8) (pB:Bool) (pC:List (List UInt8)):Option ((List (Int×List UInt8×(List (Int×Int×Int))))×Int×Int) :=
  Option.bind (g_z.f pA pB pC) fun y2=>(nr y2.1 ((if(y2.2.2 != 0) then some (([]:List (Int×List UInt8×(List (Int×Int×Int)))),y2.2.1,y2.2.2) else none)) fun x10=>(if(y2.2.2 != 0) then some (([]:List (Int×List UInt8×(List (Int×Int×Int)))),y2.2.1,y2.2.2) else some (x10.2.2,0,0)))
theorem g_8.ok {aE:Option Addr} {zH:Nat} {pA:List UInt8} {pB:Bool} {pC:List (List UInt8)} {F:FZ} {r:(List (Int×List UInt8×(List (Int×Int×Int))))×Int×Int} (h:g_8.f pA pB pC=some r) (hI:Frz (elS 9) F aE zH pC) :
    Cl EV 17 [.agg #[ac pA,.bool pB,.slice aE pC.length zH]] [] F (fun v S' F'=> ∃(ra1:Option Addr) (rz2:Nat) (rB4:Seg),FLe F F'∧v= .tuple #[.slice ra1 r.1.length rz2,.int .i64 r.2.1,.int .i64 r.2.2]∧S'= [rB4]∧Own cQ F' ra1 rz2 r.1 rB4):=by
 refine Cl.of Tryz.func17 rfl (fun _ _=>rfl) (by kernel_rfl) fun s L nx0 hS=>?_
 unfold g_8.f at h
 refine WW.seq (WW.region ?_)
 refine cP hS (wn rfl) rfl rfl rfl (v:=fun i=> .pointer (some ⟨i,0,none⟩)) (b:= .row [ac pA,.bool pB,.slice aE pC.length zH] 38 0 true) (cu (hS.lk rfl) rfl [ac pA,.bool pB,.slice aE pC.length zH] rfl) fun s i1 hS=>(sg0 hS 3 [] [2,3,4] [.slice none 0 0,.int .i64 0,.int .i64 0] [] (by kernel_rfl) fun s hS=>?_)
 refine KW.nil (WW.seq ?_)
 refine WW.region (sg0 hS 1 [0] [9] [.agg #[ac pA,.bool pB,.slice aE pC.length zH]] [i1] (by kernel_rfl) fun s hS=>?_)
 obtain⟨y2,hy2,h⟩:=bind_some h
 refine dF hS (wn rfl) (vs:=[.agg #[ac pA,.bool pB,.slice aE pC.length zH]]) (ws:=[.agg #[ac pA,.bool pB,.slice aE pC.length zH]]) rfl rfl rfl rfl rfl 0 rfl (g_z.ok hy2 hI) fun s v S' F4 hp3 hF hS=>?_
 obtain⟨v6,S7,hF5,rfl,rfl,ho8⟩:=hp3
 rcases ho8 with⟨hq9,rfl,rfl⟩ | ⟨x10,i11,a12,z13,a15,z16,B18,a19,z20,B22,hq9,rfl,rfl,h14,h17,h21⟩
 rw[hq9] at h; replace h:=iF h
 refine sg0 hS 7 [] [5,6,7] [.pointer none,.int .i64 y2.2.1,.int .i64 y2.2.2] [] (by kernel_rfl) fun s hS=>(KW.nil ?_)
 refine WW.seq (WW.seq ?_)
 refine WW.region (sg0 hS 2 [] [15] [.bool (y2.2.2 != 0)] [] (by kernel_rfl) fun s hS=>?_)
 refine KW.nil (bc h (fun hc23 h=>?_) fun hc23 h=>?_)
 refine WW.condK hS rfl hc23 (WW.seq ?_)
 refine WW.region (sg0 hS 5 [] [2,3,4] [.slice none 0 0,.int .i64 y2.2.1,.int .i64 y2.2.2] [] (by kernel_rfl) fun s hS=>?_)
 refine KW.nil (WW.ret ?_)
 replace hS:=hS.gap0
 have hres:=(ay hS (t:=2) (v:= .slice none ([]:List (Int×List UInt8×(List (Int×Int×Int)))).length 0) rfl (ay hS (t:=3) (v:= .int .i64 y2.2.1) rfl (ay hS (t:=4) (v:= .int .i64 y2.2.2) rfl (bj (E:=EV) (s:=s)))))
 replace hS:=(hS.pull 1).drop
 cases h
 exact fin hS (.inr rfl) hres (v:= .tuple #[.slice none ([]:List (Int×List UInt8×(List (Int×Int×Int)))).length 0,.int .i64 y2.2.1,.int .i64 y2.2.2]) rfl ⟨_,_,_,(hF5),rfl,rfl,Own.nil⟩
 refine WW.condF hS rfl hc23 (WW.skip ?_)
 refine WW.seq (WW.region ?_)
 refine sg0 hS 1 [] [18] [.pointer none] [] (by kernel_rfl) fun s hS=>?_
 exact nomatch h
 rw[hq9] at h; replace h:=iG h
 refine sg0 hS 7 [] [5,6,7] [.pointer (some ⟨i11,0,none⟩),.int .i64 y2.2.1,.int .i64 y2.2.2] [] (by kernel_rfl) fun s hS=>(KW.nil ?_)
 refine WW.seq (WW.seq ?_)
 refine WW.region (sg0 hS 2 [] [15] [.bool (y2.2.2 != 0)] [] (by kernel_rfl) fun s hS=>?_)
 refine KW.nil (bc h (fun hc24 h=>?_) fun hc24 h=>?_)
 refine WW.condK hS rfl hc24 (WW.seq ?_)
 refine WW.region (sg0 hS 5 [] [2,3,4] [.slice none 0 0,.int .i64 y2.2.1,.int .i64 y2.2.2] [] (by kernel_rfl) fun s hS=>?_)
 refine KW.nil (WW.ret ?_)
 replace hS:=hS.gap0
 have hres:=(ay hS (t:=2) (v:= .slice none ([]:List (Int×List UInt8×(List (Int×Int×Int)))).length 0) rfl (ay hS (t:=3) (v:= .int .i64 y2.2.1) rfl (ay hS (t:=4) (v:= .int .i64 y2.2.2) rfl (bj (E:=EV) (s:=s)))))
 replace hS:=(hS.pull 1).drop
 replace hS:=(hS.pull 1).drop
 replace hS:=(hS.pull 1).drop
 replace hS:=(hS.pull 1).drop
 cases h
 exact fin hS (.inr rfl) hres (v:= .tuple #[.slice none ([]:List (Int×List UInt8×(List (Int×Int×Int)))).length 0,.int .i64 y2.2.1,.int .i64 y2.2.2]) rfl ⟨_,_,_,(hF5),rfl,rfl,Own.nil⟩
 refine WW.condF hS rfl hc24 (WW.skip ?_)
 refine WW.seq (WW.region ?_)
 refine sg0 hS 7 [0] [2,3,4] [.slice a19 x10.2.2.length z20,.int .i64 0,.int .i64 0] [i11] (by kernel_rfl) fun s hS=>(KW.nil ?_)
 refine WW.ret ?_
 have hres:=(ay hS (t:=2) (v:= .slice a19 x10.2.2.length z20) rfl (ay hS (t:=3) (v:= .int .i64 0) rfl (ay hS (t:=4) (v:= .int .i64 0) rfl (bj (E:=EV) (s:=s)))))
 replace hS:=hS.drop
 replace hS:=hS.drop
 replace hS:=(hS.pull 1).drop
 cases h
 exact fin hS (.inr rfl) hres (v:= .tuple #[.slice a19 x10.2.2.length z20,.int .i64 0,.int .i64 0]) rfl ⟨_,_,_,(hF5),rfl,rfl,h21⟩
noncomputable def g_7.f (pA:List UInt8) (pB:Bool) (pC:List (List UInt8)):Option (List Int×Int×Int) :=
  Option.bind (g_z.f pA pB pC) fun y2=>(nr y2.1 ((if(y2.2.2 != 0) then some (([]:List Int),y2.2.1,y2.2.2) else none)) fun x10=>(if(y2.2.2 != 0) then some (([]:List Int),y2.2.1,y2.2.2) else some (x10.2.1,0,0)))
theorem g_7.ok {aE:Option Addr} {zH:Nat} {pA:List UInt8} {pB:Bool} {pC:List (List UInt8)} {F:FZ} {r:List Int×Int×Int} (h:g_7.f pA pB pC=some r) (hI:Frz (elS 9) F aE zH pC) :
    Cl EV 23 [.agg #[ac pA,.bool pB,.slice aE pC.length zH]] [] F (fun v S' F'=> ∃(ra1:Option Addr) (rz2:Nat) (rB4:Seg),FLe F F'∧v= .tuple #[.slice ra1 r.1.length rz2,.int .i64 r.2.1,.int .i64 r.2.2]∧S'= [rB4]∧Own (elI .i64 3) F' ra1 rz2 r.1 rB4):=by
 refine Cl.of Tryz.func23 rfl (fun _ _=>rfl) (by kernel_rfl) fun s L nx0 hS=>?_
 unfold g_7.f at h
 refine WW.seq (WW.region ?_)
 refine cP hS (wn rfl) rfl rfl rfl (v:=fun i=> .pointer (some ⟨i,0,none⟩)) (b:= .row [ac pA,.bool pB,.slice aE pC.length zH] 38 0 true) (cu (hS.lk rfl) rfl [ac pA,.bool pB,.slice aE pC.length zH] rfl) fun s i1 hS=>(sg0 hS 3 [] [2,3,4] [.slice none 0 0,.int .i64 0,.int .i64 0] [] (by kernel_rfl) fun s hS=>?_)
 refine KW.nil (WW.seq ?_)
 refine WW.region (sg0 hS 1 [0] [9] [.agg #[ac pA,.bool pB,.slice aE pC.length zH]] [i1] (by kernel_rfl) fun s hS=>?_)
 obtain⟨y2,hy2,h⟩:=bind_some h
 refine dF hS (wn rfl) (vs:=[.agg #[ac pA,.bool pB,.slice aE pC.length zH]]) (ws:=[.agg #[ac pA,.bool pB,.slice aE pC.length zH]]) rfl rfl rfl rfl rfl 0 rfl (g_z.ok hy2 hI) fun s v S' F4 hp3 hF hS=>?_
 obtain⟨v6,S7,hF5,rfl,rfl,ho8⟩:=hp3
 rcases ho8 with⟨hq9,rfl,rfl⟩ | ⟨x10,i11,a12,z13,a15,z16,B18,a19,z20,B22,hq9,rfl,rfl,h14,h17,h21⟩
 rw[hq9] at h; replace h:=iF h
 refine sg0 hS 7 [] [5,6,7] [.pointer none,.int .i64 y2.2.1,.int .i64 y2.2.2] [] (by kernel_rfl) fun s hS=>(KW.nil ?_)
 refine WW.seq (WW.seq ?_)
 refine WW.region (sg0 hS 2 [] [15] [.bool (y2.2.2 != 0)] [] (by kernel_rfl) fun s hS=>?_)
 refine KW.nil (bc h (fun hc23 h=>?_) fun hc23 h=>?_)
 refine WW.condK hS rfl hc23 (WW.seq ?_)
 refine WW.region (sg0 hS 5 [] [2,3,4] [.slice none 0 0,.int .i64 y2.2.1,.int .i64 y2.2.2] [] (by kernel_rfl) fun s hS=>?_)
 refine KW.nil (WW.ret ?_)
 replace hS:=hS.gap0
 have hres:=(ay hS (t:=2) (v:= .slice none ([]:List Int).length 0) rfl (ay hS (t:=3) (v:= .int .i64 y2.2.1) rfl (ay hS (t:=4) (v:= .int .i64 y2.2.2) rfl (bj (E:=EV) (s:=s)))))
 replace hS:=(hS.pull 1).drop
 cases h
 exact fin hS (.inr rfl) hres (v:= .tuple #[.slice none ([]:List Int).length 0,.int .i64 y2.2.1,.int .i64 y2.2.2]) rfl ⟨_,_,_,(hF5),rfl,rfl,Own.nil⟩
 refine WW.condF hS rfl hc23 (WW.skip ?_)
 refine WW.seq (WW.region ?_)
 refine sg0 hS 1 [] [18] [.pointer none] [] (by kernel_rfl) fun s hS=>?_
 exact nomatch h
 rw[hq9] at h; replace h:=iG h
 refine sg0 hS 7 [] [5,6,7] [.pointer (some ⟨i11,0,none⟩),.int .i64 y2.2.1,.int .i64 y2.2.2] [] (by kernel_rfl) fun s hS=>(KW.nil ?_)
 refine WW.seq (WW.seq ?_)
 refine WW.region (sg0 hS 2 [] [15] [.bool (y2.2.2 != 0)] [] (by kernel_rfl) fun s hS=>?_)
 refine KW.nil (bc h (fun hc24 h=>?_) fun hc24 h=>?_)
 refine WW.condK hS rfl hc24 (WW.seq ?_)
 refine WW.region (sg0 hS 5 [] [2,3,4] [.slice none 0 0,.int .i64 y2.2.1,.int .i64 y2.2.2] [] (by kernel_rfl) fun s hS=>?_)
 refine KW.nil (WW.ret ?_)
 replace hS:=hS.gap0
 have hres:=(ay hS (t:=2) (v:= .slice none ([]:List Int).length 0) rfl (ay hS (t:=3) (v:= .int .i64 y2.2.1) rfl (ay hS (t:=4) (v:= .int .i64 y2.2.2) rfl (bj (E:=EV) (s:=s)))))
 replace hS:=(hS.pull 1).drop
 replace hS:=(hS.pull 1).drop
 replace hS:=(hS.pull 1).drop
 replace hS:=(hS.pull 1).drop
 cases h
 exact fin hS (.inr rfl) hres (v:= .tuple #[.slice none ([]:List Int).length 0,.int .i64 y2.2.1,.int .i64 y2.2.2]) rfl ⟨_,_,_,(hF5),rfl,rfl,Own.nil⟩
 refine WW.condF hS rfl hc24 (WW.skip ?_)
 refine WW.seq (WW.region ?_)
 refine sg0 hS 7 [0] [2,3,4] [.slice a15 x10.2.1.length z16,.int .i64 0,.int .i64 0] [i11] (by kernel_rfl) fun s hS=>(KW.nil ?_)
 refine WW.ret ?_
 have hres:=(ay hS (t:=2) (v:= .slice a15 x10.2.1.length z16) rfl (ay hS (t:=3) (v:= .int .i64 0) rfl (ay hS (t:=4) (v:= .int .i64 0) rfl (bj (E:=EV) (s:=s)))))
 replace hS:=hS.drop
 replace hS:=(hS.pull 1).drop
 replace hS:=(hS.pull 1).drop
 cases h
 exact fin hS (.inr rfl) hres (v:= .tuple #[.slice a15 x10.2.1.length z16,.int .i64 0,.int .i64 0]) rfl ⟨_,_,_,(hF5),rfl,rfl,h17⟩
noncomputable def g_1.f (pA:Int) (pB:Int) (pC:Int):Option (Bool) :=
  some (!((decide (pA<pB))||(decide (pA>pC))))
theorem g_1.ok {pA:Int} {pB:Int} {pC:Int} {F:FZ} {r:Bool} (h:g_1.f pA pB pC=some r) :
    Cl EV 27 [.int .i64 pA,.int .i64 pB,.int .i64 pC] [] F (fun v S' F'=>F=F'∧v= .bool r∧S'= []):=by
 refine Cl.of Tryz.func27 rfl (fun _ _=>rfl) (by kernel_rfl) fun s L nx0 hS=>?_
 unfold g_1.f at h
 refine WW.seq (WW.region ?_)
 refine sg0 hS 1 [] [6] [.bool false] [] (by kernel_rfl) fun s hS=>(KW.nil ?_)
 refine WW.seq (WW.region ?_)
 refine sg0 hS 4 [] [10] [.bool (decide (pA<pB))] [] (by kernel_rfl) fun s hS=>(bg 4 (fun s=>Stt EV s [(14,.bool ((decide (pA<pB))||(decide (pA>pC)))),(6,.bool false)] [] F L F nx0) ?_ fun s hS=>?_)
 rcases aO ((decide (pA<pB))) with hcj | hcj
 replace hS:=hS.know (t:=10) rfl (congrArg Value.bool hcj)
 refine sg0 hS 4 [] [14] [.bool true] [] (by kernel_rfl) fun s hS=>(KW.nil ?_)
 exact(hS.know (t:=14) (u':= .bool ((decide (pA<pB))||(decide (pA>pC)))) rfl (dz hcj)).subR rfl
 replace hS:=hS.know (t:=10) rfl (congrArg Value.bool hcj)
 refine sg0 hS 4 [] [14] [.bool (decide (pA>pC))] [] (by kernel_rfl) fun s hS=>(KW.nil ?_)
 exact(hS.know (t:=14) (u':= .bool ((decide (pA<pB))||(decide (pA>pC)))) rfl (dA hcj)).subR rfl
 refine sg0 hS 2 [] [6] [.bool (!((decide (pA<pB))||(decide (pA>pC))))] [] (by kernel_rfl) fun s hS=>(KW.nil ?_)
 refine WW.ret ?_
 cases h
 exact aM hS (.inr rfl) 6 rfl rfl ⟨rfl,rfl,rfl⟩
noncomputable def g_3.b1 (pC:List (List UInt8)) (y17:(List (Int×List UInt8×(List (Int×Int×Int))))×Int×Int) (y34:List Int×Int×Int) (x46:Int×Int×Int×Int) (x97:Int×Int×Int×Int):Option ((Int×Int×Int×Int)⊕((Int×Int×Int×Int)⊕(Bool))) :=
  (if 0≤x46.1∧x46.1<(y17.1.length:Int) then(if(decide (x97.1<(((gt y17.1 x46.1).2.1).length:Int))) then(if 0≤x46.1∧x46.1<(y17.1.length:Int) then(if 0≤x97.1∧x97.1<(((gt y17.1 x46.1).2.2).length:Int) then Option.bind ((if(((gt ((gt y17.1 x46.1).2.2) x97.1).1) != 0) then some true else Option.bind (g_1.f ((gt ((gt y17.1 x46.1).2.2) x97.1).2.1) 0 (w64 ((pC.length:Int)-1))) fun y132=>some (!y132))) fun z130=>Option.bind ((if z130 then some true else(if 0≤((gt ((gt y17.1 x46.1).2.2) x97.1).2.1)∧((gt ((gt y17.1 x46.1).2.2) x97.1).2.1)<(y34.1.length:Int) then some ((gt y34.1 ((gt ((gt y17.1 x46.1).2.2) x97.1).2.1))==0) else none))) fun z134=>(if(((z134||(decide (((gt ((gt y17.1 x46.1).2.2) x97.1).2.2)<1)))||(decide (((gt ((gt y17.1 x46.1).2.2) x97.1).2.1)<x97.2.2.1)))||((((gt ((gt y17.1 x46.1).2.2) x97.1).2.1)==x97.2.2.1)&&(decide (((gt ((gt y17.1 x46.1).2.2) x97.1).2.2)≤x97.2.2.2)))) then some (.inr (.inr false)) else Option.bind ((if 0≤((gt ((gt y17.1 x46.1).2.2) x97.1).2.1)∧((gt ((gt y17.1 x46.1).2.2) x97.1).2.1)<(pC.length:Int) then(if(decide (((gt ((gt y17.1 x46.1).2.2) x97.1).2.2)≤((gt pC ((gt ((gt y17.1 x46.1).2.2) x97.1).2.1)).length:Int))) then(if 0≤((gt ((gt y17.1 x46.1).2.2) x97.1).2.1)∧((gt ((gt y17.1 x46.1).2.2) x97.1).2.1)<(pC.length:Int) then(if 0≤(w64 (((gt ((gt y17.1 x46.1).2.2) x97.1).2.2)-1))∧(w64 (((gt ((gt y17.1 x46.1).2.2) x97.1).2.2)-1))<((gt pC ((gt ((gt y17.1 x46.1).2.2) x97.1).2.1)).length:Int) then some (gt (gt pC ((gt ((gt y17.1 x46.1).2.2) x97.1).2.1)) (w64 (((gt ((gt y17.1 x46.1).2.2) x97.1).2.2)-1))) else none) else none) else some 32) else none)) fun z147=>(if 0≤x46.1∧x46.1<(y17.1.length:Int) then(if 0≤x97.1∧x97.1<(((gt y17.1 x46.1).2.1).length:Int) then(if((z147.toNat:Int) != ((gt ((gt y17.1 x46.1).2.1) x97.1).toNat:Int)) then some (.inr (.inr false)) else some (.inl ((w64 (x97.1+1)),((gt ((gt y17.1 x46.1).2.2) x97.1).1),((gt ((gt y17.1 x46.1).2.2) x97.1).2.1),((gt ((gt y17.1 x46.1).2.2) x97.1).2.2)))) else none) else none)) else none) else none) else some (.inr (.inl (x97.1,x97.2.1,x97.2.2.1,x97.2.2.2)))) else none)
noncomputable def g_3.b0 (pC:List (List UInt8)) (y17:(List (Int×List UInt8×(List (Int×Int×Int))))×Int×Int) (y34:List Int×Int×Int) (x46:Int×Int×Int×Int):Option ((Int×Int×Int×Int)⊕((Int×Int×Int×Int)⊕(Bool))) :=
  (if(decide (x46.1<(y17.1.length:Int))) then(if 0<y17.1.length then(if 0≤x46.1∧x46.1<(y17.1.length:Int) then(if(decide (((gt y17.1 x46.1).2.1)= [])) then some (.inr (.inr false)) else(if 0≤x46.1∧x46.1<(y17.1.length:Int) then(if 0≤x46.1∧x46.1<(y17.1.length:Int) then(if((((gt y17.1 x46.1).2.2).length:Int) != (((gt y17.1 x46.1).2.1).length:Int)) then some (.inr (.inr false)) else(if 0≤x46.1∧x46.1<(y17.1.length:Int) then Option.bind (g_1.f ((gt y17.1 x46.1).1) 0 99999) fun y94=>(if(!y94) then some (.inr (.inr false)) else Option.bind (iter (g_3.b1 pC y17 y34 x46) (0,x46.2.1,x46.2.2.1,x46.2.2.2)) fun o98=>my o98 (fun r=>some (.inr (.inr r))) fun y177=>some (.inl ((w64 (x46.1+1)),y177.2.1,y177.2.2.1,y177.2.2.2))) else none)) else none) else none)) else none) else none) else some (.inr (.inl (x46.1,x46.2.1,x46.2.2.1,x46.2.2.2))))
noncomputable def g_3.f (pA:List UInt8) (pB:Bool) (pC:List (List UInt8)):Option (Bool) :=
  Option.bind (g_awake.f) fun y2=>(if(!y2) then some false else Option.bind (g_4.f pA pC) fun y5=>(if(!y5) then some true else Option.bind (g_5.f pA pB pC) fun y8=>Option.bind (g_8.f y8.1 y8.2.1 y8.2.2) fun y17=>Option.bind (g_5.f pA pB pC) fun y25=>Option.bind (g_7.f y25.1 y25.2.1 y25.2.2) fun y34=>(if(y17.2.2 != y34.2.2) then some false else(if(y17.2.2 != 0) then some true else(if((y34.1.length:Int) != (pC.length:Int)) then some false else Option.bind (iter (g_3.b0 pC y17 y34) (0,0,(-1),0)) fun o47=>dy o47 fun y178=>some true)))))
theorem g_3.ok {aE:Option Addr} {zH:Nat} {pA:List UInt8} {pB:Bool} {pC:List (List UInt8)} {F:FZ} {r:Bool} (h:g_3.f pA pB pC=some r) (hI:Frz (elS 9) F aE zH pC) :
    Cl EV 7 [.agg #[ac pA,.bool pB,.slice aE pC.length zH]] [] F (fun v S' F'=>FLe F F'∧v= .bool r∧S'= []):=by
 refine Cl.of Tryz.func7 rfl (fun _ _=>rfl) (by kernel_rfl) fun s L nx0 hS=>?_
 unfold g_3.f at h
 refine WW.seq (WW.region ?_)
 refine cP hS (wn rfl) rfl rfl rfl (v:=fun i=> .pointer (some ⟨i,0,none⟩)) (b:= .row [ac pA,.bool pB,.slice aE pC.length zH] 38 0 true) (cu (hS.lk rfl) rfl [ac pA,.bool pB,.slice aE pC.length zH] rfl) fun s i1 hS=>(sg0 hS 1 [] [2] [.bool false] [] (by kernel_rfl) fun s hS=>?_)
 refine KW.nil (WW.seq ?_)
 refine WW.seq (WW.region ?_)
 obtain⟨y2,hy2,h⟩:=bind_some h
 refine cR (g_awake.ok hy2) hS 0 14 0 rfl (by kernel_rfl) fun s hS=>(sg0 hS 1 [] [15] [.bool (!y2)] [] (by kernel_rfl) fun s hS=>?_)
 refine KW.nil (bc h (fun hc4 h=>?_) fun hc4 h=>?_)
 refine WW.condK hS rfl hc4 (WW.seq ?_)
 refine WW.region (sg0 hS 1 [] [2] [.bool false] [] (by kernel_rfl) fun s hS=>?_)
 refine KW.nil (WW.ret ?_)
 replace hS:=hS.drop
 cases h
 exact aM hS (.inr rfl) 2 rfl rfl ⟨(FLe.refl _),rfl,rfl⟩
 refine WW.condF hS rfl hc4 (WW.skip ?_)
 refine WW.seq (WW.seq ?_)
 refine WW.region (sg0 hS 1 [0] [16] [.agg #[ac pA,.bool pB,.slice aE pC.length zH]] [i1] (by kernel_rfl) fun s hS=>?_)
 obtain⟨y5,hy5,h⟩:=bind_some h
 refine dF hS (wn rfl) (vs:=[.agg #[ac pA,.bool pB,.slice aE pC.length zH]]) (ws:=[.agg #[ac pA,.bool pB,.slice aE pC.length zH]]) rfl rfl rfl rfl rfl 0 rfl (g_4.ok hy5 hI) fun s v S' F' hp6 hF hS=>?_
 obtain⟨rfl,rfl,rfl⟩:=hp6
 refine sg0 hS 1 [] [18] [.bool (!y5)] [] (by kernel_rfl) fun s hS=>(KW.nil ?_)
 refine bc h (fun hc7 h=>?_) fun hc7 h=>?_
 refine WW.condK hS rfl hc7 (WW.seq ?_)
 refine WW.region (sg0 hS 1 [] [2] [.bool true] [] (by kernel_rfl) fun s hS=>?_)
 refine KW.nil (WW.ret ?_)
 replace hS:=hS.drop
 cases h
 exact aM hS (.inr rfl) 2 rfl rfl ⟨(FLe.refl _),rfl,rfl⟩
 refine WW.condF hS rfl hc7 (WW.skip ?_)
 refine WW.seq (WW.region ?_)
 refine sg0 hS 1 [0] [20] [.agg #[ac pA,.bool pB,.slice aE pC.length zH]] [i1] (by kernel_rfl) fun s hS=>?_
 obtain⟨y8,hy8,h⟩:=bind_some h
 refine dF hS (wn rfl) (vs:=[.agg #[ac pA,.bool pB,.slice aE pC.length zH]]) (ws:=[.agg #[ac pA,.bool pB,.slice aE pC.length zH]]) rfl rfl rfl rfl rfl 0 rfl (g_5.ok hy8 hI) fun s v S' F' hp9 hF hS=>?_
 obtain⟨a10,z11,B13,rfl,rfl,rfl,h12⟩:=hp9
 obtain⟨F14,hF15,hS,hz16⟩:=hS.frzO h12
 obtain⟨y17,hy17,h⟩:=bind_some h
 refine cK (g_8.ok hy17 hz16) hS 0 22 0 rfl (by kernel_rfl) fun s v S' F19 hp18 hF hS=>?_
 obtain⟨a20,z21,B23,hF24,rfl,rfl,h22⟩:=hp18
 refine sg0 hS 7 [] [3,5] [.slice a20 y17.1.length z21,.int .i64 y17.2.2] [] (by kernel_rfl) fun s hS=>(KW.nil ?_)
 refine WW.seq (WW.region ?_)
 refine sg0 hS 1 [1] [27] [.agg #[ac pA,.bool pB,.slice aE pC.length zH]] [i1] (by kernel_rfl) fun s hS=>?_
 obtain⟨y25,hy25,h⟩:=bind_some h
 refine dF hS (wn rfl) (vs:=[.agg #[ac pA,.bool pB,.slice aE pC.length zH]]) (ws:=[.agg #[ac pA,.bool pB,.slice aE pC.length zH]]) rfl rfl rfl rfl rfl 0 rfl (g_5.ok hy25 (hI.mono (FLe.trans hF15 hF24))) fun s v S' F' hp26 hF hS=>?_
 obtain⟨a27,z28,B30,rfl,rfl,rfl,h29⟩:=hp26
 obtain⟨F31,hF32,hS,hz33⟩:=hS.frzO h29
 obtain⟨y34,hy34,h⟩:=bind_some h
 refine cK (g_7.ok hy34 hz33) hS 0 29 0 rfl (by kernel_rfl) fun s v S' F36 hp35 hF hS=>?_
 obtain⟨a37,z38,B40,hF41,rfl,rfl,h39⟩:=hp35
 refine sg0 hS 7 [] [6,8] [.slice a37 y34.1.length z38,.int .i64 y34.2.2] [] (by kernel_rfl) fun s hS=>(KW.nil ?_)
 refine WW.seq (WW.seq ?_)
 refine WW.region (sg0 hS 3 [] [35] [.bool (y17.2.2 != y34.2.2)] [] (by kernel_rfl) fun s hS=>?_)
 refine KW.nil (bc h (fun hc42 h=>?_) fun hc42 h=>?_)
 refine WW.condK hS rfl hc42 (WW.seq ?_)
 refine WW.region (sg0 hS 1 [] [2] [.bool false] [] (by kernel_rfl) fun s hS=>?_)
 refine KW.nil (WW.ret ?_)
 replace hS:=hS.drop
 replace hS:=hS.drop
 replace hS:=hS.drop
 cases h
 exact aM hS (.inr rfl) 2 rfl rfl ⟨((FLe.trans hF15 (FLe.trans hF24 (FLe.trans hF32 hF41)))),rfl,rfl⟩
 refine WW.condF hS rfl hc42 (WW.skip ?_)
 refine WW.seq (WW.seq ?_)
 refine WW.region (sg0 hS 2 [] [37] [.bool (y17.2.2 != 0)] [] (by kernel_rfl) fun s hS=>?_)
 refine KW.nil (bc h (fun hc43 h=>?_) fun hc43 h=>?_)
 refine WW.condK hS rfl hc43 (WW.seq ?_)
 refine WW.region (sg0 hS 1 [] [2] [.bool true] [] (by kernel_rfl) fun s hS=>?_)
 refine KW.nil (WW.ret ?_)
 replace hS:=hS.drop
 replace hS:=hS.drop
 replace hS:=hS.drop
 cases h
 exact aM hS (.inr rfl) 2 rfl rfl ⟨((FLe.trans hF15 (FLe.trans hF24 (FLe.trans hF32 hF41)))),rfl,rfl⟩
 refine WW.condF hS rfl hc43 (WW.skip ?_)
 refine WW.seq (WW.seq ?_)
 refine WW.region (sg0 hS 6 [2] [43] [.bool ((y34.1.length:Int) != (pC.length:Int))] [i1] (by kernel_rfl) fun s hS=>?_)
 refine KW.nil (bc h (fun hc44 h=>?_) fun hc44 h=>?_)
 refine WW.condK hS rfl hc44 (WW.seq ?_)
 refine WW.region (sg0 hS 1 [] [2] [.bool false] [] (by kernel_rfl) fun s hS=>?_)
 refine KW.nil (WW.ret ?_)
 replace hS:=hS.drop
 replace hS:=hS.drop
 replace hS:=hS.drop
 cases h
 exact aM hS (.inr rfl) 2 rfl rfl ⟨((FLe.trans hF15 (FLe.trans hF24 (FLe.trans hF32 hF41)))),rfl,rfl⟩
 refine WW.condF hS rfl hc44 (WW.skip ?_)
 refine WW.seq (WW.region ?_)
 refine aq hS (wn rfl) rfl rfl rfl (v:= .agg #[.int .i64 0,.int .i64 (-1),.int .i64 0]) (cV jH tp58 [(1,.int .i64 (-1))] (aG hS rfl) (cs:=[.int .i64 0,.int .i64 (-1),.int .i64 0]) rfl) fun s hS=>(cP hS (wn rfl) rfl rfl rfl (v:=fun i=> .pointer (some ⟨i,0,none⟩)) (b:= .row [.int .i64 0,.int .i64 0,.int .i64 0] 58 0 true) (cC jH) fun s i45 hS=>?_)
 refine sg hS 1 [0] [] [] [i45] [[(i45,.row [.int .i64 0,.int .i64 (-1),.int .i64 0] 58 0 true)],B40,B23,[(i1,.row [ac pA,.bool pB,.slice aE pC.length zH] 38 0 true)]] (by kernel_rfl) fun s hS=>(KW.nil ?_)
 refine WW.seq (WW.seq ?_)
 refine WW.region (sg0 hS 1 [] [10] [.int .i64 0] [] (by kernel_rfl) fun s hS=>?_)
 refine KW.nil (WW.block ?_)
 obtain⟨o47,ho47,h⟩:=bind_some h
 refine WW.loop (LW.iterS ho47 (fun(x46:Int×Int×Int×Int) s=>Stt EV s [(1,.pointer (some ⟨i1,0,none⟩)),(2,.bool false),(3,.slice a20 y17.1.length z21),(6,.slice a37 y34.1.length z38),(9,.pointer (some ⟨i45,0,none⟩)),(10,.int .i64 x46.1)] [[(i45,.row [.int .i64 x46.2.1,.int .i64 x46.2.2.1,.int .i64 x46.2.2.2] 58 0 true)],B40,B23,[(i1,.row [ac pA,.bool pB,.slice aE pC.length zH] 38 0 true)]] F36 L F nx0) 0 (fun r=>fu EV Tryz.f7 L F nx0 (fun v S' F'=>FLe F F'∧v= .bool r∧S'= [])) (hS.subR rfl) ?_ ?_)
 clear hS
 rintro x46 s hS o47' h49
 unfold g_3.b0 at h49
 refine WW.seq (WW.seq ?_)
 refine WW.region (sg0 hS 4 [] [48] [.bool (decide (x46.1<(y17.1.length:Int)))] [] (by kernel_rfl) fun s hS=>?_)
 refine KW.nil (bc h49 (fun hc50 h49=>?_) fun hc50 h49=>?_)
 refine WW.condK hS rfl hc50 (WW.skip ?_)
 refine WW.seq (WW.block ?_)
 refine WW.seq (WW.seq ?_)
 obtain⟨hk51,h49⟩:=aa h49
 obtain⟨i52,cs53,ex54,rfl,rfl,rfl,hC55⟩:=Own.some_ h22 (by omega)
 refine WW.regionD (i:=[[],[0],[],[],[],[],[],[],[7],[],[],[],[],[12,11,10,9,8,7],[13,12,11,10,9,8,7],[12,11,10,9,8,7],[12,11,10,9,8,7],[12,11,10,9,8,7],[12,11,10,9,8,7],[],[],[],[],[22],[],[],[],[],[],[]]) (by kernel_rfl) ?_
 have hq:=RS.start [i45,i52,i1]
 refine kg hS hq 2 [51,52] [.slice (some ⟨i52,0,none⟩) y17.1.length 3,.int .i64 x46.1] (by kernel_rfl) fun s rs hS hq=>?_
 obtain⟨hk56,h49⟩:=aa h49
 obtain⟨c57,hR58,hN60,hN59,hT61⟩:=ai.loadF (hC55.mono (FLe.trans hF32 hF41)) ex54 hk56 (z:=3) rfl
 obtain⟨a62,z63,rfl,hz64⟩:=hR58
 refine K.pu hS hq rfl (wn rfl) rfl rfl rfl (v:= .pointer (some ⟨i52,0+(x46.1).toNat*3,none⟩)) (aZ (hS.lk rfl) (hS.lk rfl) mD hk56) fun s rs hS hq=>(K.pu hS hq rfl (wn rfl) rfl rfl rfl (v:= .pointer (some ⟨i52,0+(x46.1).toNat*3+1,none⟩)) (ce (hS.lk rfl) kz rfl rfl) fun s rs hS hq=>?_)
 refine K.ld hS hq rfl (wn rfl) rfl rfl rfl (hS.at (k:=2) rfl) tg9 (v:=ac ((gt y17.1 x46.1).2.1)) (hN60 1 (by decide)) 1 rfl rfl fun s rs hS hq=>(K.pu hS hq rfl (wn rfl) rfl rfl rfl (v:= .bool (decide (((gt y17.1 x46.1).2.1)= []))) (eI (hS.lk rfl) (hS.lk rfl)) fun s rs hS hq=>?_)
 refine kg hS hq 1 [57] [.bool (decide (((gt y17.1 x46.1).2.1)= []))] (by kernel_rfl) fun s rs hS hq=>(bc h49 (fun hc65 h49=>?_) fun hc65 h49=>?_)
 replace hS:=hS.kb 56 hc65 rfl
 replace hS:=hS.kb 57 hc65 rfl
 refine kg hS hq 23 [80] [.bool true] (by kernel_rfl) fun s rs hS hq=>(KW.nil ?_)
 refine WW.condK hS rfl rfl (WW.seq ?_)
 refine WW.region (sg0 hS 1 [] [2] [.bool false] [] (by kernel_rfl) fun s hS=>?_)
 refine KW.nil (WW.ret ?_)
 replace hS:=hS.drop
 replace hS:=hS.drop
 replace hS:=hS.drop
 replace hS:=hS.drop
 cases h49
 exact⟨_,rfl,rfl,aM hS (.inr rfl) 2 rfl rfl ⟨((FLe.trans hF15 (FLe.trans hF24 (FLe.trans hF32 hF41)))),rfl,rfl⟩⟩
 replace hS:=hS.kb 56 hc65 rfl
 replace hS:=hS.kb 57 hc65 rfl
 refine kg hS hq 2 [58,59] [.slice (some ⟨i52,0,none⟩) y17.1.length 3,.int .i64 x46.1] (by kernel_rfl) fun s rs hS hq=>?_
 obtain⟨hk66,h49⟩:=aa h49
 obtain⟨c67,hR68,hN70,hN69,hT71⟩:=ai.loadF (hC55.mono (FLe.trans hF32 hF41)) ex54 hk66 (z:=3) rfl
 obtain⟨a72,z73,rfl,hz74⟩:=hR68
 refine K.pu hS hq rfl (wt hS rfl rfl rfl rfl) rfl rfl rfl (v:= .pointer (some ⟨i52,0+(x46.1).toNat*3,none⟩)) (aZ (hS.lk rfl) (hS.lk rfl) mD hk66) fun s rs hS hq=>(K.pu hS hq rfl (wt hS rfl rfl rfl rfl) rfl rfl rfl (v:= .pointer (some ⟨i52,0+(x46.1).toNat*3+2,none⟩)) (ce (hS.lk rfl) qt rfl rfl) fun s rs hS hq=>?_)
 refine K.ld hS hq rfl (wt hS rfl rfl rfl rfl) rfl rfl rfl (hS.at (k:=2) rfl) tg59 (v:= .slice a72 ((gt y17.1 x46.1).2.2).length z73) (hN70 2 (by decide)) 1 rfl rfl fun s rs hS hq=>(kg hS hq 3 [63,64,65] [.int .i64 (((gt y17.1 x46.1).2.2).length:Int),.slice (some ⟨i52,0,none⟩) y17.1.length 3,.int .i64 x46.1] (by kernel_rfl) fun s rs hS hq=>?_)
 obtain⟨hk75,h49⟩:=aa h49
 obtain⟨c76,hR77,hN79,hN78,hT80⟩:=ai.loadF (hC55.mono (FLe.trans hF32 hF41)) ex54 hk75 (z:=3) rfl
 obtain⟨a81,z82,rfl,hz83⟩:=hR77
 refine K.pu hS hq rfl (wt hS rfl rfl rfl rfl) rfl rfl rfl (v:= .pointer (some ⟨i52,0+(x46.1).toNat*3,none⟩)) (aZ (hS.lk rfl) (hS.lk rfl) mD hk75) fun s rs hS hq=>(K.pu hS hq rfl (wt hS rfl rfl rfl rfl) rfl rfl rfl (v:= .pointer (some ⟨i52,0+(x46.1).toNat*3+1,none⟩)) (ce (hS.lk rfl) kz rfl rfl) fun s rs hS hq=>?_)
 refine K.ld hS hq rfl (wt hS rfl rfl rfl rfl) rfl rfl rfl (hS.at (k:=2) rfl) tg9 (v:=ac ((gt y17.1 x46.1).2.1)) (hN79 1 (by decide)) 1 rfl rfl fun s rs hS hq=>(kg hS hq 4 [72] [.bool ((((gt y17.1 x46.1).2.2).length:Int) != (((gt y17.1 x46.1).2.1).length:Int))] (by kernel_rfl) fun s rs hS hq=>?_)
 refine bc h49 (fun hc84 h49=>?_) fun hc84 h49=>?_
 replace hS:=hS.kb 72 hc84 rfl
 refine kg hS hq 8 [80] [.bool true] (by kernel_rfl) fun s rs hS hq=>(KW.nil ?_)
 refine WW.condK hS rfl rfl (WW.seq ?_)
 refine WW.region (sg0 hS 1 [] [2] [.bool false] [] (by kernel_rfl) fun s hS=>?_)
 refine KW.nil (WW.ret ?_)
 replace hS:=hS.drop
 replace hS:=hS.drop
 replace hS:=hS.drop
 replace hS:=hS.drop
 cases h49
 exact⟨_,rfl,rfl,aM hS (.inr rfl) 2 rfl rfl ⟨((FLe.trans hF15 (FLe.trans hF24 (FLe.trans hF32 hF41)))),rfl,rfl⟩⟩
 replace hS:=hS.kb 72 hc84 rfl
 refine kg hS hq 2 [73,74] [.slice (some ⟨i52,0,none⟩) y17.1.length 3,.int .i64 x46.1] (by kernel_rfl) fun s rs hS hq=>?_
 obtain⟨hk85,h49⟩:=aa h49
 obtain⟨c86,hR87,hN89,hN88,hT90⟩:=ai.loadF (hC55.mono (FLe.trans hF32 hF41)) ex54 hk85 (z:=3) rfl
 obtain⟨a91,z92,rfl,hz93⟩:=hR87
 refine K.pu hS hq rfl (wt hS rfl rfl rfl rfl) rfl rfl rfl (v:= .pointer (some ⟨i52,0+(x46.1).toNat*3,none⟩)) (aZ (hS.lk rfl) (hS.lk rfl) mD hk85) fun s rs hS hq=>(K.pu hS hq rfl (wt hS rfl rfl rfl rfl) rfl rfl rfl (v:= .pointer (some ⟨i52,0+(x46.1).toNat*3+0,none⟩)) (ce (hS.lk rfl) tf61_0 rfl rfl) fun s rs hS hq=>?_)
 refine K.ld hS hq rfl (wt hS rfl rfl rfl rfl) rfl rfl rfl (hS.at (k:=2) rfl) tg3 (v:= .int .i64 ((gt y17.1 x46.1).1)) (hN89 0 (by decide)) 1 rfl rfl fun s rs hS hq=>?_
 obtain⟨y94,hy94,h49⟩:=bind_some h49
 refine K.cl hS hq rfl (wt hS rfl rfl rfl rfl) (vs:=[.int .i64 ((gt y17.1 x46.1).1),.int .i64 0,.int .i64 99999]) (ws:=[.int .i64 ((gt y17.1 x46.1).1),.int .i64 0,.int .i64 99999]) rfl rfl rfl rfl rfl 0 rfl (g_1.ok hy94)  [0,1,2] rfl rfl (aU rfl mm0 (aU rfl (mm1 (mm1 mm0)) (aU rfl (mm1 (mm1 (mm1 mm0))) bF))) fun s rs v S' F' hp95 hF hS hq=>?_
 obtain⟨rfl,rfl,rfl⟩:=hp95
 refine kg hS hq 2 [80] [.bool (!y94)] (by kernel_rfl) fun s rs hS hq=>(KW.nil ?_)
 refine bc h49 (fun hc96 h49=>?_) fun hc96 h49=>?_
 refine WW.condK hS rfl hc96 (WW.seq ?_)
 refine WW.region (sg0 hS 1 [] [2] [.bool false] [] (by kernel_rfl) fun s hS=>?_)
 refine KW.nil (WW.ret ?_)
 replace hS:=hS.drop
 replace hS:=hS.drop
 replace hS:=hS.drop
 replace hS:=hS.drop
 cases h49
 exact⟨_,rfl,rfl,aM hS (.inr rfl) 2 rfl rfl ⟨((FLe.trans hF15 (FLe.trans hF24 (FLe.trans hF32 hF41)))),rfl,rfl⟩⟩
 refine WW.condF hS rfl hc96 (WW.skip ?_)
 refine WW.seq (WW.region ?_)
 refine sg0 hS 1 [] [11] [.int .i64 0] [] (by kernel_rfl) fun s hS=>(KW.nil ?_)
 refine WW.block ?_
 obtain⟨o98,ho98,h49⟩:=bind_some h49
 refine WW.loop (LW.iterS ho98 (fun(x97:Int×Int×Int×Int) s=>Stt EV s [(1,.pointer (some ⟨i1,0,none⟩)),(2,.bool false),(3,.slice (some ⟨i52,0,none⟩) y17.1.length 3),(6,.slice a37 y34.1.length z38),(9,.pointer (some ⟨i45,0,none⟩)),(10,.int .i64 x46.1),(11,.int .i64 x97.1)] [[(i45,.row [.int .i64 x97.2.1,.int .i64 x97.2.2.1,.int .i64 x97.2.2.2] 58 0 true)],B40,[(i52,.row (cs53++ex54) 61 3 true)],[(i1,.row [ac pA,.bool pB,.slice aE pC.length zH] 38 0 true)]] F36 L F nx0) 2 (fun r=>fu EV Tryz.f7 L F nx0 (fun v S' F'=>FLe F F'∧v= .bool r∧S'= [])) (hS.subR rfl) ?_ ?_)
 clear hS
 rintro x97 s hS o98' h100
 unfold g_3.b1 at h100
 refine WW.seq (WW.seq ?_)
 refine WW.region (sg0 hS 3 [] [81,82,83] [.int .i64 x97.1,.slice (some ⟨i52,0,none⟩) y17.1.length 3,.int .i64 x46.1] [] (by kernel_rfl) fun s hS=>?_)
 obtain⟨hk101,h100⟩:=aa h100
 obtain⟨c102,hR103,hN105,hN104,hT106⟩:=ai.loadF (hC55.mono (FLe.trans hF32 hF41)) ex54 hk101 (z:=3) rfl
 obtain⟨a107,z108,rfl,hz109⟩:=hR103
 refine aq hS (wn rfl) rfl rfl rfl (v:= .pointer (some ⟨i52,0+(x46.1).toNat*3,none⟩)) (aZ (hS.lk rfl) (hS.lk rfl) mD hk101) fun s hS=>(aq hS (wn rfl) rfl rfl rfl (v:= .pointer (some ⟨i52,0+(x46.1).toNat*3+1,none⟩)) (ce (hS.lk rfl) kz rfl rfl) fun s hS=>?_)
 refine eO hS (wn rfl) rfl rfl rfl (hS.at (k:=2) rfl) tg9 (v:=ac ((gt y17.1 x46.1).2.1)) (hN105 1 (by decide)) fun s hS=>(sg0 hS 2 [] [88] [.bool (decide (x97.1<(((gt y17.1 x46.1).2.1).length:Int)))] [] (by kernel_rfl) fun s hS=>?_)
 refine KW.nil (bc h100 (fun hc110 h100=>?_) fun hc110 h100=>?_)
 refine WW.condK hS rfl hc110 (WW.skip ?_)
 refine WW.seq (WW.block ?_)
 refine WW.seq (WW.region ?_)
 refine sg0 hS 2 [] [91,92] [.slice (some ⟨i52,0,none⟩) y17.1.length 3,.int .i64 x46.1] [] (by kernel_rfl) fun s hS=>?_
 obtain⟨hk111,h100⟩:=aa h100
 obtain⟨c112,hR113,hN115,hN114,hT116⟩:=ai.loadF (hC55.mono (FLe.trans hF32 hF41)) ex54 hk111 (z:=3) rfl
 obtain⟨a117,z118,rfl,hz119⟩:=hR113
 refine aq hS (wn rfl) rfl rfl rfl (v:= .pointer (some ⟨i52,0+(x46.1).toNat*3,none⟩)) (aZ (hS.lk rfl) (hS.lk rfl) mD hk111) fun s hS=>(aq hS (wn rfl) rfl rfl rfl (v:= .pointer (some ⟨i52,0+(x46.1).toNat*3+2,none⟩)) (ce (hS.lk rfl) qt rfl rfl) fun s hS=>?_)
 refine eO hS (wn rfl) rfl rfl rfl (hS.at (k:=2) rfl) tg59 (v:= .slice a117 ((gt y17.1 x46.1).2.2).length z118) (hN115 2 (by decide)) fun s hS=>(sg0 hS 1 [] [96] [.int .i64 x97.1] [] (by kernel_rfl) fun s hS=>?_)
 obtain⟨hk120,h100⟩:=aa h100
 obtain⟨i126,of127,rfl⟩:=Frz.addr hz119 (by omega)
 obtain⟨_,_,_,_,c121,hF128,hR122,hN123,hN124,hT125⟩:=Frz.at hz119 hk120 (m:=3) rfl
 obtain rfl:=hR122
 refine aq hS (wn rfl) rfl rfl rfl (v:= .pointer (some ⟨i126,of127+(x97.1).toNat*3,none⟩)) (aZ (hS.lk rfl) (hS.lk rfl) te59 hk120) fun s hS=>(lw hS (wn rfl) rfl rfl rfl (hS.fat hF128) tg58 tz58 (vs:=[.int .i64 ((gt ((gt y17.1 x46.1).2.2) x97.1).1),.int .i64 ((gt ((gt y17.1 x46.1).2.2) x97.1).2.1),.int .i64 ((gt ((gt y17.1 x46.1).2.2) x97.1).2.2)]) hT125 fun s hS=>?_)
 refine cP hS (wn rfl) rfl rfl rfl (v:=fun i=> .pointer (some ⟨i,0,none⟩)) (b:= .row [.int .i64 0,.int .i64 0,.int .i64 0] 58 0 true) (cC jH) fun s i129 hS=>(sg hS 1 [0] [] [] [i129] [[(i129,.row [.int .i64 ((gt ((gt y17.1 x46.1).2.2) x97.1).1),.int .i64 ((gt ((gt y17.1 x46.1).2.2) x97.1).2.1),.int .i64 ((gt ((gt y17.1 x46.1).2.2) x97.1).2.2)] 58 0 true)],[(i45,.row [.int .i64 x97.2.1,.int .i64 x97.2.2.1,.int .i64 x97.2.2.2] 58 0 true)],B40,[(i52,.row (cs53++ex54) 61 3 true)],[(i1,.row [ac pA,.bool pB,.slice aE pC.length zH] 38 0 true)]] (by kernel_rfl) fun s hS=>?_)
 refine KW.nil (WW.seq ?_)
 refine WW.seq (WW.region ?_)
 refine sg0 hS 4 [0] [102] [.bool (((gt ((gt y17.1 x46.1).2.2) x97.1).1) != 0)] [i129] (by kernel_rfl) fun s hS=>?_
 obtain⟨z130,hz130,h100⟩:=bind_some h100
 refine bg 9 (fun s=>Stt EV s [(111,.bool z130),(1,.pointer (some ⟨i1,0,none⟩)),(2,.bool false),(3,.slice (some ⟨i52,0,none⟩) y17.1.length 3),(6,.slice a37 y34.1.length z38),(9,.pointer (some ⟨i45,0,none⟩)),(10,.int .i64 x46.1),(11,.int .i64 x97.1),(12,.pointer (some ⟨i129,0,none⟩))] [[(i129,.row [.int .i64 ((gt ((gt y17.1 x46.1).2.2) x97.1).1),.int .i64 ((gt ((gt y17.1 x46.1).2.2) x97.1).2.1),.int .i64 ((gt ((gt y17.1 x46.1).2.2) x97.1).2.2)] 58 0 true)],[(i45,.row [.int .i64 x97.2.1,.int .i64 x97.2.2.1,.int .i64 x97.2.2.2] 58 0 true)],B40,[(i52,.row (cs53++ex54) 61 3 true)],[(i1,.row [ac pA,.bool pB,.slice aE pC.length zH] 38 0 true)]] F36 L F nx0) ?_ fun s hS=>?_
 refine bc hz130 (fun hc131 hz130=>?_) fun hc131 hz130=>?_
 replace hS:=hS.kb 102 hc131 rfl
 refine sg0 hS 9 [] [111] [.bool true] [] (by kernel_rfl) fun s hS=>(KW.nil ?_)
 obtain rfl:=Option.some.inj hz130
 exact hS.subR rfl
 replace hS:=hS.kb 102 hc131 rfl
 refine sg0 hS 6 [0,4] [104,108] [.int .i64 ((gt ((gt y17.1 x46.1).2.2) x97.1).2.1),.int .i64 (w64 ((pC.length:Int)-1))] [i129,i1] (by kernel_rfl) fun s hS=>?_
 obtain⟨y132,hy132,hz130⟩:=bind_some hz130
 refine dF hS (wt hS rfl rfl rfl rfl) (vs:=[.int .i64 ((gt ((gt y17.1 x46.1).2.2) x97.1).2.1),.int .i64 0,.int .i64 (w64 ((pC.length:Int)-1))]) (ws:=[.int .i64 ((gt ((gt y17.1 x46.1).2.2) x97.1).2.1),.int .i64 0,.int .i64 (w64 ((pC.length:Int)-1))]) rfl rfl rfl rfl rfl 0 rfl (g_1.ok hy132) fun s v S' F' hp133 hF hS=>?_
 obtain⟨rfl,rfl,rfl⟩:=hp133
 refine sg0 hS 2 [] [111] [.bool (!y132)] [] (by kernel_rfl) fun s hS=>(KW.nil ?_)
 obtain rfl:=Option.some.inj hz130
 exact hS.subR rfl
 refine sg0 hS 1 [] [112] [.bool z130] [] (by kernel_rfl) fun s hS=>?_
 obtain⟨z134,hz134,h100⟩:=bind_some h100
 refine bg 7 (fun s=>Stt EV s [(119,.bool z134),(1,.pointer (some ⟨i1,0,none⟩)),(2,.bool false),(3,.slice (some ⟨i52,0,none⟩) y17.1.length 3),(6,.slice a37 y34.1.length z38),(9,.pointer (some ⟨i45,0,none⟩)),(10,.int .i64 x46.1),(11,.int .i64 x97.1),(12,.pointer (some ⟨i129,0,none⟩))] [[(i129,.row [.int .i64 ((gt ((gt y17.1 x46.1).2.2) x97.1).1),.int .i64 ((gt ((gt y17.1 x46.1).2.2) x97.1).2.1),.int .i64 ((gt ((gt y17.1 x46.1).2.2) x97.1).2.2)] 58 0 true)],[(i45,.row [.int .i64 x97.2.1,.int .i64 x97.2.2.1,.int .i64 x97.2.2.2] 58 0 true)],B40,[(i52,.row (cs53++ex54) 61 3 true)],[(i1,.row [ac pA,.bool pB,.slice aE pC.length zH] 38 0 true)]] F36 L F nx0) ?_ fun s hS=>?_
 refine bc hz134 (fun hc135 hz134=>?_) fun hc135 hz134=>?_
 replace hS:=hS.kb 111 hc135 rfl
 replace hS:=hS.kb 112 hc135 rfl
 refine sg0 hS 7 [] [119] [.bool true] [] (by kernel_rfl) fun s hS=>(KW.nil ?_)
 obtain rfl:=Option.some.inj hz134
 exact hS.subR rfl
 replace hS:=hS.kb 111 hc135 rfl
 replace hS:=hS.kb 112 hc135 rfl
 refine sg0 hS 3 [0] [113,115] [.slice a37 y34.1.length z38,.int .i64 ((gt ((gt y17.1 x46.1).2.2) x97.1).2.1)] [i129] (by kernel_rfl) fun s hS=>?_
 obtain⟨hk136,hz134⟩:=aa hz134
 obtain⟨i142,cs143,ex144,rfl,rfl,rfl,hC145⟩:=Own.some_ h39 (by omega)
 obtain⟨c137,hR138,hN140,hN139,hT141⟩:=ai.loadF hC145 ex144 hk136 (z:=1) rfl
 obtain rfl:=hR138
 refine aq hS (wt hS rfl rfl rfl rfl) rfl rfl rfl (v:= .pointer (some ⟨i142,0+(((gt ((gt y17.1 x46.1).2.2) x97.1).2.1)).toNat*1,none⟩)) (aZ (hS.lk rfl) (hS.lk rfl) te23 hk136) fun s hS=>(eO hS (wt hS rfl rfl rfl rfl) rfl rfl rfl (hS.at (k:=2) rfl) tg3 (v:= .int .i64 (gt y34.1 ((gt ((gt y17.1 x46.1).2.2) x97.1).2.1))) hN139 fun s hS=>?_)
 refine sg0 hS 2 [] [119] [.bool ((gt y34.1 ((gt ((gt y17.1 x46.1).2.2) x97.1).2.1))==0)] [] (by kernel_rfl) fun s hS=>(KW.nil ?_)
 obtain rfl:=Option.some.inj hz134
 exact hS.subR rfl
 refine sg0 hS 1 [] [120] [.bool z134] [] (by kernel_rfl) fun s hS=>(bg 4 (fun s=>Stt EV s [(124,.bool (z134||(decide (((gt ((gt y17.1 x46.1).2.2) x97.1).2.2)<1)))),(1,.pointer (some ⟨i1,0,none⟩)),(2,.bool false),(3,.slice (some ⟨i52,0,none⟩) y17.1.length 3),(6,.slice a37 y34.1.length z38),(9,.pointer (some ⟨i45,0,none⟩)),(10,.int .i64 x46.1),(11,.int .i64 x97.1),(12,.pointer (some ⟨i129,0,none⟩))] [[(i129,.row [.int .i64 ((gt ((gt y17.1 x46.1).2.2) x97.1).1),.int .i64 ((gt ((gt y17.1 x46.1).2.2) x97.1).2.1),.int .i64 ((gt ((gt y17.1 x46.1).2.2) x97.1).2.2)] 58 0 true)],[(i45,.row [.int .i64 x97.2.1,.int .i64 x97.2.2.1,.int .i64 x97.2.2.2] 58 0 true)],B40,[(i52,.row (cs53++ex54) 61 3 true)],[(i1,.row [ac pA,.bool pB,.slice aE pC.length zH] 38 0 true)]] F36 L F nx0) ?_ fun s hS=>?_)
 rcases aO (z134) with hcj | hcj
 replace hS:=hS.know (t:=119) rfl (congrArg Value.bool hcj)
 replace hS:=hS.know (t:=120) rfl (congrArg Value.bool hcj)
 refine sg0 hS 4 [] [124] [.bool true] [] (by kernel_rfl) fun s hS=>(KW.nil ?_)
 exact(hS.know (t:=124) (u':= .bool (z134||(decide (((gt ((gt y17.1 x46.1).2.2) x97.1).2.2)<1)))) rfl (dz hcj)).subR rfl
 replace hS:=hS.know (t:=119) rfl (congrArg Value.bool hcj)
 replace hS:=hS.know (t:=120) rfl (congrArg Value.bool hcj)
 refine sg0 hS 4 [0] [124] [.bool (decide (((gt ((gt y17.1 x46.1).2.2) x97.1).2.2)<1))] [i129] (by kernel_rfl) fun s hS=>(KW.nil ?_)
 exact(hS.know (t:=124) (u':= .bool (z134||(decide (((gt ((gt y17.1 x46.1).2.2) x97.1).2.2)<1)))) rfl (dA hcj)).subR rfl
 refine sg0 hS 1 [] [125] [.bool (z134||(decide (((gt ((gt y17.1 x46.1).2.2) x97.1).2.2)<1)))] [] (by kernel_rfl) fun s hS=>(bg 6 (fun s=>Stt EV s [(131,.bool ((z134||(decide (((gt ((gt y17.1 x46.1).2.2) x97.1).2.2)<1)))||(decide (((gt ((gt y17.1 x46.1).2.2) x97.1).2.1)<x97.2.2.1)))),(1,.pointer (some ⟨i1,0,none⟩)),(2,.bool false),(3,.slice (some ⟨i52,0,none⟩) y17.1.length 3),(6,.slice a37 y34.1.length z38),(9,.pointer (some ⟨i45,0,none⟩)),(10,.int .i64 x46.1),(11,.int .i64 x97.1),(12,.pointer (some ⟨i129,0,none⟩))] [[(i129,.row [.int .i64 ((gt ((gt y17.1 x46.1).2.2) x97.1).1),.int .i64 ((gt ((gt y17.1 x46.1).2.2) x97.1).2.1),.int .i64 ((gt ((gt y17.1 x46.1).2.2) x97.1).2.2)] 58 0 true)],[(i45,.row [.int .i64 x97.2.1,.int .i64 x97.2.2.1,.int .i64 x97.2.2.2] 58 0 true)],B40,[(i52,.row (cs53++ex54) 61 3 true)],[(i1,.row [ac pA,.bool pB,.slice aE pC.length zH] 38 0 true)]] F36 L F nx0) ?_ fun s hS=>?_)
 rcases aO ((z134||(decide (((gt ((gt y17.1 x46.1).2.2) x97.1).2.2)<1)))) with hcj | hcj
 replace hS:=hS.know (t:=124) rfl (congrArg Value.bool hcj)
 replace hS:=hS.know (t:=125) rfl (congrArg Value.bool hcj)
 refine sg0 hS 6 [] [131] [.bool true] [] (by kernel_rfl) fun s hS=>(KW.nil ?_)
 exact(hS.know (t:=131) (u':= .bool ((z134||(decide (((gt ((gt y17.1 x46.1).2.2) x97.1).2.2)<1)))||(decide (((gt ((gt y17.1 x46.1).2.2) x97.1).2.1)<x97.2.2.1)))) rfl (dz hcj)).subR rfl
 replace hS:=hS.know (t:=124) rfl (congrArg Value.bool hcj)
 replace hS:=hS.know (t:=125) rfl (congrArg Value.bool hcj)
 refine sg0 hS 6 [0,1] [131] [.bool (decide (((gt ((gt y17.1 x46.1).2.2) x97.1).2.1)<x97.2.2.1))] [i129,i45] (by kernel_rfl) fun s hS=>(KW.nil ?_)
 exact(hS.know (t:=131) (u':= .bool ((z134||(decide (((gt ((gt y17.1 x46.1).2.2) x97.1).2.2)<1)))||(decide (((gt ((gt y17.1 x46.1).2.2) x97.1).2.1)<x97.2.2.1)))) rfl (dA hcj)).subR rfl
 refine sg0 hS 1 [] [132] [.bool ((z134||(decide (((gt ((gt y17.1 x46.1).2.2) x97.1).2.2)<1)))||(decide (((gt ((gt y17.1 x46.1).2.2) x97.1).2.1)<x97.2.2.1)))] [] (by kernel_rfl) fun s hS=>(bg 13 (fun s=>Stt EV s [(145,.bool (((z134||(decide (((gt ((gt y17.1 x46.1).2.2) x97.1).2.2)<1)))||(decide (((gt ((gt y17.1 x46.1).2.2) x97.1).2.1)<x97.2.2.1)))||((((gt ((gt y17.1 x46.1).2.2) x97.1).2.1)==x97.2.2.1)&&(decide (((gt ((gt y17.1 x46.1).2.2) x97.1).2.2)≤x97.2.2.2))))),(1,.pointer (some ⟨i1,0,none⟩)),(2,.bool false),(3,.slice (some ⟨i52,0,none⟩) y17.1.length 3),(6,.slice a37 y34.1.length z38),(9,.pointer (some ⟨i45,0,none⟩)),(10,.int .i64 x46.1),(11,.int .i64 x97.1),(12,.pointer (some ⟨i129,0,none⟩))] [[(i129,.row [.int .i64 ((gt ((gt y17.1 x46.1).2.2) x97.1).1),.int .i64 ((gt ((gt y17.1 x46.1).2.2) x97.1).2.1),.int .i64 ((gt ((gt y17.1 x46.1).2.2) x97.1).2.2)] 58 0 true)],[(i45,.row [.int .i64 x97.2.1,.int .i64 x97.2.2.1,.int .i64 x97.2.2.2] 58 0 true)],B40,[(i52,.row (cs53++ex54) 61 3 true)],[(i1,.row [ac pA,.bool pB,.slice aE pC.length zH] 38 0 true)]] F36 L F nx0) ?_ fun s hS=>?_)
 rcases aO (((z134||(decide (((gt ((gt y17.1 x46.1).2.2) x97.1).2.2)<1)))||(decide (((gt ((gt y17.1 x46.1).2.2) x97.1).2.1)<x97.2.2.1)))) with hcj | hcj
 replace hS:=hS.know (t:=131) rfl (congrArg Value.bool hcj)
 replace hS:=hS.know (t:=132) rfl (congrArg Value.bool hcj)
 refine sg0 hS 6 [] [138] [undef] [] (by kernel_rfl) fun s hS=>(ku hS (wu hS rfl rfl rfl) rfl fun s hS=>?_)
 refine ku hS (wu hS rfl rfl rfl) rfl fun s hS=>(ku hS (wu hS rfl rfl rfl) rfl fun s hS=>?_)
 refine ku hS (wu hS rfl rfl rfl) rfl fun s hS=>(ku hS (wu hS rfl rfl rfl) rfl fun s hS=>?_)
 refine sg0 hS 2 [] [145] [.bool true] [] (by kernel_rfl) fun s hS=>(KW.nil ?_)
 exact(hS.know (t:=145) (u':= .bool (((z134||(decide (((gt ((gt y17.1 x46.1).2.2) x97.1).2.2)<1)))||(decide (((gt ((gt y17.1 x46.1).2.2) x97.1).2.1)<x97.2.2.1)))||((((gt ((gt y17.1 x46.1).2.2) x97.1).2.1)==x97.2.2.1)&&(decide (((gt ((gt y17.1 x46.1).2.2) x97.1).2.2)≤x97.2.2.2))))) rfl (dz hcj)).subR rfl
 replace hS:=hS.know (t:=131) rfl (congrArg Value.bool hcj)
 replace hS:=hS.know (t:=132) rfl (congrArg Value.bool hcj)
 refine sg0 hS 6 [0,1] [138] [.bool (((gt ((gt y17.1 x46.1).2.2) x97.1).2.1)==x97.2.2.1)] [i129,i45] (by kernel_rfl) fun s hS=>(bg 6 (fun s=>Stt EV s [(144,.bool ((((gt ((gt y17.1 x46.1).2.2) x97.1).2.1)==x97.2.2.1)&&(decide (((gt ((gt y17.1 x46.1).2.2) x97.1).2.2)≤x97.2.2.2)))),(1,.pointer (some ⟨i1,0,none⟩)),(2,.bool false),(3,.slice (some ⟨i52,0,none⟩) y17.1.length 3),(6,.slice a37 y34.1.length z38),(9,.pointer (some ⟨i45,0,none⟩)),(10,.int .i64 x46.1),(11,.int .i64 x97.1),(12,.pointer (some ⟨i129,0,none⟩)),(132,.bool false)] [[(i129,.row [.int .i64 ((gt ((gt y17.1 x46.1).2.2) x97.1).1),.int .i64 ((gt ((gt y17.1 x46.1).2.2) x97.1).2.1),.int .i64 ((gt ((gt y17.1 x46.1).2.2) x97.1).2.2)] 58 0 true)],[(i45,.row [.int .i64 x97.2.1,.int .i64 x97.2.2.1,.int .i64 x97.2.2.2] 58 0 true)],B40,[(i52,.row (cs53++ex54) 61 3 true)],[(i1,.row [ac pA,.bool pB,.slice aE pC.length zH] 38 0 true)]] F36 L F nx0) ?_ fun s hS=>?_)
 rcases aO ((((gt ((gt y17.1 x46.1).2.2) x97.1).2.1)==x97.2.2.1)) with hcj | hcj
 replace hS:=hS.know (t:=138) rfl (congrArg Value.bool hcj)
 refine sg0 hS 6 [0,1] [144] [.bool (decide (((gt ((gt y17.1 x46.1).2.2) x97.1).2.2)≤x97.2.2.2))] [i129,i45] (by kernel_rfl) fun s hS=>(KW.nil ?_)
 exact(hS.know (t:=144) (u':= .bool ((((gt ((gt y17.1 x46.1).2.2) x97.1).2.1)==x97.2.2.1)&&(decide (((gt ((gt y17.1 x46.1).2.2) x97.1).2.2)≤x97.2.2.2)))) rfl (dK hcj)).subR rfl
 replace hS:=hS.know (t:=138) rfl (congrArg Value.bool hcj)
 refine sg0 hS 6 [] [144] [.bool false] [] (by kernel_rfl) fun s hS=>(KW.nil ?_)
 exact(hS.know (t:=144) (u':= .bool ((((gt ((gt y17.1 x46.1).2.2) x97.1).2.1)==x97.2.2.1)&&(decide (((gt ((gt y17.1 x46.1).2.2) x97.1).2.2)≤x97.2.2.2)))) rfl (dL hcj)).subR rfl
 refine sg0 hS 1 [] [145] [.bool ((((gt ((gt y17.1 x46.1).2.2) x97.1).2.1)==x97.2.2.1)&&(decide (((gt ((gt y17.1 x46.1).2.2) x97.1).2.2)≤x97.2.2.2)))] [] (by kernel_rfl) fun s hS=>(KW.nil ?_)
 exact(hS.know (t:=145) (u':= .bool (((z134||(decide (((gt ((gt y17.1 x46.1).2.2) x97.1).2.2)<1)))||(decide (((gt ((gt y17.1 x46.1).2.2) x97.1).2.1)<x97.2.2.1)))||((((gt ((gt y17.1 x46.1).2.2) x97.1).2.1)==x97.2.2.1)&&(decide (((gt ((gt y17.1 x46.1).2.2) x97.1).2.2)≤x97.2.2.2))))) rfl (dA hcj)).subR rfl
 refine KW.nil (bc h100 (fun hc146 h100=>?_) fun hc146 h100=>?_)
 refine WW.condK hS rfl hc146 (WW.seq ?_)
 refine WW.region (sg0 hS 1 [] [2] [.bool false] [] (by kernel_rfl) fun s hS=>?_)
 refine KW.nil (WW.ret ?_)
 replace hS:=hS.drop
 replace hS:=hS.drop
 replace hS:=hS.drop
 replace hS:=hS.drop
 replace hS:=hS.drop
 cases h100
 exact⟨_,rfl,rfl,aM hS (.inr rfl) 2 rfl rfl ⟨((FLe.trans hF15 (FLe.trans hF24 (FLe.trans hF32 hF41)))),rfl,rfl⟩⟩
 refine WW.condF hS rfl hc146 (WW.skip ?_)
 refine WW.seq (WW.region ?_)
 refine sg0 hS 1 [] [13] [vB 32] [] (by kernel_rfl) fun s hS=>(KW.nil ?_)
 obtain⟨z147,hz147,h100⟩:=bind_some h100
 refine WW.seqJ (fun s=>Stt EV s [(1,.pointer (some ⟨i1,0,none⟩)),(2,.bool false),(3,.slice (some ⟨i52,0,none⟩) y17.1.length 3),(6,.slice a37 y34.1.length z38),(9,.pointer (some ⟨i45,0,none⟩)),(10,.int .i64 x46.1),(11,.int .i64 x97.1),(12,.pointer (some ⟨i129,0,none⟩)),(13,vB z147)] [[(i129,.row [.int .i64 ((gt ((gt y17.1 x46.1).2.2) x97.1).1),.int .i64 ((gt ((gt y17.1 x46.1).2.2) x97.1).2.1),.int .i64 ((gt ((gt y17.1 x46.1).2.2) x97.1).2.2)] 58 0 true)],[(i45,.row [.int .i64 x97.2.1,.int .i64 x97.2.2.1,.int .i64 x97.2.2.2] 58 0 true)],B40,[(i52,.row (cs53++ex54) 61 3 true)],[(i1,.row [ac pA,.bool pB,.slice aE pC.length zH] 38 0 true)]] F36 L F nx0) ?_ ?_
 refine WW.seq (WW.regionD (i:=[[],[],[1,0],[1,0],[3,2,1,0],[3,2,1,0],[1,0],[1,0],[1,0],[]]) (by kernel_rfl) ?_)
 have hq:=RS.start [i129,i45,i52,i1]
 refine kg hS hq 1 [146] [.pointer (some ⟨i129,2,none⟩)] (by kernel_rfl) fun s rs hS hq=>(K.ld hS hq rfl (wn rfl) rfl rfl rfl (hS.at (k:=0) rfl) tg3 (v:= .int .i64 ((gt ((gt y17.1 x46.1).2.2) x97.1).2.2)) rfl 0 rfl rfl fun s rs hS hq=>?_)
 refine kg hS hq 1 [148] [.pointer (some ⟨i1,2,none⟩)] (by kernel_rfl) fun s rs hS hq=>(K.ld hS hq rfl (wn rfl) rfl rfl rfl (hS.at (k:=4) rfl) qw (v:= .slice aE pC.length zH) rfl 3 rfl rfl fun s rs hS hq=>?_)
 refine kg hS hq 1 [150] [.pointer (some ⟨i129,1,none⟩)] (by kernel_rfl) fun s rs hS hq=>(K.ld hS hq rfl (wn rfl) rfl rfl rfl (hS.at (k:=0) rfl) tg3 (v:= .int .i64 ((gt ((gt y17.1 x46.1).2.2) x97.1).2.1)) rfl 0 rfl rfl fun s rs hS hq=>?_)
 obtain⟨hk148,hz147⟩:=aa hz147
 obtain⟨i154,of155,rfl⟩:=Frz.addr hI (by omega)
 obtain⟨_,_,_,_,c149,hF156,hR150,hN151,hN152,hT153⟩:=Frz.at (hI.mono (FLe.trans hF15 (FLe.trans hF24 (FLe.trans hF32 hF41)))) hk148 (m:=1) rfl
 obtain rfl:=hR150
 refine K.pu hS hq rfl (wn rfl) rfl rfl rfl (v:= .pointer (some ⟨i154,of155+(((gt ((gt y17.1 x46.1).2.2) x97.1).2.1)).toNat*1,none⟩)) (aZ (hS.lk rfl) (hS.lk rfl) je hk148) fun s rs hS hq=>?_
 replace hq:=hq.more i154 rfl rfl rfl
 refine K.ld hS hq rfl (wn rfl) rfl rfl rfl (hS.fat hF156) tg9 (v:=ac (gt pC ((gt ((gt y17.1 x46.1).2.2) x97.1).2.1))) hN151 4 rfl rfl fun s rs hS hq=>(kg hS hq 2 [155] [.bool (decide (((gt ((gt y17.1 x46.1).2.2) x97.1).2.2)≤((gt pC ((gt ((gt y17.1 x46.1).2.2) x97.1).2.1)).length:Int)))] (by kernel_rfl) fun s rs hS hq=>?_)
 refine KW.nil (bc hz147 (fun hc157 hz147=>?_) fun hc157 hz147=>?_)
 refine WW.condK hS rfl hc157 (WW.regionD (i:=[[],[],[1,0],[1,0],[],[],[5,4,3,2,1,0],[5,4,3,2,1,0],[5,4,3,2,1,0],[],[]]) (by kernel_rfl) ?_)
 have hq:=RS.start [i129,i45,i52,i1]
 refine kg hS hq 1 [156] [.pointer (some ⟨i1,2,none⟩)] (by kernel_rfl) fun s rs hS hq=>(K.ld hS hq rfl (wn rfl) rfl rfl rfl (hS.at (k:=4) rfl) qw (v:= .slice (some ⟨i154,of155,none⟩) pC.length zH) rfl 3 rfl rfl fun s rs hS hq=>?_)
 refine kg hS hq 1 [158] [.pointer (some ⟨i129,1,none⟩)] (by kernel_rfl) fun s rs hS hq=>(K.ld hS hq rfl (wn rfl) rfl rfl rfl (hS.at (k:=0) rfl) tg3 (v:= .int .i64 ((gt ((gt y17.1 x46.1).2.2) x97.1).2.1)) rfl 0 rfl rfl fun s rs hS hq=>?_)
 obtain⟨hk158,hz147⟩:=aa hz147
 obtain⟨_,_,_,_,c159,hF164,hR160,hN161,hN162,hT163⟩:=Frz.at (hI.mono (FLe.trans hF15 (FLe.trans hF24 (FLe.trans hF32 hF41)))) hk158 (m:=1) rfl
 obtain rfl:=hR160
 refine K.pu hS hq rfl (wn rfl) rfl rfl rfl (v:= .pointer (some ⟨i154,of155+(((gt ((gt y17.1 x46.1).2.2) x97.1).2.1)).toNat*1,none⟩)) (aZ (hS.lk rfl) (hS.lk rfl) je hk158) fun s rs hS hq=>?_
 replace hq:=hq.more i154 rfl rfl rfl
 refine K.ld hS hq rfl (wn rfl) rfl rfl rfl (hS.fat hF164) tg9 (v:=ac (gt pC ((gt ((gt y17.1 x46.1).2.2) x97.1).2.1))) hN161 4 rfl rfl fun s rs hS hq=>(kg hS hq 1 [162] [.pointer (some ⟨i129,2,none⟩)] (by kernel_rfl) fun s rs hS hq=>?_)
 refine K.ld hS hq rfl (wn rfl) rfl rfl rfl (hS.at (k:=0) rfl) tg3 (v:= .int .i64 ((gt ((gt y17.1 x46.1).2.2) x97.1).2.2)) rfl 0 rfl rfl fun s rs hS hq=>(kg hS hq 1 [164] [.int .i64 (w64 (((gt ((gt y17.1 x46.1).2.2) x97.1).2.2)-1))] (by kernel_rfl) fun s rs hS hq=>?_)
 obtain⟨hk165,hz147⟩:=aa hz147
 refine K.pu hS hq rfl (wn rfl) rfl rfl rfl (v:=vB (gt (gt pC ((gt ((gt y17.1 x46.1).2.2) x97.1).2.1)) (w64 (((gt ((gt y17.1 x46.1).2.2) x97.1).2.2)-1)))) (bT tu9 (hS.lk rfl) (hS.lk rfl) hk165) fun s rs hS hq=>(kg hS hq 1 [13] [vB (gt (gt pC ((gt ((gt y17.1 x46.1).2.2) x97.1).2.1)) (w64 (((gt ((gt y17.1 x46.1).2.2) x97.1).2.2)-1)))] (by kernel_rfl) fun s rs hS hq=>?_)
 refine KW.nil ?_
 obtain rfl:=Option.some.inj hz147
 exact(hS.subR rfl)
 refine WW.condF hS rfl hc157 (WW.skip ?_)
 obtain rfl:=Option.some.inj hz147
 exact(hS.subR rfl)
 rintro s hS
 refine WW.seq (WW.seq ?_)
 refine WW.region (sg0 hS 3 [] [166,167,168] [vB z147,.slice (some ⟨i52,0,none⟩) y17.1.length 3,.int .i64 x46.1] [] (by kernel_rfl) fun s hS=>?_)
 obtain⟨hk166,h100⟩:=aa h100
 obtain⟨c167,hR168,hN170,hN169,hT171⟩:=ai.loadF (hC55.mono (FLe.trans hF32 hF41)) ex54 hk166 (z:=3) rfl
 obtain⟨a172,z173,rfl,hz174⟩:=hR168
 refine aq hS (wn rfl) rfl rfl rfl (v:= .pointer (some ⟨i52,0+(x46.1).toNat*3,none⟩)) (aZ (hS.lk rfl) (hS.lk rfl) mD hk166) fun s hS=>(aq hS (wn rfl) rfl rfl rfl (v:= .pointer (some ⟨i52,0+(x46.1).toNat*3+1,none⟩)) (ce (hS.lk rfl) kz rfl rfl) fun s hS=>?_)
 refine eO hS (wn rfl) rfl rfl rfl (hS.at (k:=3) rfl) tg9 (v:=ac ((gt y17.1 x46.1).2.1)) (hN170 1 (by decide)) fun s hS=>(sg0 hS 1 [] [172] [.int .i64 x97.1] [] (by kernel_rfl) fun s hS=>?_)
 obtain⟨hk175,h100⟩:=aa h100
 refine aq hS (wn rfl) rfl rfl rfl (v:=vB (gt ((gt y17.1 x46.1).2.1) x97.1)) (bT tu9 (hS.lk rfl) (hS.lk rfl) hk175) fun s hS=>(sg0 hS 1 [] [174] [.bool ((z147.toNat:Int) != ((gt ((gt y17.1 x46.1).2.1) x97.1).toNat:Int))] [] (by kernel_rfl) fun s hS=>?_)
 refine KW.nil (bc h100 (fun hc176 h100=>?_) fun hc176 h100=>?_)
 refine WW.condK hS rfl hc176 (WW.seq ?_)
 refine WW.region (sg0 hS 1 [] [2] [.bool false] [] (by kernel_rfl) fun s hS=>?_)
 refine KW.nil (WW.ret ?_)
 replace hS:=hS.drop
 replace hS:=hS.drop
 replace hS:=hS.drop
 replace hS:=hS.drop
 replace hS:=hS.drop
 cases h100
 exact⟨_,rfl,rfl,aM hS (.inr rfl) 2 rfl rfl ⟨((FLe.trans hF15 (FLe.trans hF24 (FLe.trans hF32 hF41)))),rfl,rfl⟩⟩
 refine WW.condF hS rfl hc176 (WW.skip ?_)
 refine WW.region (sg hS 2 [0,1] [] [] [i129,i45] [[(i129,.row [.int .i64 ((gt ((gt y17.1 x46.1).2.2) x97.1).1),.int .i64 ((gt ((gt y17.1 x46.1).2.2) x97.1).2.1),.int .i64 ((gt ((gt y17.1 x46.1).2.2) x97.1).2.2)] 58 0 true)],[(i45,.row [.int .i64 ((gt ((gt y17.1 x46.1).2.2) x97.1).1),.int .i64 ((gt ((gt y17.1 x46.1).2.2) x97.1).2.1),.int .i64 ((gt ((gt y17.1 x46.1).2.2) x97.1).2.2)] 58 0 true)],B40,[(i52,.row (cs53++ex54) 61 3 true)],[(i1,.row [ac pA,.bool pB,.slice aE pC.length zH] 38 0 true)]] (by kernel_rfl) fun s hS=>?_)
 refine KW.nil (WW.region ?_)
 refine sg0 hS 3 [] [11] [.int .i64 (w64 (x97.1+1))] [] (by kernel_rfl) fun s hS=>(KW.nil ?_)
 replace hS:=hS.drop
 obtain rfl:=Option.some.inj h100
 exact⟨_,rfl,(hS.subR rfl)⟩
 refine WW.condF hS rfl hc110 (WW.exit ?_)
 refine av ?_
 obtain rfl:=Option.some.inj h100
 exact⟨_,rfl,rfl,(hS.subR rfl)⟩
 clear hS
 rcases o98 with y177 | y177
 rintro e s ⟨rfl,hS⟩
 replace h49:=mz h49
 refine am (WW.region ?_)
 refine sg0 hS 3 [] [10] [.int .i64 (w64 (x46.1+1))] [] (by kernel_rfl) fun s hS=>(KW.nil ?_)
 obtain rfl:=Option.some.inj h49
 exact⟨_,rfl,(hS.subR rfl)⟩
 rintro e s ⟨rfl,hfin⟩
 replace h49:=mA h49
 obtain rfl:=Option.some.inj h49
 exact⟨_,rfl,rfl,hfin⟩
 refine WW.condF hS rfl hc50 (WW.exit ?_)
 refine av ?_
 obtain rfl:=Option.some.inj h49
 exact⟨_,rfl,rfl,(hS.subR rfl)⟩
 clear hS
 rcases o47 with y178 | y178
 rintro e s ⟨rfl,hS⟩
 replace h:=bA h
 refine am (WW.seq ?_)
 refine WW.region (sg0 hS 1 [] [2] [.bool true] [] (by kernel_rfl) fun s hS=>?_)
 refine KW.nil (WW.ret ?_)
 replace hS:=hS.drop
 replace hS:=hS.drop
 replace hS:=hS.drop
 replace hS:=hS.drop
 cases h
 exact aM hS (.inr rfl) 2 rfl rfl ⟨((FLe.trans hF15 (FLe.trans hF24 (FLe.trans hF32 hF41)))),rfl,rfl⟩
 rintro e s ⟨rfl,hfin⟩
 replace h:=bB h
 obtain rfl:=Option.some.inj h
 exact hfin
end Go.Proofs.YtjcbhbncncbdjaaGreatDoorAi
