import Derived.Test.YtjcbhbncncbdjaaGreatDoorApE
import Derived.Test.YtjcbhbncncbdjaaGreatDoorApE
/-
Functions of the program, told in Lean, and the proofs that their runs come to these answers (printed by ap.py, a program of this session).
-/
namespace Go.Proofs.YtjcbhbncncbdjaaGreatDoorAi
set_option maxHeartbeats 4000000
open Go Go.RowKit
set_option linter.unusedVariables false
set_option linter.unusedSimpArgs false
set_option maxRecDepth 100000
theorem o7:aS EV.P 24=some [.int .i64 0]:=by kernel_rfl
theorem t0_58:aS EV.P 58=some [.int .i64 0,.int .i64 0,.int .i64 0]:=by kernel_rfl
theorem mE:aS EV.P 61=some [.int .i64 0,aa [],.slice none 0 0]:=by kernel_rfl
theorem t0_9:aS EV.P 9=some [aa []]:=by kernel_rfl
theorem db:ApT EV.P #[36,36] 9 1:=oK (t:=36) (t2:=36) rfl rfl (by kernel_rfl) (u:=(.slice 9)) (by kernel_rfl) rfl (by kernel_rfl) (by kernel_rfl) (by decide)
theorem ta40_40:ApT EV.P #[40,40] 61 3:=oK (t:=40) (t2:=40) rfl rfl (by kernel_rfl) (u:=(.slice 61)) (by kernel_rfl) rfl (by kernel_rfl) (by kernel_rfl) (by decide)
theorem ta59_59:ApT EV.P #[59,59] 58 3:=oK (t:=59) (t2:=59) rfl rfl (by kernel_rfl) (u:=(.slice 58)) (by kernel_rfl) rfl (by kernel_rfl) (by kernel_rfl) (by decide)
theorem tb5:cV EV.P 5=true:=by kernel_rfl
theorem te133:dB EV.P 133=some 1:=by kernel_rfl
theorem iz:dB EV.P 36=some 1:=by kernel_rfl
theorem jO:dB EV.P 40=some 3:=by kernel_rfl
theorem te83:dB EV.P 83=some 1:=by kernel_rfl
theorem pa:fieldAt EV.P 61 0=some (0,1,3):=by kernel_rfl
theorem lJ:fieldAt EV.P 61 1=some (1,1,9):=by kernel_rfl
theorem tg24:(EV.P.underlying 24).map df=some false:=by kernel_rfl
theorem tg3:(EV.P.underlying 3).map df=some false:=by kernel_rfl
theorem tg5:(EV.P.underlying 5).map df=some false:=by kernel_rfl
theorem tg61:(EV.P.underlying 61).map df=some true:=by kernel_rfl
theorem tg9:(EV.P.underlying 9).map df=some false:=by kernel_rfl
theorem tq4eql: ∀{nx:Nat} {ty:TypeId} {ρ:Operand→Value} {b:Option Blk} {x y:Operand} {u:TypeId} {p q:Bool} (hx:ρ x= .bool p) (hy:ρ y= .bool q),ai (.binOp .eql 4 x y u) EV.P nx ty ρ b=some (.bool (p==q),.none):=by
  intro nx ty ρ b x y u p q hx hy
  show ar (gb EV.P .eql 4 x y (ρ x) (ρ y))=_
  rw[hx,hy]
  cases p<;>cases q<;>kernel_rfl
theorem pb:EV.P.underlying 133=some (.slice 24):=by kernel_rfl
theorem tu21:EV.P.underlying 21=some (.int .i32):=by kernel_rfl
theorem tu3:EV.P.underlying 3=some (.int .i64):=by kernel_rfl
theorem tu36:EV.P.underlying 36=some (.slice 9):=by kernel_rfl
theorem tu40:EV.P.underlying 40=some (.slice 61):=by kernel_rfl
theorem tu5:EV.P.underlying 5=some (.int .u8):=by kernel_rfl
theorem tu59:EV.P.underlying 59=some (.slice 58):=by kernel_rfl
theorem tu83:EV.P.underlying 83=some (.slice 5):=by kernel_rfl
theorem tu9:EV.P.underlying 9=some .string:=by kernel_rfl
theorem tz24:aU EV.P 24=some 1:=by kernel_rfl
theorem tz58:aU EV.P 58=some 3:=by kernel_rfl
theorem pc:aU EV.P 61=some 3:=by kernel_rfl
theorem tz9:aU EV.P 9=some 1:=by kernel_rfl
def tb:Tab:=⟨[((61,0),(0,1,3)),((61,1),(1,1,9)),((61,2),(2,1,59))],[(3,false),(5,false),(9,false),(59,false),(61,true)],[(59,1),(61,3)],[36,40,83,133],[9]⟩
theorem pd:tb.ok EV.P:=Tab.ok_of (by kernel_rfl) (by kernel_rfl) (by kernel_rfl) (by kernel_rfl) (by kernel_rfl)
section
variable {ops:Array Oper} {Q:St→Prop} {kn:Kn} {S L:List Seg} {F F0:FZ} {nx0:Nat} {l:List Oper} {s:St}
theorem sg (hS:Stt EV s kn S F L F0 nx0) (n:Nat) (hs ts:List Nat) (vs:List Value) (is:List Nat) (S':List Seg) (h:mw tb EV.NG ops kn S (l.take n) hs ts=some (vs.map some,S',is,is,true))
    (k: ∀s',Stt EV s' (jL ts vs kn) S' F L F0 nx0→QW EV (l.drop n) ops s' Q):QW EV l ops s Q:=my pd hS n hs ts vs is S' h k
theorem sg0 (hS:Stt EV s kn S F L F0 nx0) (n:Nat) (hs ts:List Nat) (vs:List Value) (is:List Nat) (h:mw tb EV.NG ops kn S (l.take n) hs ts=some (vs.map some,S,is,is,true))
    (k: ∀s',Stt EV s' (jL ts vs kn) S F L F0 nx0→QW EV (l.drop n) ops s' Q):QW EV l ops s Q:=my pd hS n hs ts vs is S h k
theorem kg {inf:Option (List (List Nat))} {rs:List Rec} {zs:List Nat} {n:Nat} {qs ls:List Nat} {qa qn qd:List (Nat×Nat)} (hS:Stt EV s kn S F L F0 nx0) (hq:RS zs rs n qs ls qa qn qd) (m:Nat) (ts:List Nat) (vs:List Value) (h:syD tb EV.NG ops kn S l inf m ts=some (vs.map some,true,true,true))
    (k: ∀s' rs',Stt EV s' (jL ts vs kn) S F L F0 nx0→RS zs rs' (n+m) (upq m n qs) ls qa qn qd→KW EV (l.drop m) ops (kF m inf) rs' s' Q):KW EV l ops inf rs s Q:=K.seg pd hS hq m ts vs h k
theorem cK {g:FuncId} {ws:List Value} {Sc:List Seg} {Φ:Value→List Seg→FZ→Prop} (hT:Cl EV g ws Sc F Φ) (hS:Stt EV s kn S F L F0 nx0) (n d c:Nat) (hc:ec c S=Sc) (h:syC tb EV.NG ops n l kn S=some (g,ws.map some,d,true))
    (k: ∀s' v S' F',Φ v S' F'→FLe F F'→Stt EV s' ((d,v)::kn) (S'++dC c S) F' L F0 nx0→QW EV (l.drop (n+1)) ops s' Q):QW EV l ops s Q:=q_cK hT pd hS n d c hc h k
theorem cR {g:FuncId} {ws:List Value} {Sc S0:List Seg} {v0:Value} (hT:Cl EV g ws Sc F (fun v S' F'=>F=F'∧v=v0∧S'=S0)) (hS:Stt EV s kn S F L F0 nx0) (n d c:Nat) (hc:ec c S=Sc) (h:syC tb EV.NG ops n l kn S=some (g,ws.map some,d,true))
    (k: ∀s',Stt EV s' ((d,v0)::kn) (S0++dC c S) F L F0 nx0→QW EV (l.drop (n+1)) ops s' Q):QW EV l ops s Q:=q_cR hT pd hS n d c hc h k
end
def pe:El (Int×Int×Int):=⟨3,58,fun _ x c=>c= [.int .i64 x.1,.int .i64 x.2.1,.int .i64 x.2.2],fun h=>by rw[h]; rfl,by decide,fun _ h=>h⟩
def d7:El (Int×List UInt8×(List (Int×Int×Int))):=⟨3,61,fun F x c=> ∃(a2:Option Addr) (z2:Nat),c= [.int .i64 x.1,aa x.2.1,.slice a2 x.2.2.length z2]∧Frz pe F a2 z2 x.2.2,fun h=>by obtain⟨a2,z2,rfl,h2⟩:=h; rfl,by decide,fun hf h=>by obtain⟨a2,z2,rfl,h2⟩:=h; exact⟨_,_,rfl,h2.mono hf⟩⟩
noncomputable def g_5.b0 (pA:List (Int×List UInt8×(List (Int×Int×Int)))) (x1:Int):Option ((Int)⊕((Int)⊕(Bool))) :=
  (if(decide (x1<(pA.length:Int))) then(if 0≤x1∧x1<(pA.length:Int) then(if(decide ((((gt pA x1).2.1).length:Int)>1400)) then some (.inr (.inr false)) else some (.inl (w64 (x1+1)))) else none) else some (.inr (.inl x1)))
noncomputable def g_5.f (pA:List (Int×List UInt8×(List (Int×Int×Int)))):Option (Bool) :=
  Option.bind (iter (g_5.b0 pA) 0) fun o2=>cu o2 fun y19=>some (decide ((pA.length:Int)≤410))
theorem g_5.ok {aC:Option Addr} {zD:Nat} {pA:List (Int×List UInt8×(List (Int×Int×Int)))} {F:FZ} {r:Bool} (h:g_5.f pA=some r) (hE:Frz d7 F aC zD pA) :
    Cl EV 28 [.slice aC pA.length zD] [] F (fun v S' F'=>F=F'∧v= .bool r∧S'= []):=by
 refine Cl.of Tryz.func28 rfl (fun _ _=>rfl) (by kernel_rfl) fun s L nx0 hS=>?_
 unfold g_5.f at h
 refine WW.seq (WW.region ?_)
 refine sg0 hS 1 [] [2] [.bool false] [] (by kernel_rfl) fun s hS=>(KW.nil ?_)
 refine WW.seq (WW.seq ?_)
 refine WW.region (sg0 hS 1 [] [3] [.int .i64 0] [] (by kernel_rfl) fun s hS=>?_)
 refine KW.nil (WW.block ?_)
 obtain⟨o2,ho2,h⟩:=bind_some h
 refine WW.loop (LW.iterS ho2 (fun(x1:Int) s=>Stt EV s [(0,.slice aC pA.length zD),(2,.bool false),(3,.int .i64 x1)] [] F L F nx0) 0 (fun r=>g6 EV Tryz.f28 L F nx0 (fun v S' F'=>F=F'∧v= .bool r∧S'= [])) (hS.subR rfl) ?_ ?_)
 clear hS
 rintro x1 s hS o2' h4
 unfold g_5.b0 at h4
 refine WW.seq (WW.seq ?_)
 refine WW.region (sg0 hS 4 [] [7] [.bool (decide (x1<(pA.length:Int)))] [] (by kernel_rfl) fun s hS=>?_)
 refine KW.nil (bc h4 (fun hc5 h4=>?_) fun hc5 h4=>?_)
 refine WW.condK hS rfl hc5 (WW.skip ?_)
 refine WW.seq (WW.block ?_)
 refine WW.seq (WW.region ?_)
 refine sg0 hS 2 [] [10,11] [.slice aC pA.length zD,.int .i64 x1] [] (by kernel_rfl) fun s hS=>?_
 obtain⟨hk6,h4⟩:=ac h4
 obtain⟨i12,of13,rfl⟩:=Frz.addr hE (by omega)
 obtain⟨_,_,_,_,c7,hF14,hR8,hN9,hN10,hT11⟩:=Frz.at hE hk6 (m:=3) rfl
 obtain⟨a15,z16,rfl,hz17⟩:=hR8
 refine aD hS (wn rfl) rfl rfl rfl (v:= .pointer (some ⟨i12,of13+(x1).toNat*3,none⟩)) (aY (hS.lk rfl) (hS.lk rfl) jO hk6) fun s hS=>(aD hS (wn rfl) rfl rfl rfl (v:= .pointer (some ⟨i12,of13+(x1).toNat*3+1,none⟩)) (dy (hS.lk rfl) lJ rfl rfl) fun s hS=>?_)
 refine g8 hS (wn rfl) rfl rfl rfl (hS.fat hF14) tg9 (v:=aa ((gt pA x1).2.1)) (hN10 1 (by decide)) fun s hS=>(sg0 hS 2 [] [16] [.bool (decide ((((gt pA x1).2.1).length:Int)>1400))] [] (by kernel_rfl) fun s hS=>?_)
 refine KW.nil (bc h4 (fun hc18 h4=>?_) fun hc18 h4=>?_)
 refine WW.condK hS rfl hc18 (WW.seq ?_)
 refine WW.region (sg0 hS 1 [] [2] [.bool false] [] (by kernel_rfl) fun s hS=>?_)
 refine KW.nil (WW.ret ?_)
 cases h4
 exact⟨_,rfl,rfl,aP hS (.inr rfl) 2 rfl rfl ⟨rfl,rfl,rfl⟩⟩
 refine WW.condF hS rfl hc18 (WW.skip ?_)
 refine WW.region (sg0 hS 3 [] [3] [.int .i64 (w64 (x1+1))] [] (by kernel_rfl) fun s hS=>?_)
 refine KW.nil ?_
 obtain rfl:=Option.some.inj h4
 exact⟨_,rfl,(hS.subR rfl)⟩
 refine WW.condF hS rfl hc5 (WW.exit ?_)
 refine ax ?_
 obtain rfl:=Option.some.inj h4
 exact⟨_,rfl,rfl,(hS.subR rfl)⟩
 clear hS
 rcases o2 with y19 | y19
 rintro e s ⟨rfl,hS⟩
 replace h:=bC h
 refine au (WW.seq ?_)
 refine WW.region (sg0 hS 4 [] [2] [.bool (decide ((pA.length:Int)≤410))] [] (by kernel_rfl) fun s hS=>?_)
 refine KW.nil (WW.ret ?_)
 cases h
 exact aP hS (.inr rfl) 2 rfl rfl ⟨rfl,rfl,rfl⟩
 rintro e s ⟨rfl,hfin⟩
 replace h:=bD h
 obtain rfl:=Option.some.inj h
 exact hfin
noncomputable def g_6.b0 (pA:List (Int×List UInt8×(List (Int×Int×Int)))) (x1:(List (Int×List UInt8×(List (Int×Int×Int))))×Int):Option (((List (Int×List UInt8×(List (Int×Int×Int))))×Int)⊕((List (Int×List UInt8×(List (Int×Int×Int))))×Int)) :=
  (if(decide (x1.2<(pA.length:Int))) then(if 0≤x1.2∧x1.2<(pA.length:Int) then(if([]:List (Int×Int×Int)).length+((gt pA x1.2).2.2).length<5864062014635 then(if x1.1.length+([(((gt pA x1.2).1),((gt pA x1.2).2.1),(([]:List (Int×Int×Int))++((gt pA x1.2).2.2)))]:List (Int×List UInt8×(List (Int×Int×Int)))).length<1000000000 then some (.inl ((x1.1++([(((gt pA x1.2).1),((gt pA x1.2).2.1),(([]:List (Int×Int×Int))++((gt pA x1.2).2.2)))]:List (Int×List UInt8×(List (Int×Int×Int))))),(w64 (x1.2+1)))) else none) else none) else none) else some (.inr (x1.1,x1.2)))
noncomputable def g_6.f (pA:List (Int×List UInt8×(List (Int×Int×Int)))):Option ((List (Int×List UInt8×(List (Int×Int×Int))))) :=
  Option.bind (iter (g_6.b0 pA) (([]:List (Int×List UInt8×(List (Int×Int×Int)))),0)) fun o8=>some o8.1
theorem g_6.ok {aC:Option Addr} {zD:Nat} {pA:List (Int×List UInt8×(List (Int×Int×Int)))} {F:FZ} {r:(List (Int×List UInt8×(List (Int×Int×Int))))} (h:g_6.f pA=some r) (hE:Frz d7 F aC zD pA) :
    Cl EV 30 [.slice aC pA.length zD] [] F (fun v S' F'=> ∃(ra1:Option Addr) (rz2:Nat) (rB4:Seg),FLe F F'∧v= .slice ra1 r.length rz2∧S'= [rB4]∧Own d7 F' ra1 rz2 r rB4):=by
 refine Cl.of Tryz.func30 rfl (fun _ _=>rfl) (by kernel_rfl) fun s L nx0 hS=>?_
 unfold g_6.f at h
 refine WW.seq (WW.region ?_)
 refine sg0 hS 1 [] [2] [.slice none 0 0] [] (by kernel_rfl) fun s hS=>(KW.nil ?_)
 refine WW.seq (WW.region ?_)
 refine sg0 hS 1 [] [3] [.slice none 0 0] [] (by kernel_rfl) fun s hS=>(KW.nil ?_)
 refine WW.seq (WW.seq ?_)
 refine WW.region (sg0 hS 1 [] [4] [.int .i64 0] [] (by kernel_rfl) fun s hS=>?_)
 refine KW.nil (WW.block ?_)
 replace hS:=hS.gap0
 obtain⟨o8,ho8,h⟩:=bind_some h
 refine WW.loop (LW.iterE ho8 (fun(x1:(List (Int×List UInt8×(List (Int×Int×Int))))×Int) s=> ∃(a4:Option Addr) (z5:Nat) (B7:Seg) (F2:FZ),Stt EV s [(0,.slice aC pA.length zD),(2,.slice none 0 0),(3,.slice a4 x1.1.length z5),(4,.int .i64 x1.2)] [B7] F2 L F nx0∧Own d7 F2 a4 z5 x1.1 B7∧FLe F F2) 0 ⟨_,_,_,_,(hS.subR rfl),Own.nil,(FLe.refl _)⟩ ?_ ?_)
 clear hS
 rintro x1 s ⟨a4,z5,B7,F2,hS,h6,hF3⟩ o8' h16
 unfold g_6.b0 at h16
 refine WW.seq (WW.seq ?_)
 refine WW.region (sg0 hS 4 [] [9] [.bool (decide (x1.2<(pA.length:Int)))] [] (by kernel_rfl) fun s hS=>?_)
 refine KW.nil (bc h16 (fun hc17 h16=>?_) fun hc17 h16=>?_)
 refine WW.condK hS rfl hc17 (WW.skip ?_)
 refine WW.seq (WW.block ?_)
 refine WW.seq (WW.region ?_)
 refine sg0 hS 2 [] [12,13] [.slice aC pA.length zD,.int .i64 x1.2] [] (by kernel_rfl) fun s hS=>?_
 obtain⟨hk18,h16⟩:=ac h16
 obtain⟨i24,of25,rfl⟩:=Frz.addr hE (by omega)
 obtain⟨_,_,_,_,c19,hF26,hR20,hN21,hN22,hT23⟩:=Frz.at (hE.mono hF3) hk18 (m:=3) rfl
 obtain⟨a27,z28,rfl,hz29⟩:=hR20
 refine aD hS (wn rfl) rfl rfl rfl (v:= .pointer (some ⟨i24,of25+(x1.2).toNat*3,none⟩)) (aY (hS.lk rfl) (hS.lk rfl) jO hk18) fun s hS=>(kE hS (wn rfl) rfl rfl rfl (hS.fat hF26) tg61 pc (vs:=[.int .i64 ((gt pA x1.2).1),aa ((gt pA x1.2).2.1),.slice a27 ((gt pA x1.2).2.2).length z28]) hT23 fun s hS=>?_)
 refine dP hS (wn rfl) rfl rfl rfl (v:=fun i=> .pointer (some ⟨i,0,none⟩)) (b:= .row [.int .i64 0,aa ([]),.slice none 0 0] 61 0 true) (fF mE) fun s i30 hS=>(sg hS 1 [0] [] [] [i30] [[(i30,.row [.int .i64 ((gt pA x1.2).1),aa ((gt pA x1.2).2.1),.slice a27 ((gt pA x1.2).2.2).length z28] 61 0 true)],B7] (by kernel_rfl) fun s hS=>?_)
 refine KW.nil (WW.seq ?_)
 refine WW.region (dP hS (wn rfl) rfl rfl rfl (v:=fun i=> .slice (some ⟨i,0,none⟩) 0 3) (b:= .row [] 58 3 true) (cw tu59 tz58 t0_58 rfl [] (bW hS rfl) rfl) fun s i31 hS=>?_)
 have hC32:af pe F2 ([]:List (Int×Int×Int)) []:=rfl
 refine sg0 hS 2 [1] [18] [.slice a27 ((gt pA x1.2).2.2).length z28] [i30] (by kernel_rfl) fun s hS=>?_
 obtain⟨hk36,h16⟩:=ac h16
 refine q_apFb hS (wn rfl) (dd:=pe) (lst:=([]:List (Int×Int×Int))) (m:=((gt pA x1.2).2.2)) rfl rfl ta59_59 rfl rfl (Own.blk0 hC32) hz29 ⟨_,rfl,by decide⟩ hk36 fun s a37 z38 B39 hO40 hS=>(sg hS 2 [1] [] [] [i30] [B39,[(i30,.row [.int .i64 ((gt pA x1.2).1),aa ((gt pA x1.2).2.1),.slice a37 (([]:List (Int×Int×Int))++((gt pA x1.2).2.2)).length z38] 61 0 true)],B7] (by kernel_rfl) fun s hS=>?_)
 refine KW.nil (WW.region ?_)
 refine sg0 hS 2 [1] [21,22] [.slice a4 x1.1.length z5,.agg #[.int .i64 ((gt pA x1.2).1),aa ((gt pA x1.2).2.1),.slice a37 (([]:List (Int×Int×Int))++((gt pA x1.2).2.2)).length z38]] [i30] (by kernel_rfl) fun s hS=>?_
 obtain⟨F41,hF42,hS,hz43⟩:=hS.frzO hO40
 refine dP hS (wn rfl) rfl rfl rfl (v:=fun i=> .slice (some ⟨i,0,none⟩) 1 3) (b:= .row [.int .i64 ((gt pA x1.2).1),aa ((gt pA x1.2).2.1),.slice a37 (([]:List (Int×Int×Int))++((gt pA x1.2).2.2)).length z38] 61 3 true) (cw tu40 pc mE rfl [(0,.agg #[.int .i64 ((gt pA x1.2).1),aa ((gt pA x1.2).2.1),.slice a37 (([]:List (Int×Int×Int))++((gt pA x1.2).2.2)).length z38])] (bW hS rfl) rfl) fun s i44 hS=>?_
 have hC45:af d7 F41 ([(((gt pA x1.2).1),((gt pA x1.2).2.1),(([]:List (Int×Int×Int))++((gt pA x1.2).2.2)))]:List (Int×List UInt8×(List (Int×Int×Int)))) [.int .i64 ((gt pA x1.2).1),aa ((gt pA x1.2).2.1),.slice a37 (([]:List (Int×Int×Int))++((gt pA x1.2).2.2)).length z38]:=⟨[.int .i64 ((gt pA x1.2).1),aa ((gt pA x1.2).2.1),.slice a37 (([]:List (Int×Int×Int))++((gt pA x1.2).2.2)).length z38],[],rfl,⟨_,_,rfl,hz43⟩,rfl⟩
 obtain⟨hk49,h16⟩:=ac h16
 replace hS:=hS.pull 2
 replace hS:=hS.pull 1
 refine mo hS (wn rfl) (dd:=d7) (lst:=x1.1) (m:=([(((gt pA x1.2).1),((gt pA x1.2).2.1),(([]:List (Int×Int×Int))++((gt pA x1.2).2.2)))]:List (Int×List UInt8×(List (Int×Int×Int))))) rfl rfl ta40_40 rfl rfl (h6.mono hF42) (Nat.succ_pos _) hC45 hk49 fun s i46 cs47 hC48 hS=>(sg0 hS 1 [] [3] [.slice (some ⟨i46,0,none⟩) (x1.1++([(((gt pA x1.2).1),((gt pA x1.2).2.1),(([]:List (Int×Int×Int))++((gt pA x1.2).2.2)))]:List (Int×List UInt8×(List (Int×Int×Int))))).length 3] [] (by kernel_rfl) fun s hS=>?_)
 refine KW.nil (WW.region ?_)
 refine sg0 hS 3 [] [4] [.int .i64 (w64 (x1.2+1))] [] (by kernel_rfl) fun s hS=>(KW.nil ?_)
 replace hS:=(hS.pull 1).drop
 obtain rfl:=Option.some.inj h16
 exact⟨_,rfl,_,_,_,_,(hS.subR rfl),(Own.blk0 hC48),(FLe.trans hF3 hF42)⟩
 refine WW.condF hS rfl hc17 (WW.exit ?_)
 refine ax ?_
 obtain rfl:=Option.some.inj h16
 exact⟨_,rfl,rfl,_,_,_,_,(hS.subR rfl),h6,hF3⟩
 clear hS
 rintro e s ⟨rfl,a52,z53,B55,F50,hS,h54,hF51⟩
 refine au (WW.seq ?_)
 refine WW.region (sg0 hS 2 [] [2] [.slice a52 o8.1.length z53] [] (by kernel_rfl) fun s hS=>?_)
 refine KW.nil (WW.ret ?_)
 cases h
 exact aP hS (.inr rfl) 2 rfl rfl ⟨_,_,_,(hF51),rfl,rfl,h54⟩
noncomputable def g_w.f (pA:Int) (pB:Int) (pC:Int):Option (Bool) :=
  some ((decide (pB≤pA))&&(decide (pA≤pC)))
theorem g_w.ok {pA:Int} {pB:Int} {pC:Int} {F:FZ} {r:Bool} (h:g_w.f pA pB pC=some r) :
    Cl EV 82 [.int .i64 pA,.int .i64 pB,.int .i64 pC] [] F (fun v S' F'=>F=F'∧v= .bool r∧S'= []):=by
 refine Cl.of Tryz.func82 rfl (fun _ _=>rfl) (by kernel_rfl) fun s L nx0 hS=>?_
 unfold g_w.f at h
 refine WW.seq (WW.region ?_)
 refine sg0 hS 1 [] [6] [.bool false] [] (by kernel_rfl) fun s hS=>(KW.nil ?_)
 refine WW.seq (WW.region ?_)
 refine sg0 hS 4 [] [10] [.bool (decide (pB≤pA))] [] (by kernel_rfl) fun s hS=>(bZ 4 (fun s=>Stt EV s [(14,.bool ((decide (pB≤pA))&&(decide (pA≤pC)))),(6,.bool false)] [] F L F nx0) ?_ fun s hS=>?_)
 rcases az ((decide (pB≤pA))) with hcj | hcj
 replace hS:=hS.know (t:=10) rfl (congrArg Value.bool hcj)
 refine sg0 hS 4 [] [14] [.bool (decide (pA≤pC))] [] (by kernel_rfl) fun s hS=>(KW.nil ?_)
 exact(hS.know (t:=14) (u':= .bool ((decide (pB≤pA))&&(decide (pA≤pC)))) rfl (bX hcj)).subR rfl
 replace hS:=hS.know (t:=10) rfl (congrArg Value.bool hcj)
 refine sg0 hS 4 [] [14] [.bool false] [] (by kernel_rfl) fun s hS=>(KW.nil ?_)
 exact(hS.know (t:=14) (u':= .bool ((decide (pB≤pA))&&(decide (pA≤pC)))) rfl (bY hcj)).subR rfl
 refine sg0 hS 1 [] [6] [.bool ((decide (pB≤pA))&&(decide (pA≤pC)))] [] (by kernel_rfl) fun s hS=>(KW.nil ?_)
 refine WW.ret ?_
 cases h
 exact aP hS (.inr rfl) 6 rfl rfl ⟨rfl,rfl,rfl⟩
noncomputable def g_v.f (pA:Bool) (pB:Int):Option (Int) :=
  (if pA then some 0 else some pB)
theorem g_v.ok {pA:Bool} {pB:Int} {F:FZ} {r:Int} (h:g_v.f pA pB=some r) :
    Cl EV 50 [.bool pA,.int .i64 pB] [] F (fun v S' F'=>F=F'∧v= .int .i64 r∧S'= []):=by
 refine Cl.of Tryz.func50 rfl (fun _ _=>rfl) (by kernel_rfl) fun s L nx0 hS=>?_
 unfold g_v.f at h
 refine WW.seq (WW.region ?_)
 refine sg0 hS 1 [] [4] [.int .i64 0] [] (by kernel_rfl) fun s hS=>(KW.nil ?_)
 refine WW.seq (WW.seq ?_)
 refine WW.region (sg0 hS 1 [] [5] [.bool pA] [] (by kernel_rfl) fun s hS=>?_)
 refine KW.nil (bc h (fun hc1 h=>?_) fun hc1 h=>?_)
 refine WW.condK hS rfl hc1 (WW.seq ?_)
 refine WW.region (sg0 hS 1 [] [4] [.int .i64 0] [] (by kernel_rfl) fun s hS=>?_)
 refine KW.nil (WW.ret ?_)
 cases h
 exact aP hS (.inr rfl) 4 rfl rfl ⟨rfl,rfl,rfl⟩
 refine WW.condF hS rfl hc1 (WW.skip ?_)
 refine WW.seq (WW.region ?_)
 refine sg0 hS 2 [] [4] [.int .i64 pB] [] (by kernel_rfl) fun s hS=>(KW.nil ?_)
 refine WW.ret ?_
 cases h
 exact aP hS (.inr rfl) 4 rfl rfl ⟨rfl,rfl,rfl⟩
noncomputable def g_o.f (pA:Int) (pC:UInt8):Option (Bool) :=
  some ((decide (pA<(IntKind.i32.wrap (pC.toNat:Int))))||(decide (pA>126)))
theorem g_o.ok {iC:Nat} {pA:Int} {pC:UInt8} {F:FZ} {r:Bool} (h:g_o.f pA pC=some r) :
    Cl EV 85 [.int .i32 pA,.pointer (some ⟨iC,0,none⟩)] [[(iC,.row [vB pC] 5 0 true)]] F (fun v S' F'=>F=F'∧v= .bool r∧S'= [[(iC,.row [vB pC] 5 0 true)]]):=by
 refine Cl.of Tryz.func85 rfl (fun _ _=>rfl) (by kernel_rfl) fun s L nx0 hS=>?_
 unfold g_o.f at h
 refine WW.seq (WW.region ?_)
 refine sg0 hS 1 [] [3] [.bool false] [] (by kernel_rfl) fun s hS=>(KW.nil ?_)
 refine WW.seq (WW.region ?_)
 refine sg0 hS 2 [0] [4,5] [.int .i32 pA,vB pC] [iC] (by kernel_rfl) fun s hS=>(aD hS (wn rfl) rfl rfl (lF hS rfl rfl) (v:= .int .i32 (IntKind.i32.wrap (pC.toNat:Int))) (ml (hS.lk rfl) tu5 tu21) fun s hS=>?_)
 refine sg0 hS 2 [] [8] [.bool (decide (pA<(IntKind.i32.wrap (pC.toNat:Int))))] [] (by kernel_rfl) fun s hS=>(bZ 3 (fun s=>Stt EV s [(11,.bool ((decide (pA<(IntKind.i32.wrap (pC.toNat:Int))))||(decide (pA>126)))),(3,.bool false)] [[(iC,.row [vB pC] 5 0 true)]] F L F nx0) ?_ fun s hS=>?_)
 rcases az ((decide (pA<(IntKind.i32.wrap (pC.toNat:Int))))) with hcj | hcj
 replace hS:=hS.know (t:=8) rfl (congrArg Value.bool hcj)
 refine sg0 hS 3 [] [11] [.bool true] [] (by kernel_rfl) fun s hS=>(KW.nil ?_)
 exact(hS.know (t:=11) (u':= .bool ((decide (pA<(IntKind.i32.wrap (pC.toNat:Int))))||(decide (pA>126)))) rfl (c9 hcj)).subR rfl
 replace hS:=hS.know (t:=8) rfl (congrArg Value.bool hcj)
 refine sg0 hS 3 [] [11] [.bool (decide (pA>126))] [] (by kernel_rfl) fun s hS=>(KW.nil ?_)
 exact(hS.know (t:=11) (u':= .bool ((decide (pA<(IntKind.i32.wrap (pC.toNat:Int))))||(decide (pA>126)))) rfl (da hcj)).subR rfl
 refine sg0 hS 1 [] [3] [.bool ((decide (pA<(IntKind.i32.wrap (pC.toNat:Int))))||(decide (pA>126)))] [] (by kernel_rfl) fun s hS=>(KW.nil ?_)
 refine WW.ret ?_
 cases h
 exact aP hS (.inr rfl) 3 rfl rfl ⟨rfl,rfl,rfl⟩
noncomputable def g_y.b0 (pA:List UInt8) (pC:UInt8) (pD:Bool) (x2:Nat):Option ((Nat)⊕((Nat)⊕(Int))) :=
  (if(decide (x2<pA.length)) then Option.bind (g_o.f ((dec pA x2).1:Int) pC) fun y7=>(if(y7==pD) then some (.inr (.inr (x2:Int))) else some (.inl (x2+(dec pA x2).2))) else some (.inr (.inl x2)))
noncomputable def g_y.f (pA:List UInt8) (pC:UInt8) (pD:Bool):Option (Int) :=
  Option.bind (iter (g_y.b0 pA pC pD) 0) fun o3=>cu o3 fun y10=>some (-1)
theorem g_y.ok {iC:Nat} {pA:List UInt8} {pC:UInt8} {pD:Bool} {F:FZ} {r:Int} (h:g_y.f pA pC pD=some r) :
    Cl EV 127 [aa pA,.func (.func 85) #[] #[.pointer (some ⟨iC,0,none⟩)],.bool pD] [[(iC,.row [vB pC] 5 0 true)]] F (fun v S' F'=>F=F'∧v= .int .i64 r∧S'= [[(iC,.row [vB pC] 5 0 true)]]):=by
 refine Cl.of Tryz.func127 rfl (fun _ _=>rfl) (by kernel_rfl) fun s L nx0 hS=>?_
 unfold g_y.f at h
 refine WW.seq (WW.region ?_)
 refine sg0 hS 1 [] [6] [.int .i64 0] [] (by kernel_rfl) fun s hS=>(KW.nil ?_)
 refine WW.seq (WW.seq ?_)
 refine WW.region (sg0 hS 1 [] [9] [aa pA] [] (by kernel_rfl) fun s hS=>?_)
 refine dP hS (wn rfl) rfl rfl rfl (v:=fun i=> .pointer (some ⟨i,0,none⟩)) (b:= .iter ⟨pA.toArray⟩ 0) (aop_rng tu9 (hS.lk rfl)) fun s i1 hS=>(KW.nil ?_)
 refine WW.block ?_
 obtain⟨o3,ho3,h⟩:=bind_some h
 refine WW.loop (LW.iterS ho3 (fun(x2:Nat) s=>Stt EV s [(1,.func (.func 85) #[] #[.pointer (some ⟨iC,0,none⟩)]),(2,.bool pD),(6,.int .i64 0),(10,.pointer (some ⟨i1,0,none⟩))] [[(i1,.iter ⟨pA.toArray⟩ x2)],[(iC,.row [vB pC] 5 0 true)]] F L F nx0) 0 (fun r=>g6 EV Tryz.f127 L F nx0 (fun v S' F'=>F=F'∧v= .int .i64 r∧S'= [[(iC,.row [vB pC] 5 0 true)]])) (hS.subR rfl) ?_ ?_)
 clear hS
 rintro x2 s hS o3' h5
 unfold g_y.b0 at h5
 refine WW.seq (WW.region ?_)
 refine bc h5 (fun hc6 h5=>?_) fun hc6 h5=>?_
 refine q_up hS (wn rfl) rfl rfl (oL hS rfl) (p:=0) rfl (aop_nx1 (hS.lk rfl) (of_decide_eq_true hc6)) fun s hS=>(sg0 hS 1 [] [12] [.bool true] [] (by kernel_rfl) fun s hS=>?_)
 refine KW.nil (WW.seq ?_)
 refine WW.condK hS rfl rfl (WW.skip ?_)
 refine WW.block (WW.seq ?_)
 refine WW.region (sg0 hS 4 [] [7,8] [.int .i64 (x2:Int),.int .i32 ((dec pA x2).1:Int)] [] (by kernel_rfl) fun s hS=>?_)
 refine KW.nil (WW.seq ?_)
 refine WW.region ?_
 obtain⟨y7,hy7,h5⟩:=bind_some h5
 replace hS:=hS.pull 1
 refine cR (g_o.ok hy7) hS 2 17 1 rfl (by kernel_rfl) fun s hS=>(sg0 hS 1 [] [18] [.bool pD] [] (by kernel_rfl) fun s hS=>?_)
 refine aD hS (wn rfl) rfl rfl rfl (v:= .bool (y7==pD)) (tq4eql (hS.lk rfl) (hS.lk rfl)) fun s hS=>(KW.nil ?_)
 refine bc h5 (fun hc9 h5=>?_) fun hc9 h5=>?_
 refine WW.condK hS rfl hc9 (WW.seq ?_)
 refine WW.region (sg0 hS 2 [] [6] [.int .i64 (x2:Int)] [] (by kernel_rfl) fun s hS=>?_)
 refine KW.nil (WW.ret ?_)
 replace hS:=(hS.pull 1).drop
 cases h5
 exact⟨_,rfl,rfl,aP hS (.inr rfl) 6 rfl rfl ⟨rfl,rfl,rfl⟩⟩
 refine WW.condF hS rfl hc9 (WW.skip ?_)
 replace hS:=hS.pull 1
 obtain rfl:=Option.some.inj h5
 exact⟨_,rfl,(hS.subR rfl)⟩
 refine q_rd hS (wn rfl) rfl rfl (oL hS rfl) (hS.at (k:=0) rfl) (aop_nx0 (hS.lk rfl) (of_decide_eq_false hc6)) fun s hS=>(sg0 hS 1 [] [12] [.bool false] [] (by kernel_rfl) fun s hS=>?_)
 refine KW.nil (WW.seq ?_)
 refine WW.condF hS rfl rfl (WW.exit ?_)
 refine ax ?_
 obtain rfl:=Option.some.inj h5
 exact⟨_,rfl,rfl,(hS.subR rfl)⟩
 clear hS
 rcases o3 with y10 | y10
 rintro e s ⟨rfl,hS⟩
 replace h:=bC h
 refine au (WW.seq ?_)
 refine WW.region (sg0 hS 1 [] [6] [.int .i64 (-1)] [] (by kernel_rfl) fun s hS=>?_)
 refine KW.nil (WW.ret ?_)
 replace hS:=hS.drop
 cases h
 exact aP hS (.inr rfl) 6 rfl rfl ⟨rfl,rfl,rfl⟩
 rintro e s ⟨rfl,hfin⟩
 replace h:=bD h
 obtain rfl:=Option.some.inj h
 exact hfin
noncomputable def g_x.f (pA:List UInt8) (pC:UInt8):Option (Int) :=
  Option.bind (g_y.f pA pC true) fun y1=>some y1
theorem g_x.ok {iC:Nat} {pA:List UInt8} {pC:UInt8} {F:FZ} {r:Int} (h:g_x.f pA pC=some r) :
    Cl EV 84 [aa pA,.func (.func 85) #[] #[.pointer (some ⟨iC,0,none⟩)]] [[(iC,.row [vB pC] 5 0 true)]] F (fun v S' F'=>F=F'∧v= .int .i64 r∧S'= [[(iC,.row [vB pC] 5 0 true)]]):=by
 refine Cl.of Tryz.func84 rfl (fun _ _=>rfl) (by kernel_rfl) fun s L nx0 hS=>?_
 unfold g_x.f at h
 refine WW.seq (WW.region ?_)
 refine sg0 hS 1 [] [4] [.int .i64 0] [] (by kernel_rfl) fun s hS=>(KW.nil ?_)
 refine WW.seq (WW.region ?_)
 obtain⟨y1,hy1,h⟩:=bind_some h
 refine cR (g_y.ok hy1) hS 2 7 1 rfl (by kernel_rfl) fun s hS=>(sg0 hS 1 [] [4] [.int .i64 y1] [] (by kernel_rfl) fun s hS=>?_)
 refine KW.nil (WW.ret ?_)
 cases h
 exact aP hS (.inr rfl) 4 rfl rfl ⟨rfl,rfl,rfl⟩
noncomputable def g_n.f (pA:List UInt8) (pB:UInt8):Option (Bool) :=
  Option.bind (g_x.f pA pB) fun y2=>some (decide (y2<0))
theorem g_n.ok {pA:List UInt8} {pB:UInt8} {F:FZ} {r:Bool} (h:g_n.f pA pB=some r) :
    Cl EV 52 [aa pA,vB pB] [] F (fun v S' F'=>F=F'∧v= .bool r∧S'= []):=by
 refine Cl.of Tryz.func52 rfl (fun _ _=>rfl) (by kernel_rfl) fun s L nx0 hS=>?_
 unfold g_n.f at h
 refine WW.seq (WW.region ?_)
 refine dP hS (wn rfl) rfl rfl rfl (v:=fun i=> .pointer (some ⟨i,0,none⟩)) (b:= .row [vB pB] 5 0 true) (fc (hS.lk rfl) rfl [vB pB] rfl) fun s i1 hS=>(sg0 hS 1 [] [4] [.bool false] [] (by kernel_rfl) fun s hS=>?_)
 refine KW.nil (WW.seq ?_)
 refine WW.region (sg0 hS 1 [] [5] [aa pA] [] (by kernel_rfl) fun s hS=>?_)
 refine aD hS (wn rfl) rfl rfl rfl (v:= .func (.func 85) #[] #[.pointer (some ⟨i1,0,none⟩)]) (aop_mf (lE hS (vs:=[]) rfl) (lE hS (vs:=[.pointer (some ⟨i1,0,none⟩)]) rfl)) fun s hS=>?_
 obtain⟨y2,hy2,h⟩:=bind_some h
 refine cR (g_x.ok hy2) hS 0 7 1 rfl (by kernel_rfl) fun s hS=>(sg0 hS 2 [] [4] [.bool (decide (y2<0))] [] (by kernel_rfl) fun s hS=>?_)
 refine KW.nil (WW.ret ?_)
 replace hS:=hS.drop
 cases h
 exact aP hS (.inr rfl) 4 rfl rfl ⟨rfl,rfl,rfl⟩
noncomputable def g_j.b0 (pA:List Int) (x1:Int):Option ((Int)⊕((Int)⊕(Int))) :=
  (if(decide (x1<(pA.length:Int))) then(if 0≤x1∧x1<(pA.length:Int) then(if((gt pA x1) != 0) then some (.inr (.inr (gt pA x1))) else some (.inl (w64 (x1+1)))) else none) else some (.inr (.inl x1)))
noncomputable def g_j.f (pA:List Int):Option (Int) :=
  Option.bind (iter (g_j.b0 pA) 0) fun o2=>cu o2 fun y16=>some 0
theorem g_j.ok {aC:Option Addr} {zD:Nat} {pA:List Int} {F:FZ} {r:Int} (h:g_j.f pA=some r) (hE:Frz (elI .i64 24) F aC zD pA) :
    Cl EV 49 [.slice aC pA.length zD] [] F (fun v S' F'=>F=F'∧v= .int .i64 r∧S'= []):=by
 refine Cl.of Tryz.func49 rfl (fun _ _=>rfl) (by kernel_rfl) fun s L nx0 hS=>?_
 unfold g_j.f at h
 refine WW.seq (WW.region ?_)
 refine sg0 hS 1 [] [2] [.int .i64 0] [] (by kernel_rfl) fun s hS=>(KW.nil ?_)
 refine WW.seq (WW.seq ?_)
 refine WW.region (sg0 hS 3 [] [5,6,7] [.slice aC pA.length zD,.int .i64 (pA.length:Int),.int .i64 0] [] (by kernel_rfl) fun s hS=>?_)
 refine KW.nil (WW.block ?_)
 obtain⟨o2,ho2,h⟩:=bind_some h
 refine WW.loop (LW.iterS ho2 (fun(x1:Int) s=>Stt EV s [(2,.int .i64 0),(5,.slice aC pA.length zD),(6,.int .i64 (pA.length:Int)),(7,.int .i64 x1)] [] F L F nx0) 0 (fun r=>g6 EV Tryz.f49 L F nx0 (fun v S' F'=>F=F'∧v= .int .i64 r∧S'= [])) (hS.subR rfl) ?_ ?_)
 clear hS
 rintro x1 s hS o2' h4
 unfold g_j.b0 at h4
 refine WW.seq (WW.region ?_)
 refine sg0 hS 1 [] [8] [.bool (decide (x1<(pA.length:Int)))] [] (by kernel_rfl) fun s hS=>(KW.nil ?_)
 refine WW.seq (bc h4 (fun hc5 h4=>?_) fun hc5 h4=>?_)
 refine WW.condK hS rfl hc5 (WW.skip ?_)
 refine WW.seq (WW.block ?_)
 refine WW.seq (WW.region ?_)
 obtain⟨hk6,h4⟩:=ac h4
 obtain⟨i12,of13,rfl⟩:=Frz.addr hE (by omega)
 obtain⟨_,_,_,_,c7,hF14,hR8,hN9,hN10,hT11⟩:=Frz.at hE hk6 (m:=1) rfl
 obtain rfl:=hR8
 refine aD hS (wn rfl) rfl rfl rfl (v:= .pointer (some ⟨i12,of13+(x1).toNat*1,none⟩)) (aY (hS.lk rfl) (hS.lk rfl) te133 hk6) fun s hS=>(g8 hS (wn rfl) rfl rfl rfl (hS.fat hF14) tg24 (v:= .int .i64 (gt pA x1)) hN9 fun s hS=>?_)
 refine sg0 hS 1 [] [4] [.int .i64 (gt pA x1)] [] (by kernel_rfl) fun s hS=>(KW.nil ?_)
 refine WW.seq (WW.region ?_)
 refine sg0 hS 2 [] [12] [.bool ((gt pA x1) != 0)] [] (by kernel_rfl) fun s hS=>(KW.nil ?_)
 refine bc h4 (fun hc15 h4=>?_) fun hc15 h4=>?_
 refine WW.condK hS rfl hc15 (WW.seq ?_)
 refine WW.region (sg0 hS 2 [] [2] [.int .i64 (gt pA x1)] [] (by kernel_rfl) fun s hS=>?_)
 refine KW.nil (WW.ret ?_)
 cases h4
 exact⟨_,rfl,rfl,aP hS (.inr rfl) 2 rfl rfl ⟨rfl,rfl,rfl⟩⟩
 refine WW.condF hS rfl hc15 (WW.skip ?_)
 refine WW.region (sg0 hS 2 [] [7] [.int .i64 (w64 (x1+1))] [] (by kernel_rfl) fun s hS=>?_)
 refine KW.nil ?_
 obtain rfl:=Option.some.inj h4
 exact⟨_,rfl,(hS.subR rfl)⟩
 refine WW.condF hS rfl hc5 (WW.exit ?_)
 refine ax ?_
 obtain rfl:=Option.some.inj h4
 exact⟨_,rfl,rfl,(hS.subR rfl)⟩
 clear hS
 rcases o2 with y16 | y16
 rintro e s ⟨rfl,hS⟩
 replace h:=bC h
 refine au (WW.seq ?_)
 refine WW.region (sg0 hS 1 [] [2] [.int .i64 0] [] (by kernel_rfl) fun s hS=>?_)
 refine KW.nil (WW.ret ?_)
 cases h
 exact aP hS (.inr rfl) 2 rfl rfl ⟨rfl,rfl,rfl⟩
 rintro e s ⟨rfl,hfin⟩
 replace h:=bD h
 obtain rfl:=Option.some.inj h
 exact hfin
noncomputable def g_u.f (pA:List UInt8):Option (Int) :=
  Option.bind (g_v.f (decide ((pA.length:Int)≤1320)) 8) fun y1=>Option.bind (g_n.f pA 32) fun y3=>Option.bind (g_v.f y3 3) fun y5=>Option.bind (g_j.f ([y1,y5]:List Int)) fun y12=>some y12
theorem g_u.ok {pA:List UInt8} {F:FZ} {r:Int} (h:g_u.f pA=some r) :
    Cl EV 77 [aa pA] [] F (fun v S' F'=>FLe F F'∧v= .int .i64 r∧S'= []):=by
 refine Cl.of Tryz.func77 rfl (fun _ _=>rfl) (by kernel_rfl) fun s L nx0 hS=>?_
 unfold g_u.f at h
 refine WW.seq (WW.region ?_)
 refine sg0 hS 1 [] [2] [.int .i64 0] [] (by kernel_rfl) fun s hS=>(KW.nil ?_)
 refine WW.seq (WW.region ?_)
 obtain⟨y1,hy1,h⟩:=bind_some h
 refine cR (g_v.ok hy1) hS 3 6 0 rfl (by kernel_rfl) fun s hS=>?_
 obtain⟨y3,hy3,h⟩:=bind_some h
 refine cR (g_n.ok hy3) hS 1 8 0 rfl (by kernel_rfl) fun s hS=>?_
 obtain⟨y5,hy5,h⟩:=bind_some h
 refine cR (g_v.ok hy5) hS 0 9 0 rfl (by kernel_rfl) fun s hS=>(dP hS (wn rfl) rfl rfl rfl (v:=fun i=> .slice (some ⟨i,0,none⟩) 2 1) (b:= .row [.int .i64 y1,.int .i64 y5] 24 1 true) (cw pb tz24 o7 rfl [(0,.int .i64 y1),(1,.int .i64 y5)] (bW hS rfl) rfl) fun s i7 hS=>?_)
 have hC8:af (elI .i64 24) F ([y1,y5]:List Int) [.int .i64 y1,.int .i64 y5]:=⟨[.int .i64 y1],[.int .i64 y5],rfl,rfl,⟨[.int .i64 y5],[],rfl,rfl,rfl⟩⟩
 obtain⟨F9,hF10,hS,hz11⟩:=hS.frzO (Own.blk0 hC8)
 obtain⟨y12,hy12,h⟩:=bind_some h
 refine cR (g_j.ok hy12 hz11) hS 0 11 0 rfl (by kernel_rfl) fun s hS=>(sg0 hS 1 [] [2] [.int .i64 y12] [] (by kernel_rfl) fun s hS=>?_)
 refine KW.nil (WW.ret ?_)
 cases h
 exact aP hS (.inr rfl) 2 rfl rfl ⟨(hF10),rfl,rfl⟩
noncomputable def g_t.f (pA:Int) (pB:List UInt8):Option (Int) :=
  Option.bind (g_w.f pA 0 99999) fun y2=>Option.bind (g_v.f y2 31) fun y4=>Option.bind (g_u.f pB) fun y6=>Option.bind (g_v.f (!decide (pB= [])) 17) fun y10=>Option.bind (g_Trim.f pB ([32])) fun y12=>Option.bind (g_v.f (decide (y12=pB)) 3) fun y14=>Option.bind (g_j.f ([y4,y6,y10,y14]:List Int)) fun y21=>some y21
theorem g_t.ok {aE:Option Addr} {zH:Nat} {pA:Int} {pB:List UInt8} {pC:List (Int×Int×Int)} {F:FZ} {r:Int} (h:g_t.f pA pB=some r) :
    Cl EV 93 [.agg #[.int .i64 pA,aa pB,.slice aE pC.length zH]] [] F (fun v S' F'=>FLe F F'∧v= .int .i64 r∧S'= []):=by
 refine Cl.of Tryz.func93 rfl (fun _ _=>rfl) (by kernel_rfl) fun s L nx0 hS=>?_
 unfold g_t.f at h
 refine WW.seq (WW.region ?_)
 refine dP hS (wn rfl) rfl rfl rfl (v:=fun i=> .pointer (some ⟨i,0,none⟩)) (b:= .row [.int .i64 pA,aa pB,.slice aE pC.length zH] 61 0 true) (fc (hS.lk rfl) rfl [.int .i64 pA,aa pB,.slice aE pC.length zH] rfl) fun s i1 hS=>(sg0 hS 1 [] [2] [.int .i64 0] [] (by kernel_rfl) fun s hS=>?_)
 refine KW.nil (WW.seq ?_)
 refine WW.regionD (i:=[[],[],[],[],[3,2,1,0],[3,2,1,0],[],[6,5,4,3,2,1,0],[6,5,4,3,2,1,0],[6,5,4,3,2,1,0],[],[10,9,8,7,6,5,4,3,2,1,0],[10,9,8,7,6,5,4,3,2,1,0],[],[13,12,11,10,9,8,7,6,5,4,3,2,1,0],[13,12,11,10,9,8,7,6,5,4,3,2,1,0],[],[],[],[],[]]) (by kernel_rfl) ?_
 have hq:=RS.start [i1]
 refine kg hS hq 1 [3] [.pointer (some ⟨i1,0,none⟩)] (by kernel_rfl) fun s rs hS hq=>(K.ld hS hq rfl (wn rfl) rfl rfl rfl (hS.at (k:=0) rfl) tg3 (v:= .int .i64 pA) rfl 0 rfl rfl fun s rs hS hq=>?_)
 obtain⟨y2,hy2,h⟩:=bind_some h
 refine K.cl hS hq rfl (wn rfl) (vs:=[.int .i64 pA,.int .i64 0,.int .i64 99999]) (ws:=[.int .i64 pA,.int .i64 0,.int .i64 99999]) rfl rfl rfl rfl rfl 0 rfl (g_w.ok hy2)  [0] rfl rfl (g9 rfl mm0 fW) fun s rs v S' F' hp3 hF hS hq=>?_
 obtain⟨rfl,rfl,rfl⟩:=hp3
 obtain⟨y4,hy4,h⟩:=bind_some h
 refine K.cl hS hq rfl (wn rfl) (vs:=[.bool y2,.int .i64 31]) (ws:=[.bool y2,.int .i64 31]) rfl rfl rfl rfl rfl 0 rfl (g_v.ok hy4)  [0] rfl rfl (g9 rfl mm0 fW) fun s rs v S' F' hp5 hF hS hq=>?_
 obtain⟨rfl,rfl,rfl⟩:=hp5
 refine kg hS hq 1 [7] [.pointer (some ⟨i1,1,none⟩)] (by kernel_rfl) fun s rs hS hq=>(K.ld hS hq rfl (wn rfl) rfl rfl rfl (hS.at (k:=0) rfl) tg9 (v:=aa pB) rfl 0 rfl rfl fun s rs hS hq=>?_)
 obtain⟨y6,hy6,h⟩:=bind_some h
 refine K.cl hS hq rfl (wn rfl) (vs:=[aa pB]) (ws:=[aa pB]) rfl rfl rfl rfl rfl 0 rfl (g_u.ok hy6)  [0] rfl rfl (g9 rfl mm0 fW) fun s rs v S' F8 hp7 hF hS hq=>?_
 obtain⟨hF9,rfl,rfl⟩:=hp7
 refine kg hS hq 1 [10] [.pointer (some ⟨i1,1,none⟩)] (by kernel_rfl) fun s rs hS hq=>(K.ld hS hq rfl (wn rfl) rfl rfl rfl (hS.at (k:=0) rfl) tg9 (v:=aa pB) rfl 0 rfl rfl fun s rs hS hq=>?_)
 refine K.pu hS hq rfl (wn rfl) rfl rfl rfl (v:= .bool (!decide (pB= []))) (mm (hS.lk rfl) (hS.lk rfl)) fun s rs hS hq=>?_
 obtain⟨y10,hy10,h⟩:=bind_some h
 refine K.cl hS hq rfl (wn rfl) (vs:=[.bool (!decide (pB= [])),.int .i64 17]) (ws:=[.bool (!decide (pB= [])),.int .i64 17]) rfl rfl rfl rfl rfl 0 rfl (g_v.ok hy10)  [0] rfl rfl (g9 rfl mm0 fW) fun s rs v S' F' hp11 hF hS hq=>?_
 obtain⟨rfl,rfl,rfl⟩:=hp11
 refine kg hS hq 1 [14] [.pointer (some ⟨i1,1,none⟩)] (by kernel_rfl) fun s rs hS hq=>(K.ld hS hq rfl (wn rfl) rfl rfl rfl (hS.at (k:=0) rfl) tg9 (v:=aa pB) rfl 0 rfl rfl fun s rs hS hq=>?_)
 obtain⟨y12,hy12,h⟩:=bind_some h
 refine K.cl hS hq rfl (wn rfl) (vs:=[aa pB,aa ([32])]) (ws:=[aa pB,aa ([32])]) rfl rfl rfl rfl rfl 0 rfl (g_Trim.ok hy12)  [0] rfl rfl (g9 rfl mm0 fW) fun s rs v S' F' hp13 hF hS hq=>?_
 obtain⟨rfl,rfl,rfl⟩:=hp13
 refine kg hS hq 1 [17] [.pointer (some ⟨i1,1,none⟩)] (by kernel_rfl) fun s rs hS hq=>(K.ld hS hq rfl (wn rfl) rfl rfl rfl (hS.at (k:=0) rfl) tg9 (v:=aa pB) rfl 0 rfl rfl fun s rs hS hq=>?_)
 refine K.pu hS hq rfl (wn rfl) rfl rfl rfl (v:= .bool (decide (y12=pB))) (jH (hS.lk rfl) (hS.lk rfl)) fun s rs hS hq=>?_
 obtain⟨y14,hy14,h⟩:=bind_some h
 refine K.cl hS hq rfl (wn rfl) (vs:=[.bool (decide (y12=pB)),.int .i64 3]) (ws:=[.bool (decide (y12=pB)),.int .i64 3]) rfl rfl rfl rfl rfl 0 rfl (g_v.ok hy14)  [0] rfl rfl (g9 rfl mm0 fW) fun s rs v S' F' hp15 hF hS hq=>?_
 obtain⟨rfl,rfl,rfl⟩:=hp15
 refine K.nw hS hq rfl (wn rfl) rfl rfl rfl (v:=fun i=> .slice (some ⟨i,0,none⟩) 4 1) (b:= .row [.int .i64 y4,.int .i64 y6,.int .i64 y10,.int .i64 y14] 24 1 true) (cw pb tz24 o7 rfl [(0,.int .i64 y4),(1,.int .i64 y6),(2,.int .i64 y10),(3,.int .i64 y14)] (bW hS rfl) rfl) [0] (g9 rfl mm0 fW) rfl rfl rfl fun s rs i16 hS hq=>?_
 have hC17:af (elI .i64 24) F8 ([y4,y6,y10,y14]:List Int) [.int .i64 y4,.int .i64 y6,.int .i64 y10,.int .i64 y14]:=⟨[.int .i64 y4],[.int .i64 y6,.int .i64 y10,.int .i64 y14],rfl,rfl,⟨[.int .i64 y6],[.int .i64 y10,.int .i64 y14],rfl,rfl,⟨[.int .i64 y10],[.int .i64 y14],rfl,rfl,⟨[.int .i64 y14],[],rfl,rfl,rfl⟩⟩⟩⟩
 obtain⟨F18,hF19,hS,hz20⟩:=hS.frzO (Own.blk0 hC17)
 obtain⟨y21,hy21,h⟩:=bind_some h
 refine K.cl hS hq rfl (wn rfl) (vs:=[.slice (some ⟨i16,0,none⟩) ([y4,y6,y10,y14]:List Int).length 1]) (ws:=[.slice (some ⟨i16,0,none⟩) ([y4,y6,y10,y14]:List Int).length 1]) rfl rfl rfl rfl rfl 0 rfl (g_j.ok hy21 hz20)  [0] rfl rfl (g9 rfl mm0 fW) fun s rs v S' F' hp22 hF hS hq=>?_
 obtain⟨rfl,rfl,rfl⟩:=hp22
 refine kg hS hq 1 [2] [.int .i64 y21] (by kernel_rfl) fun s rs hS hq=>(KW.nil ?_)
 refine WW.ret ?_
 replace hS:=hS.drop
 cases h
 exact aP hS (.inr rfl) 2 rfl rfl ⟨((FLe.trans hF9 hF19)),rfl,rfl⟩
noncomputable def g_f.f:Option (Int) :=
  some 0
theorem g_f.ok {pA:List UInt8} {F:FZ} {r:Int} (h:g_f.f=some r) :
    Cl EV 58 [aa pA] [] F (fun v S' F'=>F=F'∧v= .int .i64 r∧S'= []):=by
 refine Cl.of Tryz.func58 rfl (fun _ _=>rfl) (by kernel_rfl) fun s L nx0 hS=>?_
 unfold g_f.f at h
 refine WW.seq (WW.region ?_)
 refine sg0 hS 1 [] [2] [.int .i64 0] [] (by kernel_rfl) fun s hS=>(KW.nil ?_)
 refine WW.seq (WW.region ?_)
 refine sg0 hS 1 [] [2] [.int .i64 0] [] (by kernel_rfl) fun s hS=>(KW.nil ?_)
 refine WW.ret ?_
 cases h
 exact aP hS (.inr rfl) 2 rfl rfl ⟨rfl,rfl,rfl⟩
noncomputable def g_p.f (pA:Int):Option (List UInt8) :=
  (if(pA==0) then some ([]) else Option.bind (g_Itoa.f pA) fun y2=>some y2)
theorem g_p.ok {pA:Int} {F:FZ} {r:List UInt8} (h:g_p.f pA=some r) (hG:Gl F) :
    Cl EV 60 [.int .i64 pA] [] F (fun v S' F'=>F=F'∧v=aa r∧S'= []):=by
 refine Cl.of Tryz.func60 rfl (fun _ _=>rfl) (by kernel_rfl) fun s L nx0 hS=>?_
 unfold g_p.f at h
 refine WW.seq (WW.region ?_)
 refine sg0 hS 1 [] [2] [aa ([])] [] (by kernel_rfl) fun s hS=>(KW.nil ?_)
 refine WW.seq (WW.seq ?_)
 refine WW.region (sg0 hS 2 [] [4] [.bool (pA==0)] [] (by kernel_rfl) fun s hS=>?_)
 refine KW.nil (bc h (fun hc1 h=>?_) fun hc1 h=>?_)
 refine WW.condK hS rfl hc1 (WW.seq ?_)
 refine WW.region (sg0 hS 1 [] [2] [aa ([])] [] (by kernel_rfl) fun s hS=>?_)
 refine KW.nil (WW.ret ?_)
 cases h
 exact aP hS (.inr rfl) 2 rfl rfl ⟨rfl,rfl,rfl⟩
 refine WW.condF hS rfl hc1 (WW.skip ?_)
 refine WW.seq (WW.region ?_)
 obtain⟨y2,hy2,h⟩:=bind_some h
 refine cR (g_Itoa.ok hy2 hG) hS 1 6 0 rfl (by kernel_rfl) fun s hS=>(sg0 hS 1 [] [2] [aa y2] [] (by kernel_rfl) fun s hS=>?_)
 refine KW.nil (WW.ret ?_)
 cases h
 exact aP hS (.inr rfl) 2 rfl rfl ⟨rfl,rfl,rfl⟩
noncomputable def g_q.b0 (pB:Int) (x1:List UInt8×List (List UInt8)):Option ((List UInt8×List (List UInt8))⊕(List UInt8×List (List UInt8))) :=
  (if(decide ((x1.1.length:Int)>pB)) then(if 0≤(0:Int)∧(0:Int)≤pB∧pB≤(x1.1.length:Int) then(if x1.2.length+([(mid x1.1 (0:Int) pB)]:List (List UInt8)).length<1000000000 then(if 0≤pB∧pB≤(x1.1.length:Int)∧(x1.1.length:Int)≤(x1.1.length:Int) then some (.inl ((mid x1.1 pB (x1.1.length:Int)),(x1.2++([(mid x1.1 (0:Int) pB)]:List (List UInt8))))) else none) else none) else none) else some (.inr (x1.1,x1.2)))
noncomputable def g_q.f (pA:List UInt8) (pB:Int):Option (List (List UInt8)) :=
  Option.bind (iter (g_q.b0 pB) (pA,([]:List (List UInt8)))) fun o6=>(if o6.2.length+([o6.1]:List (List UInt8)).length<1000000000 then some (o6.2++([o6.1]:List (List UInt8))) else none)
theorem g_q.ok {pA:List UInt8} {pB:Int} {F:FZ} {r:List (List UInt8)} (h:g_q.f pA pB=some r) :
    Cl EV 61 [aa pA,.int .i64 pB] [] F (fun v S' F'=> ∃(ra1:Option Addr) (rz2:Nat) (rB4:Seg),F=F'∧v= .slice ra1 r.length rz2∧S'= [rB4]∧Own (elS 9) F' ra1 rz2 r rB4):=by
 refine Cl.of Tryz.func61 rfl (fun _ _=>rfl) (by kernel_rfl) fun s L nx0 hS=>?_
 unfold g_q.f at h
 refine WW.seq (WW.region ?_)
 refine sg0 hS 1 [] [4] [.slice none 0 0] [] (by kernel_rfl) fun s hS=>(KW.nil ?_)
 refine WW.seq (WW.region ?_)
 refine sg0 hS 1 [] [5] [.slice none 0 0] [] (by kernel_rfl) fun s hS=>(KW.nil ?_)
 refine WW.seq (WW.block ?_)
 replace hS:=hS.gap0
 obtain⟨o6,ho6,h⟩:=bind_some h
 refine WW.loop (LW.iterE ho6 (fun(x1:List UInt8×List (List UInt8)) s=> ∃(a2:Option Addr) (z3:Nat) (B5:Seg),Stt EV s [(0,aa x1.1),(1,.int .i64 pB),(4,.slice none 0 0),(5,.slice a2 x1.2.length z3)] [B5] F L F nx0∧Own (elS 9) F a2 z3 x1.2 B5) 0 ⟨_,_,_,(hS.subR rfl),Own.nil⟩ ?_ ?_)
 clear hS
 rintro x1 s ⟨a2,z3,B5,hS,h4⟩ o6' h12
 unfold g_q.b0 at h12
 refine WW.seq (WW.seq ?_)
 refine WW.region (sg0 hS 4 [] [9] [.bool (decide ((x1.1.length:Int)>pB))] [] (by kernel_rfl) fun s hS=>?_)
 refine KW.nil (bc h12 (fun hc13 h12=>?_) fun hc13 h12=>?_)
 refine WW.condK hS rfl hc13 (WW.skip ?_)
 refine WW.block (WW.regionD (i:=[[],[0],[1,0],[0],[0],[],[5,4,3,2,1,0],[6,5,4,3,2,1,0],[5,4,3,2,1,0],[8,7,6],[]]) (by kernel_rfl) ?_)
 have hq:=RS.start []
 refine kg hS hq 3 [10,11,12] [.slice a2 x1.2.length z3,aa x1.1,.int .i64 pB] (by kernel_rfl) fun s rs hS hq=>?_
 obtain⟨hk14,h12⟩:=ac h12
 refine K.pu hS hq rfl (wn rfl) rfl rfl rfl (v:=aa (mid x1.1 (0:Int) pB)) (e9 tu9 (hS.lk rfl) (i:=(0:Int)) (j:=pB) rfl (dR hS rfl) hk14) fun s rs hS hq=>(K.nw hS hq rfl (wn rfl) rfl rfl rfl (v:=fun i=> .slice (some ⟨i,0,none⟩) 1 1) (b:= .row [aa (mid x1.1 (0:Int) pB)] 9 1 true) (cw tu36 tz9 t0_9 rfl [(0,aa (mid x1.1 (0:Int) pB))] (bW hS rfl) rfl) [] fW rfl rfl rfl fun s rs i15 hS hq=>?_)
 have hC16:af (elS 9) F ([(mid x1.1 (0:Int) pB)]:List (List UInt8)) [aa (mid x1.1 (0:Int) pB)]:=⟨[aa (mid x1.1 (0:Int) pB)],[],rfl,rfl,rfl⟩
 obtain⟨hk20,h12⟩:=ac h12
 refine K.app [] hS hq rfl (wn rfl) (dd:=(elS 9)) (lst:=x1.2) (m:=([(mid x1.1 (0:Int) pB)]:List (List UInt8))) rfl rfl db rfl rfl h4 (Nat.succ_pos _) hC16 hk20 [] rfl rfl fW fun s rs i17 cs18 hC19 hS hq=>(kg hS hq 2 [16,17] [aa x1.1,.int .i64 pB] (by kernel_rfl) fun s rs hS hq=>?_)
 obtain⟨hk21,h12⟩:=ac h12
 refine K.pu hS hq rfl (wn rfl) rfl rfl rfl (v:=aa (mid x1.1 pB (x1.1.length:Int))) (e9 tu9 (hS.lk rfl) (i:=pB) (j:=(x1.1.length:Int)) (dR hS rfl) rfl hk21) fun s rs hS hq=>(kg hS hq 2 [5,0] [.slice (some ⟨i17,0,none⟩) (x1.2++([(mid x1.1 (0:Int) pB)]:List (List UInt8))).length 1,aa (mid x1.1 pB (x1.1.length:Int))] (by kernel_rfl) fun s rs hS hq=>?_)
 refine KW.nil ?_
 obtain rfl:=Option.some.inj h12
 exact⟨_,rfl,_,_,_,(hS.subR rfl),(Own.blk0 hC19)⟩
 refine WW.condF hS rfl hc13 (WW.exit ?_)
 refine ax ?_
 obtain rfl:=Option.some.inj h12
 exact⟨_,rfl,rfl,_,_,_,(hS.subR rfl),h4⟩
 clear hS
 rintro e s ⟨rfl,a22,z23,B25,hS,h24⟩
 refine au (WW.seq ?_)
 refine WW.region (sg0 hS 2 [] [19,20] [.slice a22 o6.2.length z23,aa o6.1] [] (by kernel_rfl) fun s hS=>?_)
 refine dP hS (wn rfl) rfl rfl rfl (v:=fun i=> .slice (some ⟨i,0,none⟩) 1 1) (b:= .row [aa o6.1] 9 1 true) (cw tu36 tz9 t0_9 rfl [(0,aa o6.1)] (bW hS rfl) rfl) fun s i26 hS=>?_
 have hC27:af (elS 9) F ([o6.1]:List (List UInt8)) [aa o6.1]:=⟨[aa o6.1],[],rfl,rfl,rfl⟩
 obtain⟨hk31,h⟩:=ac h
 refine mo hS (wn rfl) (dd:=(elS 9)) (lst:=o6.2) (m:=([o6.1]:List (List UInt8))) rfl rfl db rfl rfl h24 (Nat.succ_pos _) hC27 hk31 fun s i28 cs29 hC30 hS=>(sg0 hS 1 [] [4] [.slice (some ⟨i28,0,none⟩) (o6.2++([o6.1]:List (List UInt8))).length 1] [] (by kernel_rfl) fun s hS=>?_)
 refine KW.nil (WW.ret ?_)
 cases h
 exact aP hS (.inr rfl) 4 rfl rfl ⟨_,_,_,rfl,rfl,rfl,(Own.blk0 hC30)⟩
noncomputable def g_g.b0 (y2:List UInt8) (y4:List (List UInt8)) (x10:List (List UInt8)×Int):Option ((List (List UInt8)×Int)⊕(List (List UInt8)×Int)) :=
  (if(decide (x10.2<(y4.length:Int))) then Option.bind (g_Repeat.f ([32]) 5) fun y23=>(if y23.length+([38]:List UInt8).length<1000000000 then Option.bind ((if(x10.2==0) then Option.bind (g_Repeat.f ([32]) (w64 (5-(y2.length:Int)))) fun y28=>(if y28.length+y2.length<1000000000 then(if(y28++y2).length+([32]:List UInt8).length<1000000000 then some ((y28++y2)++ [32]) else none) else none) else some (y23++ [38]))) fun z26=>(if 0≤x10.2∧x10.2<(x10.1.length:Int) then(if z26.length+(gt x10.1 x10.2).length<1000000000 then(if 0≤x10.2∧x10.2<(x10.1.length:Int) then some (.inl ((cP x10.1 x10.2 ((z26++(gt x10.1 x10.2)):List UInt8)),(w64 (x10.2+1)))) else none) else none) else none) else none) else some (.inr (x10.1,x10.2)))
noncomputable def g_g.f (pA:Int) (pB:List UInt8):Option (List (List UInt8)) :=
  Option.bind (g_p.f pA) fun y2=>Option.bind (g_q.f pB 66) fun y4=>Option.bind (iter (g_g.b0 y2 y4) (y4,0)) fun o15=>some o15.1
theorem g_g.ok {aE:Option Addr} {zH:Nat} {pA:Int} {pB:List UInt8} {pC:List (Int×Int×Int)} {F:FZ} {r:List (List UInt8)} (h:g_g.f pA pB=some r) (hG:Gl F) :
    Cl EV 59 [.agg #[.int .i64 pA,aa pB,.slice aE pC.length zH]] [] F (fun v S' F'=> ∃(ra1:Option Addr) (rz2:Nat) (rB4:Seg),F=F'∧v= .slice ra1 r.length rz2∧S'= [rB4]∧Own (elS 9) F' ra1 rz2 r rB4):=by
 refine Cl.of Tryz.func59 rfl (fun _ _=>rfl) (by kernel_rfl) fun s L nx0 hS=>?_
 unfold g_g.f at h
 refine WW.seq (WW.region ?_)
 refine dP hS (wn rfl) rfl rfl rfl (v:=fun i=> .pointer (some ⟨i,0,none⟩)) (b:= .row [.int .i64 pA,aa pB,.slice aE pC.length zH] 61 0 true) (fc (hS.lk rfl) rfl [.int .i64 pA,aa pB,.slice aE pC.length zH] rfl) fun s i1 hS=>(sg0 hS 1 [] [2] [.slice none 0 0] [] (by kernel_rfl) fun s hS=>?_)
 refine KW.nil (WW.seq ?_)
 refine WW.region (sg0 hS 2 [0] [8] [.int .i64 pA] [i1] (by kernel_rfl) fun s hS=>?_)
 obtain⟨y2,hy2,h⟩:=bind_some h
 refine dQ hS (wn rfl) (vs:=[.int .i64 pA]) (ws:=[.int .i64 pA]) rfl rfl rfl rfl rfl 0 rfl (g_p.ok hy2 hG) fun s v S' F' hp3 hF hS=>?_
 obtain⟨rfl,rfl,rfl⟩:=hp3
 refine sg0 hS 1 [] [3] [aa y2] [] (by kernel_rfl) fun s hS=>(KW.nil ?_)
 refine WW.seq (WW.region ?_)
 refine sg0 hS 2 [0] [11] [aa pB] [i1] (by kernel_rfl) fun s hS=>?_
 obtain⟨y4,hy4,h⟩:=bind_some h
 refine dQ hS (wn rfl) (vs:=[aa pB,.int .i64 66]) (ws:=[aa pB,.int .i64 66]) rfl rfl rfl rfl rfl 0 rfl (g_q.ok hy4) fun s v S' F' hp5 hF hS=>?_
 obtain⟨a6,z7,B9,rfl,rfl,rfl,h8⟩:=hp5
 refine sg0 hS 1 [] [4] [.slice a6 y4.length z7] [] (by kernel_rfl) fun s hS=>(KW.nil ?_)
 refine WW.seq (WW.seq ?_)
 refine WW.region (sg0 hS 3 [] [14,15] [.int .i64 (y4.length:Int),.int .i64 0] [] (by kernel_rfl) fun s hS=>?_)
 refine KW.nil (WW.block ?_)
 obtain⟨o15,ho15,h⟩:=bind_some h
 refine WW.loop (LW.iterE ho15 (fun(x10:List (List UInt8)×Int) s=> ∃(a11:Option Addr) (z12:Nat) (B14:Seg),Stt EV s [(2,.slice none 0 0),(3,aa y2),(4,.slice a11 x10.1.length z12),(14,.int .i64 (y4.length:Int)),(15,.int .i64 x10.2)] [B14,[(i1,.row [.int .i64 pA,aa pB,.slice aE pC.length zH] 61 0 true)]] F L F nx0∧Own (elS 9) F a11 z12 x10.1 B14) 0 ⟨_,_,_,(hS.subR rfl),h8⟩ ?_ ?_)
 clear hS
 rintro x10 s ⟨a11,z12,B14,hS,h13⟩ o15' h21
 unfold g_g.b0 at h21
 refine WW.seq (WW.region ?_)
 refine sg0 hS 1 [] [16] [.bool (decide (x10.2<(y4.length:Int)))] [] (by kernel_rfl) fun s hS=>(KW.nil ?_)
 refine WW.seq (bc h21 (fun hc22 h21=>?_) fun hc22 h21=>?_)
 refine WW.condK hS rfl hc22 (WW.skip ?_)
 refine WW.seq (WW.block ?_)
 refine WW.seq (WW.region ?_)
 refine sg0 hS 2 [] [5] [.int .i64 x10.2] [] (by kernel_rfl) fun s hS=>(KW.nil ?_)
 refine WW.seq (WW.region ?_)
 obtain⟨y23,hy23,h21⟩:=bind_some h21
 refine cR (g_Repeat.ok hy23) hS 0 18 0 rfl (by kernel_rfl) fun s hS=>?_
 obtain⟨hk25,h21⟩:=ac h21
 refine aD hS (wn rfl) rfl rfl rfl (v:=aa (y23++ [38])) (aG (hS.lk rfl) (hS.lk rfl) hk25) fun s hS=>(sg0 hS 1 [] [6] [aa (y23++ [38])] [] (by kernel_rfl) fun s hS=>?_)
 refine KW.nil ?_
 obtain⟨z26,hz26,h21⟩:=bind_some h21
 refine WW.seqJ (fun s=>Stt EV s [(2,.slice none 0 0),(3,aa y2),(4,.slice a11 x10.1.length z12),(5,.int .i64 x10.2),(6,aa z26),(14,.int .i64 (y4.length:Int)),(15,.int .i64 x10.2)] [B14,[(i1,.row [.int .i64 pA,aa pB,.slice aE pC.length zH] 61 0 true)]] F L F nx0) ?_ ?_
 refine WW.seq (WW.region ?_)
 refine sg0 hS 2 [] [21] [.bool (x10.2==0)] [] (by kernel_rfl) fun s hS=>(KW.nil ?_)
 refine bc hz26 (fun hc27 hz26=>?_) fun hc27 hz26=>?_
 refine WW.condK hS rfl hc27 (WW.region ?_)
 obtain⟨y28,hy28,hz26⟩:=bind_some hz26
 refine cR (g_Repeat.ok hy28) hS 3 25 0 rfl (by kernel_rfl) fun s hS=>(sg0 hS 1 [] [26] [aa y2] [] (by kernel_rfl) fun s hS=>?_)
 obtain⟨hk30,hz26⟩:=ac hz26
 refine aD hS (wn rfl) rfl rfl rfl (v:=aa (y28++y2)) (aG (hS.lk rfl) (hS.lk rfl) hk30) fun s hS=>?_
 obtain⟨hk31,hz26⟩:=ac hz26
 refine aD hS (wn rfl) rfl rfl rfl (v:=aa ((y28++y2)++ [32])) (aG (hS.lk rfl) (hS.lk rfl) hk31) fun s hS=>(sg0 hS 1 [] [6] [aa ((y28++y2)++ [32])] [] (by kernel_rfl) fun s hS=>?_)
 refine KW.nil ?_
 obtain rfl:=Option.some.inj hz26
 exact(hS.subR rfl)
 refine WW.condF hS rfl hc27 (WW.skip ?_)
 obtain rfl:=Option.some.inj hz26
 exact(hS.subR rfl)
 rintro s hS
 refine WW.region (sg0 hS 5 [] [29,30,31,32,33] [.slice a11 x10.1.length z12,.int .i64 x10.2,aa z26,.slice a11 x10.1.length z12,.int .i64 x10.2] [] (by kernel_rfl) fun s hS=>?_)
 obtain⟨hk32,h21⟩:=ac h21
 obtain⟨i38,cs39,ex40,rfl,rfl,rfl,hC41⟩:=Own.some_ h13 (by omega)
 obtain⟨c33,hR34,hN36,hN35,hT37⟩:=af.loadF hC41 ex40 hk32 (z:=1) rfl
 obtain rfl:=hR34
 refine aD hS (wn rfl) rfl rfl rfl (v:= .pointer (some ⟨i38,0+(x10.2).toNat*1,none⟩)) (aY (hS.lk rfl) (hS.lk rfl) iz hk32) fun s hS=>(g8 hS (wn rfl) rfl rfl rfl (hS.at (k:=0) rfl) tg9 (v:=aa (gt x10.1 x10.2)) hN35 fun s hS=>?_)
 obtain⟨hk42,h21⟩:=ac h21
 refine aD hS (wn rfl) rfl rfl rfl (v:=aa (z26++(gt x10.1 x10.2))) (aG (hS.lk rfl) (hS.lk rfl) hk42) fun s hS=>?_
 obtain⟨hk43,h21⟩:=ac h21
 obtain⟨c44,hR45,hN47,hN46,hT48⟩:=af.loadF hC41 ex40 hk43 (z:=1) rfl
 obtain rfl:=hR45
 refine aD hS (wn rfl) rfl rfl rfl (v:= .pointer (some ⟨i38,0+(x10.2).toNat*1,none⟩)) (aY (hS.lk rfl) (hS.lk rfl) iz hk43) fun s hS=>(mn hS (wn rfl) rfl rfl rfl rfl (p:=0) rfl tz9 (jI hC41 ex40 hk43 rfl rfl rfl rfl) ((setCells cs39 (0+(x10.2).toNat*1) [aa (z26++(gt x10.1 x10.2))])++ex40) (jJ hC41 ex40 hk43 rfl rfl rfl) fun s hS=>?_)
 have hC49:af (elS 9) F (cP x10.1 x10.2 ((z26++(gt x10.1 x10.2)):List UInt8)) (setCells cs39 (0+(x10.2).toNat*1) [aa (z26++(gt x10.1 x10.2))]):=af.set hC41 hk43 rfl rfl
 replace hS:=hS.know (t:=4) (u':= .slice (some ⟨i38,0,none⟩) (cP x10.1 x10.2 ((z26++(gt x10.1 x10.2)):List UInt8)).length 1) rfl (congrArg (fun n=>Value.slice (some ⟨i38,0,none⟩) n 1) (bw x10.1 x10.2 ((z26++(gt x10.1 x10.2)):List UInt8)).symm)
 replace hS:=hS.know (t:=29) (u':= .slice (some ⟨i38,0,none⟩) (cP x10.1 x10.2 ((z26++(gt x10.1 x10.2)):List UInt8)).length 1) rfl (congrArg (fun n=>Value.slice (some ⟨i38,0,none⟩) n 1) (bw x10.1 x10.2 ((z26++(gt x10.1 x10.2)):List UInt8)).symm)
 replace hS:=hS.know (t:=32) (u':= .slice (some ⟨i38,0,none⟩) (cP x10.1 x10.2 ((z26++(gt x10.1 x10.2)):List UInt8)).length 1) rfl (congrArg (fun n=>Value.slice (some ⟨i38,0,none⟩) n 1) (bw x10.1 x10.2 ((z26++(gt x10.1 x10.2)):List UInt8)).symm)
 refine KW.nil (WW.region ?_)
 refine sg0 hS 2 [] [15] [.int .i64 (w64 (x10.2+1))] [] (by kernel_rfl) fun s hS=>(KW.nil ?_)
 obtain rfl:=Option.some.inj h21
 exact⟨_,rfl,_,_,_,(hS.subR rfl),(Own.blk ex40 hC49)⟩
 refine WW.condF hS rfl hc22 (WW.exit ?_)
 refine ax ?_
 obtain rfl:=Option.some.inj h21
 exact⟨_,rfl,rfl,_,_,_,(hS.subR rfl),h13⟩
 clear hS
 rintro e s ⟨rfl,a50,z51,B53,hS,h52⟩
 refine au (WW.seq ?_)
 refine WW.region (sg0 hS 2 [] [2] [.slice a50 o15.1.length z51] [] (by kernel_rfl) fun s hS=>?_)
 refine KW.nil (WW.ret ?_)
 replace hS:=(hS.pull 1).drop
 cases h
 exact aP hS (.inr rfl) 2 rfl rfl ⟨_,_,_,rfl,rfl,rfl,h52⟩
noncomputable def g_r.b0 (pA:List (Int×List UInt8×(List (Int×Int×Int)))) (x2:List (List UInt8)×Int):Option ((List (List UInt8)×Int)⊕((List (List UInt8)×Int)⊕(List (List UInt8)×Int×Int))) :=
  (if(decide (x2.2<(pA.length:Int))) then(if 0≤x2.2∧x2.2<(pA.length:Int) then Option.bind (g_t.f ((gt pA x2.2).1) ((gt pA x2.2).2.1)) fun y32=>Option.bind ((if(y32==0) then Option.bind (g_f.f) fun y38=>some y38 else some y32)) fun z36=>(if(z36 != 0) then some (.inr (.inr (([]:List (List UInt8)),x2.2,z36))) else Option.bind (g_g.f ((gt pA x2.2).1) ((gt pA x2.2).2.1)) fun y41=>(if x2.1.length+y41.length<1000000000 then some (.inl ((x2.1++y41),(w64 (x2.2+1)))) else none)) else none) else some (.inr (.inl (x2.1,x2.2))))
noncomputable def g_r.f (pA:List (Int×List UInt8×(List (Int×Int×Int)))):Option (List (List UInt8)×Int×Int) :=
  (if(decide ((pA.length:Int)>400)) then some (([]:List (List UInt8)),0,8) else Option.bind (iter (g_r.b0 pA) (([]:List (List UInt8)),0)) fun o9=>cu o9 fun y58=>(if(decide ((y58.1.length:Int)>400)) then some (([]:List (List UInt8)),0,8) else some (y58.1,0,0)))
theorem g_r.ok {aC:Option Addr} {zD:Nat} {pA:List (Int×List UInt8×(List (Int×Int×Int)))} {F:FZ} {r:List (List UInt8)×Int×Int} (h:g_r.f pA=some r) (hE:Frz d7 F aC zD pA) (hG:Gl F) :
    Cl EV 57 [.slice aC pA.length zD,.func (.func 58) #[] #[],.func (.func 59) #[] #[]] [] F (fun v S' F'=> ∃(ra1:Option Addr) (rz2:Nat) (rB4:Seg),FLe F F'∧v= .tuple #[.slice ra1 r.1.length rz2,.int .i64 r.2.1,.int .i64 r.2.2]∧S'= [rB4]∧Own (elS 9) F' ra1 rz2 r.1 rB4):=by
 refine Cl.of Tryz.func57 rfl (fun _ _=>rfl) (by kernel_rfl) fun s L nx0 hS=>?_
 unfold g_r.f at h
 refine WW.seq (WW.region ?_)
 refine sg0 hS 3 [] [6,7,8] [.slice none 0 0,.int .i64 0,.int .i64 0] [] (by kernel_rfl) fun s hS=>(KW.nil ?_)
 refine WW.seq (WW.seq ?_)
 refine WW.region (sg0 hS 3 [] [15] [.bool (decide ((pA.length:Int)>400))] [] (by kernel_rfl) fun s hS=>?_)
 refine KW.nil (bc h (fun hc1 h=>?_) fun hc1 h=>?_)
 refine WW.condK hS rfl hc1 (WW.seq ?_)
 refine WW.region (sg0 hS 3 [] [6,7,8] [.slice none 0 0,.int .i64 0,.int .i64 8] [] (by kernel_rfl) fun s hS=>?_)
 refine KW.nil (WW.ret ?_)
 replace hS:=hS.gap0
 have hres:=(ak hS (t:=6) (v:= .slice none ([]:List (List UInt8)).length 0) rfl (ak hS (t:=7) (v:= .int .i64 0) rfl (ak hS (t:=8) (v:= .int .i64 8) rfl (aQ (E:=EV) (s:=s)))))
 cases h
 exact fin hS (.inr rfl) hres (v:= .tuple #[.slice none ([]:List (List UInt8)).length 0,.int .i64 0,.int .i64 8]) rfl ⟨_,_,_,(FLe.refl _),rfl,rfl,Own.nil⟩
 refine WW.condF hS rfl hc1 (WW.skip ?_)
 refine WW.seq (WW.region ?_)
 refine sg0 hS 1 [] [9] [.slice none 0 0] [] (by kernel_rfl) fun s hS=>(KW.nil ?_)
 refine WW.seq (WW.seq ?_)
 refine WW.region (sg0 hS 3 [] [16,17,18] [.slice aC pA.length zD,.int .i64 (pA.length:Int),.int .i64 0] [] (by kernel_rfl) fun s hS=>?_)
 refine KW.nil (WW.block ?_)
 replace hS:=hS.gap0
 obtain⟨o9,ho9,h⟩:=bind_some h
 refine WW.loop (LW.iterS ho9 (fun(x2:List (List UInt8)×Int) s=> ∃(a5:Option Addr) (z6:Nat) (B8:Seg) (F3:FZ),Stt EV s [(1,.func (.func 58) #[] #[]),(2,.func (.func 59) #[] #[]),(6,.slice none 0 0),(7,.int .i64 0),(8,.int .i64 0),(9,.slice a5 x2.1.length z6),(16,.slice aC pA.length zD),(17,.int .i64 (pA.length:Int)),(18,.int .i64 x2.2)] [B8] F3 L F nx0∧Own (elS 9) F3 a5 z6 x2.1 B8∧FLe F F3) 0 (fun r=>g6 EV Tryz.f57 L F nx0 (fun v S' F'=> ∃(ra1:Option Addr) (rz2:Nat) (rB4:Seg),FLe F F'∧v= .tuple #[.slice ra1 r.1.length rz2,.int .i64 r.2.1,.int .i64 r.2.2]∧S'= [rB4]∧Own (elS 9) F' ra1 rz2 r.1 rB4)) ⟨_,_,_,_,(hS.subR rfl),Own.nil,(FLe.refl _)⟩ ?_ ?_)
 clear hS
 rintro x2 s ⟨a5,z6,B8,F3,hS,h7,hF4⟩ o9' h17
 unfold g_r.b0 at h17
 refine WW.seq (WW.region ?_)
 refine sg0 hS 1 [] [19] [.bool (decide (x2.2<(pA.length:Int)))] [] (by kernel_rfl) fun s hS=>(KW.nil ?_)
 refine WW.seq (bc h17 (fun hc18 h17=>?_) fun hc18 h17=>?_)
 refine WW.condK hS rfl hc18 (WW.skip ?_)
 refine WW.seq (WW.block ?_)
 refine WW.seq (WW.region ?_)
 refine sg0 hS 1 [] [20] [.int .i64 x2.2] [] (by kernel_rfl) fun s hS=>?_
 obtain⟨hk19,h17⟩:=ac h17
 obtain⟨i25,of26,rfl⟩:=Frz.addr hE (by omega)
 obtain⟨_,_,_,_,c20,hF27,hR21,hN22,hN23,hT24⟩:=Frz.at (hE.mono hF4) hk19 (m:=3) rfl
 obtain⟨a28,z29,rfl,hz30⟩:=hR21
 refine aD hS (wn rfl) rfl rfl rfl (v:= .pointer (some ⟨i25,of26+(x2.2).toNat*3,none⟩)) (aY (hS.lk rfl) (hS.lk rfl) jO hk19) fun s hS=>(kE hS (wn rfl) rfl rfl rfl (hS.fat hF27) tg61 pc (vs:=[.int .i64 ((gt pA x2.2).1),aa ((gt pA x2.2).2.1),.slice a28 ((gt pA x2.2).2.2).length z29]) hT24 fun s hS=>?_)
 refine dP hS (wn rfl) rfl rfl rfl (v:=fun i=> .pointer (some ⟨i,0,none⟩)) (b:= .row [.int .i64 0,aa ([]),.slice none 0 0] 61 0 true) (fF mE) fun s i31 hS=>(sg hS 2 [0] [10] [.int .i64 x2.2] [i31] [[(i31,.row [.int .i64 ((gt pA x2.2).1),aa ((gt pA x2.2).2.1),.slice a28 ((gt pA x2.2).2.2).length z29] 61 0 true)],B8] (by kernel_rfl) fun s hS=>?_)
 refine KW.nil (WW.seq ?_)
 refine WW.region (sg0 hS 1 [0] [23] [.agg #[.int .i64 ((gt pA x2.2).1),aa ((gt pA x2.2).2.1),.slice a28 ((gt pA x2.2).2.2).length z29]] [i31] (by kernel_rfl) fun s hS=>?_)
 obtain⟨y32,hy32,h17⟩:=bind_some h17
 refine dQ hS (wn rfl) (vs:=[.agg #[.int .i64 ((gt pA x2.2).1),aa ((gt pA x2.2).2.1),.slice a28 ((gt pA x2.2).2.2).length z29]]) (ws:=[.agg #[.int .i64 ((gt pA x2.2).1),aa ((gt pA x2.2).2.1),.slice a28 ((gt pA x2.2).2.2).length z29]]) rfl rfl rfl rfl rfl 0 rfl (g_t.ok hy32) fun s v S' F34 hp33 hF hS=>?_
 obtain⟨hF35,rfl,rfl⟩:=hp33
 refine sg0 hS 1 [] [12] [.int .i64 y32] [] (by kernel_rfl) fun s hS=>(KW.nil ?_)
 obtain⟨z36,hz36,h17⟩:=bind_some h17
 refine WW.seqJ (fun s=>Stt EV s [(1,.func (.func 58) #[] #[]),(2,.func (.func 59) #[] #[]),(6,.slice none 0 0),(7,.int .i64 0),(8,.int .i64 0),(9,.slice a5 x2.1.length z6),(10,.int .i64 x2.2),(11,.pointer (some ⟨i31,0,none⟩)),(12,.int .i64 z36),(16,.slice (some ⟨i25,of26,none⟩) pA.length zD),(17,.int .i64 (pA.length:Int)),(18,.int .i64 x2.2)] [[(i31,.row [.int .i64 ((gt pA x2.2).1),aa ((gt pA x2.2).2.1),.slice a28 ((gt pA x2.2).2.2).length z29] 61 0 true)],B8] F34 L F nx0) ?_ ?_
 refine WW.seq (WW.region ?_)
 refine sg0 hS 2 [] [26] [.bool (y32==0)] [] (by kernel_rfl) fun s hS=>(KW.nil ?_)
 refine bc hz36 (fun hc37 hz36=>?_) fun hc37 hz36=>?_
 refine WW.condK hS rfl hc37 (WW.region ?_)
 refine sg0 hS 3 [0] [27,29] [.func (.func 58) #[] #[],aa ((gt pA x2.2).2.1)] [i31] (by kernel_rfl) fun s hS=>?_
 obtain⟨y38,hy38,hz36⟩:=bind_some hz36
 refine dQ hS (wn rfl) (vs:=[aa ((gt pA x2.2).2.1)]) (ws:=[aa ((gt pA x2.2).2.1)]) rfl rfl rfl rfl rfl 0 rfl (g_f.ok hy38) fun s v S' F' hp39 hF hS=>?_
 obtain⟨rfl,rfl,rfl⟩:=hp39
 refine sg0 hS 1 [] [12] [.int .i64 y38] [] (by kernel_rfl) fun s hS=>(KW.nil ?_)
 obtain rfl:=Option.some.inj hz36
 exact(hS.subR rfl)
 refine WW.condF hS rfl hc37 (WW.skip ?_)
 obtain rfl:=Option.some.inj hz36
 exact(hS.subR rfl)
 rintro s hS
 refine WW.seq (WW.seq ?_)
 refine WW.region (sg0 hS 2 [] [32] [.bool (z36 != 0)] [] (by kernel_rfl) fun s hS=>?_)
 refine KW.nil (bc h17 (fun hc40 h17=>?_) fun hc40 h17=>?_)
 refine WW.condK hS rfl hc40 (WW.seq ?_)
 refine WW.region (sg0 hS 5 [] [6,7,8] [.slice none 0 0,.int .i64 x2.2,.int .i64 z36] [] (by kernel_rfl) fun s hS=>?_)
 refine KW.nil (WW.ret ?_)
 replace hS:=hS.gap0
 have hres:=(ak hS (t:=6) (v:= .slice none ([]:List (List UInt8)).length 0) rfl (ak hS (t:=7) (v:= .int .i64 x2.2) rfl (ak hS (t:=8) (v:= .int .i64 z36) rfl (aQ (E:=EV) (s:=s)))))
 replace hS:=(hS.pull 1).drop
 replace hS:=(hS.pull 1).drop
 cases h17
 exact⟨_,rfl,rfl,fin hS (.inr rfl) hres (v:= .tuple #[.slice none ([]:List (List UInt8)).length 0,.int .i64 x2.2,.int .i64 z36]) rfl ⟨_,_,_,((FLe.trans hF4 hF35)),rfl,rfl,Own.nil⟩⟩
 refine WW.condF hS rfl hc40 (WW.skip ?_)
 refine WW.region (sg0 hS 3 [0] [35,36,37] [.slice a5 x2.1.length z6,.func (.func 59) #[] #[],.agg #[.int .i64 ((gt pA x2.2).1),aa ((gt pA x2.2).2.1),.slice a28 ((gt pA x2.2).2.2).length z29]] [i31] (by kernel_rfl) fun s hS=>?_)
 obtain⟨y41,hy41,h17⟩:=bind_some h17
 refine dQ hS (wn rfl) (vs:=[.agg #[.int .i64 ((gt pA x2.2).1),aa ((gt pA x2.2).2.1),.slice a28 ((gt pA x2.2).2.2).length z29]]) (ws:=[.agg #[.int .i64 ((gt pA x2.2).1),aa ((gt pA x2.2).2.1),.slice a28 ((gt pA x2.2).2.2).length z29]]) rfl rfl rfl rfl rfl 0 rfl (g_g.ok hy41 (hG.mono (FLe.trans hF4 hF35))) fun s v S' F' hp42 hF hS=>?_
 obtain⟨a43,z44,B46,rfl,rfl,rfl,h45⟩:=hp42
 obtain⟨F50,hF51,hS,hz52⟩:=hS.frzO h45
 obtain⟨hk53,h17⟩:=ac h17
 replace hS:=hS.pull 1
 refine mr hS (wn rfl) (dd:=(elS 9)) (lst:=x2.1) (m:=y41) rfl rfl db rfl rfl (h7.mono (FLe.trans hF35 hF51)) hz52 hk53 fun s a54 z55 B56 hO57 hS=>(sg0 hS 1 [] [9] [.slice a54 (x2.1++y41).length z55] [] (by kernel_rfl) fun s hS=>?_)
 refine KW.nil (WW.region ?_)
 refine sg0 hS 2 [] [18] [.int .i64 (w64 (x2.2+1))] [] (by kernel_rfl) fun s hS=>(KW.nil ?_)
 replace hS:=(hS.pull 1).drop
 obtain rfl:=Option.some.inj h17
 exact⟨_,rfl,_,_,_,_,(hS.subR rfl),hO57,(FLe.trans hF4 (FLe.trans hF35 hF51))⟩
 refine WW.condF hS rfl hc18 (WW.exit ?_)
 refine ax ?_
 obtain rfl:=Option.some.inj h17
 exact⟨_,rfl,rfl,_,_,_,_,(hS.subR rfl),h7,hF4⟩
 clear hS
 rcases o9 with y58 | y58
 rintro e s ⟨rfl,a61,z62,B64,F59,hS,h63,hF60⟩
 replace h:=bC h
 refine au (WW.seq ?_)
 refine WW.seq (WW.region ?_)
 refine sg0 hS 3 [] [43] [.bool (decide ((y58.1.length:Int)>400))] [] (by kernel_rfl) fun s hS=>(KW.nil ?_)
 refine bc h (fun hc65 h=>?_) fun hc65 h=>?_
 refine WW.condK hS rfl hc65 (WW.seq ?_)
 refine WW.region (sg0 hS 3 [] [6,7,8] [.slice none 0 0,.int .i64 0,.int .i64 8] [] (by kernel_rfl) fun s hS=>?_)
 refine KW.nil (WW.ret ?_)
 replace hS:=hS.gap0
 have hres:=(ak hS (t:=6) (v:= .slice none ([]:List (List UInt8)).length 0) rfl (ak hS (t:=7) (v:= .int .i64 0) rfl (ak hS (t:=8) (v:= .int .i64 8) rfl (aQ (E:=EV) (s:=s)))))
 replace hS:=(hS.pull 1).drop
 cases h
 exact fin hS (.inr rfl) hres (v:= .tuple #[.slice none ([]:List (List UInt8)).length 0,.int .i64 0,.int .i64 8]) rfl ⟨_,_,_,(hF60),rfl,rfl,Own.nil⟩
 refine WW.condF hS rfl hc65 (WW.skip ?_)
 refine WW.seq (WW.region ?_)
 refine sg0 hS 4 [] [6,7,8] [.slice a61 y58.1.length z62,.int .i64 0,.int .i64 0] [] (by kernel_rfl) fun s hS=>(KW.nil ?_)
 refine WW.ret ?_
 have hres:=(ak hS (t:=6) (v:= .slice a61 y58.1.length z62) rfl (ak hS (t:=7) (v:= .int .i64 0) rfl (ak hS (t:=8) (v:= .int .i64 0) rfl (aQ (E:=EV) (s:=s)))))
 cases h
 exact fin hS (.inr rfl) hres (v:= .tuple #[.slice a61 y58.1.length z62,.int .i64 0,.int .i64 0]) rfl ⟨_,_,_,(hF60),rfl,rfl,h63⟩
 rintro e s ⟨rfl,hfin⟩
 replace h:=bD h
 obtain rfl:=Option.some.inj h
 exact hfin
noncomputable def g_e.f (pA:List (Int×List UInt8×(List (Int×Int×Int)))):Option (List (List UInt8)×Int×Int) :=
  Option.bind (g_r.f pA) fun y1=>some (y1.1,y1.2.1,y1.2.2)
theorem g_e.ok {aC:Option Addr} {zD:Nat} {pA:List (Int×List UInt8×(List (Int×Int×Int)))} {F:FZ} {r:List (List UInt8)×Int×Int} (h:g_e.f pA=some r) (hE:Frz d7 F aC zD pA) (hG:Gl F) :
    Cl EV 29 [.slice aC pA.length zD] [] F (fun v S' F'=> ∃(ra1:Option Addr) (rz2:Nat) (rB4:Seg),FLe F F'∧v= .tuple #[.slice ra1 r.1.length rz2,.int .i64 r.2.1,.int .i64 r.2.2]∧S'= [rB4]∧Own (elS 9) F' ra1 rz2 r.1 rB4):=by
 refine Cl.of Tryz.func29 rfl (fun _ _=>rfl) (by kernel_rfl) fun s L nx0 hS=>?_
 unfold g_e.f at h
 refine WW.seq (WW.region ?_)
 refine sg0 hS 3 [] [2,3,4] [.slice none 0 0,.int .i64 0,.int .i64 0] [] (by kernel_rfl) fun s hS=>(KW.nil ?_)
 refine WW.seq (WW.region ?_)
 obtain⟨y1,hy1,h⟩:=bind_some h
 refine cK (g_r.ok hy1 hE hG) hS 1 6 0 rfl (by kernel_rfl) fun s v S' F3 hp2 hF hS=>?_
 obtain⟨a4,z5,B7,hF8,rfl,rfl,h6⟩:=hp2
 refine sg0 hS 6 [] [2,3,4] [.slice a4 y1.1.length z5,.int .i64 y1.2.1,.int .i64 y1.2.2] [] (by kernel_rfl) fun s hS=>(KW.nil ?_)
 refine WW.ret ?_
 have hres:=(ak hS (t:=2) (v:= .slice a4 y1.1.length z5) rfl (ak hS (t:=3) (v:= .int .i64 y1.2.1) rfl (ak hS (t:=4) (v:= .int .i64 y1.2.2) rfl (aQ (E:=EV) (s:=s)))))
 cases h
 exact fin hS (.inr rfl) hres (v:= .tuple #[.slice a4 y1.1.length z5,.int .i64 y1.2.1,.int .i64 y1.2.2]) rfl ⟨_,_,_,(hF8),rfl,rfl,h6⟩
noncomputable def g_l.f (pA:UInt8):Option (Bool) :=
  some ((decide (((48:UInt8).toNat:Int)≤(pA.toNat:Int)))&&(decide ((pA.toNat:Int)≤((57:UInt8).toNat:Int))))
theorem g_l.ok {pA:UInt8} {F:FZ} {r:Bool} (h:g_l.f pA=some r) :
    Cl EV 101 [vB pA] [] F (fun v S' F'=>F=F'∧v= .bool r∧S'= []):=by
 refine Cl.of Tryz.func101 rfl (fun _ _=>rfl) (by kernel_rfl) fun s L nx0 hS=>?_
 unfold g_l.f at h
 refine WW.seq (WW.region ?_)
 refine sg0 hS 1 [] [2] [.bool false] [] (by kernel_rfl) fun s hS=>(KW.nil ?_)
 refine WW.seq (WW.region ?_)
 refine sg0 hS 3 [] [5] [.bool (decide (((48:UInt8).toNat:Int)≤(pA.toNat:Int)))] [] (by kernel_rfl) fun s hS=>(bZ 3 (fun s=>Stt EV s [(8,.bool ((decide (((48:UInt8).toNat:Int)≤(pA.toNat:Int)))&&(decide ((pA.toNat:Int)≤((57:UInt8).toNat:Int))))),(2,.bool false)] [] F L F nx0) ?_ fun s hS=>?_)
 rcases az ((decide (((48:UInt8).toNat:Int)≤(pA.toNat:Int)))) with hcj | hcj
 replace hS:=hS.know (t:=5) rfl (congrArg Value.bool hcj)
 refine sg0 hS 3 [] [8] [.bool (decide ((pA.toNat:Int)≤((57:UInt8).toNat:Int)))] [] (by kernel_rfl) fun s hS=>(KW.nil ?_)
 exact(hS.know (t:=8) (u':= .bool ((decide (((48:UInt8).toNat:Int)≤(pA.toNat:Int)))&&(decide ((pA.toNat:Int)≤((57:UInt8).toNat:Int))))) rfl (bX hcj)).subR rfl
 replace hS:=hS.know (t:=5) rfl (congrArg Value.bool hcj)
 refine sg0 hS 3 [] [8] [.bool false] [] (by kernel_rfl) fun s hS=>(KW.nil ?_)
 exact(hS.know (t:=8) (u':= .bool ((decide (((48:UInt8).toNat:Int)≤(pA.toNat:Int)))&&(decide ((pA.toNat:Int)≤((57:UInt8).toNat:Int))))) rfl (bY hcj)).subR rfl
 refine sg0 hS 1 [] [2] [.bool ((decide (((48:UInt8).toNat:Int)≤(pA.toNat:Int)))&&(decide ((pA.toNat:Int)≤((57:UInt8).toNat:Int))))] [] (by kernel_rfl) fun s hS=>(KW.nil ?_)
 refine WW.ret ?_
 cases h
 exact aP hS (.inr rfl) 2 rfl rfl ⟨rfl,rfl,rfl⟩
noncomputable def g_m.f (pA:UInt8):Option (Bool) :=
  some (((pA.toNat:Int)==((39:UInt8).toNat:Int))||((pA.toNat:Int)==((34:UInt8).toNat:Int)))
theorem g_m.ok {pA:UInt8} {F:FZ} {r:Bool} (h:g_m.f pA=some r) :
    Cl EV 102 [vB pA] [] F (fun v S' F'=>F=F'∧v= .bool r∧S'= []):=by
 refine Cl.of Tryz.func102 rfl (fun _ _=>rfl) (by kernel_rfl) fun s L nx0 hS=>?_
 unfold g_m.f at h
 refine WW.seq (WW.region ?_)
 refine sg0 hS 1 [] [2] [.bool false] [] (by kernel_rfl) fun s hS=>(KW.nil ?_)
 refine WW.seq (WW.region ?_)
 refine sg0 hS 3 [] [5] [.bool ((pA.toNat:Int)==((39:UInt8).toNat:Int))] [] (by kernel_rfl) fun s hS=>(bZ 3 (fun s=>Stt EV s [(8,.bool (((pA.toNat:Int)==((39:UInt8).toNat:Int))||((pA.toNat:Int)==((34:UInt8).toNat:Int)))),(2,.bool false)] [] F L F nx0) ?_ fun s hS=>?_)
 rcases az (((pA.toNat:Int)==((39:UInt8).toNat:Int))) with hcj | hcj
 replace hS:=hS.know (t:=5) rfl (congrArg Value.bool hcj)
 refine sg0 hS 3 [] [8] [.bool true] [] (by kernel_rfl) fun s hS=>(KW.nil ?_)
 exact(hS.know (t:=8) (u':= .bool (((pA.toNat:Int)==((39:UInt8).toNat:Int))||((pA.toNat:Int)==((34:UInt8).toNat:Int)))) rfl (c9 hcj)).subR rfl
 replace hS:=hS.know (t:=5) rfl (congrArg Value.bool hcj)
 refine sg0 hS 3 [] [8] [.bool ((pA.toNat:Int)==((34:UInt8).toNat:Int))] [] (by kernel_rfl) fun s hS=>(KW.nil ?_)
 exact(hS.know (t:=8) (u':= .bool (((pA.toNat:Int)==((39:UInt8).toNat:Int))||((pA.toNat:Int)==((34:UInt8).toNat:Int)))) rfl (da hcj)).subR rfl
 refine sg0 hS 1 [] [2] [.bool (((pA.toNat:Int)==((39:UInt8).toNat:Int))||((pA.toNat:Int)==((34:UInt8).toNat:Int)))] [] (by kernel_rfl) fun s hS=>(KW.nil ?_)
 refine WW.ret ?_
 cases h
 exact aP hS (.inr rfl) 2 rfl rfl ⟨rfl,rfl,rfl⟩
noncomputable def g_k.b0 (pA:List UInt8) (x8:Int×UInt8×Int):Option ((Int×UInt8×Int)⊕(Int×UInt8×Int)) :=
  (if(decide (x8.2.2<(pA.length:Int))) then(if 0≤x8.2.2∧x8.2.2<(pA.length:Int) then(if((x8.2.1.toNat:Int) != ((0:UInt8).toNat:Int)) then(if(((gt pA x8.2.2).toNat:Int)==(x8.2.1.toNat:Int)) then some (.inl (x8.1,0,(w64 (x8.2.2+1)))) else some (.inl (x8.1,x8.2.1,(w64 (x8.2.2+1))))) else Option.bind (g_m.f (gt pA x8.2.2)) fun y21=>(if y21 then some (.inl (x8.1,(gt pA x8.2.2),(w64 (x8.2.2+1)))) else(if(((((gt pA x8.2.2).toNat:Int)==((33:UInt8).toNat:Int))||(((gt pA x8.2.2).toNat:Int)==((59:UInt8).toNat:Int)))||(((gt pA x8.2.2).toNat:Int)==((38:UInt8).toNat:Int))) then some (.inl (3,x8.2.1,(w64 (x8.2.2+1)))) else some (.inl (x8.1,x8.2.1,(w64 (x8.2.2+1))))))) else none) else some (.inr (x8.1,x8.2.1,x8.2.2)))
noncomputable def g_k.f (pA:List UInt8):Option (Int) :=
  (if 0≤(0:Int)∧(0:Int)<(pA.length:Int) then Option.bind (g_l.f (gt pA (0:Int))) fun y2=>Option.bind (g_v.f (!y2) 3) fun y4=>Option.bind (iter (g_k.b0 pA) (y4,0,0)) fun o9=>Option.bind (g_v.f ((o9.2.1.toNat:Int)==((0:UInt8).toNat:Int)) 21) fun y25=>Option.bind (g_j.f ([o9.1,y25]:List Int)) fun y32=>some y32 else none)
theorem g_k.ok {pA:List UInt8} {F:FZ} {r:Int} (h:g_k.f pA=some r) :
    Cl EV 63 [aa pA] [] F (fun v S' F'=>FLe F F'∧v= .int .i64 r∧S'= []):=by
 refine Cl.of Tryz.func63 rfl (fun _ _=>rfl) (by kernel_rfl) fun s L nx0 hS=>?_
 unfold g_k.f at h
 refine WW.seq (WW.region ?_)
 refine sg0 hS 1 [] [2] [.int .i64 0] [] (by kernel_rfl) fun s hS=>(KW.nil ?_)
 refine WW.seq (WW.region ?_)
 refine sg0 hS 1 [] [7] [aa pA] [] (by kernel_rfl) fun s hS=>?_
 obtain⟨hk1,h⟩:=ac h
 refine aD hS (wn rfl) rfl rfl rfl (v:=vB (gt pA (0:Int))) (dp tu9 (hS.lk rfl) (hS.lk rfl) hk1) fun s hS=>?_
 obtain⟨y2,hy2,h⟩:=bind_some h
 refine cR (g_l.ok hy2) hS 0 9 0 rfl (by kernel_rfl) fun s hS=>?_
 obtain⟨y4,hy4,h⟩:=bind_some h
 refine cR (g_v.ok hy4) hS 1 11 0 rfl (by kernel_rfl) fun s hS=>(sg0 hS 1 [] [3] [.int .i64 y4] [] (by kernel_rfl) fun s hS=>?_)
 refine KW.nil (WW.seq ?_)
 refine WW.region (sg0 hS 1 [] [4] [vB 0] [] (by kernel_rfl) fun s hS=>?_)
 refine KW.nil (WW.seq ?_)
 refine WW.seq (WW.region ?_)
 refine sg0 hS 1 [] [12] [aa pA] [] (by kernel_rfl) fun s hS=>(dP hS (wn rfl) rfl rfl (lF hS rfl rfl) (v:=fun i=> .slice (some ⟨i,0,none⟩) pA.length 1) (b:= .row (pA.map vB) 5 1 true) (oN (hS.lk rfl) tu9 tu83 tb5) fun s i6 hS=>?_)
 have hC7:af (elB 5) F pA (pA.map vB):=af.bytes _
 refine sg0 hS 2 [] [14,15] [.int .i64 (pA.length:Int),.int .i64 0] [] (by kernel_rfl) fun s hS=>(KW.nil ?_)
 refine WW.block ?_
 obtain⟨o9,ho9,h⟩:=bind_some h
 refine WW.loop (LW.iterE ho9 (fun(x8:Int×UInt8×Int) s=>Stt EV s [(2,.int .i64 0),(3,.int .i64 x8.1),(4,vB x8.2.1),(13,.slice (some ⟨i6,0,none⟩) pA.length 1),(14,.int .i64 (pA.length:Int)),(15,.int .i64 x8.2.2)] [[(i6,.row (pA.map vB) 5 1 true)]] F L F nx0) 0 (hS.subR rfl) ?_ ?_)
 clear hS
 rintro x8 s hS o9' h11
 unfold g_k.b0 at h11
 refine WW.seq (WW.region ?_)
 refine sg0 hS 1 [] [16] [.bool (decide (x8.2.2<(pA.length:Int)))] [] (by kernel_rfl) fun s hS=>(KW.nil ?_)
 refine WW.seq (bc h11 (fun hc12 h11=>?_) fun hc12 h11=>?_)
 refine WW.condK hS rfl hc12 (WW.skip ?_)
 refine WW.seq (WW.block ?_)
 refine WW.seq (WW.region ?_)
 obtain⟨hk13,h11⟩:=ac h11
 obtain⟨c14,hR15,hN17,hN16,hT18⟩:=af.loadF_ hC7 hk13 (z:=1) rfl
 obtain rfl:=hR15
 refine aD hS (wn rfl) rfl rfl rfl (v:= .pointer (some ⟨i6,0+(x8.2.2).toNat*1,none⟩)) (aY (hS.lk rfl) (hS.lk rfl) te83 hk13) fun s hS=>(g8 hS (wn rfl) rfl rfl rfl (hS.at (k:=0) rfl) tg5 (v:=vB (gt pA x8.2.2)) hN16 fun s hS=>?_)
 refine sg0 hS 1 [] [6] [vB (gt pA x8.2.2)] [] (by kernel_rfl) fun s hS=>(KW.nil ?_)
 refine WW.block (WW.seq ?_)
 refine WW.region (sg0 hS 3 [] [19] [.bool ((x8.2.1.toNat:Int) != ((0:UInt8).toNat:Int))] [] (by kernel_rfl) fun s hS=>?_)
 refine KW.nil (bc h11 (fun hc19 h11=>?_) fun hc19 h11=>?_)
 refine WW.condK hS rfl hc19 (WW.seq ?_)
 refine WW.region (sg0 hS 3 [] [24] [.bool (((gt pA x8.2.2).toNat:Int)==(x8.2.1.toNat:Int))] [] (by kernel_rfl) fun s hS=>?_)
 refine KW.nil (bc h11 (fun hc20 h11=>?_) fun hc20 h11=>?_)
 refine WW.condK hS rfl hc20 (WW.region ?_)
 refine sg0 hS 1 [] [4] [vB 0] [] (by kernel_rfl) fun s hS=>(KW.nil ?_)
 refine WW.region (sg0 hS 2 [] [15] [.int .i64 (w64 (x8.2.2+1))] [] (by kernel_rfl) fun s hS=>?_)
 refine KW.nil ?_
 obtain rfl:=Option.some.inj h11
 exact⟨_,rfl,(hS.subR rfl)⟩
 refine WW.condF hS rfl hc20 (WW.skip ?_)
 refine WW.region (sg0 hS 2 [] [15] [.int .i64 (w64 (x8.2.2+1))] [] (by kernel_rfl) fun s hS=>?_)
 refine KW.nil ?_
 obtain rfl:=Option.some.inj h11
 exact⟨_,rfl,(hS.subR rfl)⟩
 refine WW.condF hS rfl hc19 (WW.seq ?_)
 refine WW.region ?_
 obtain⟨y21,hy21,h11⟩:=bind_some h11
 refine cR (g_m.ok hy21) hS 1 27 0 rfl (by kernel_rfl) fun s hS=>(sg0 hS 1 [] [25] [.bool y21] [] (by kernel_rfl) fun s hS=>?_)
 refine KW.nil (bc h11 (fun hc23 h11=>?_) fun hc23 h11=>?_)
 refine WW.condK hS rfl hc23 (WW.region ?_)
 refine sg0 hS 2 [] [4] [vB (gt pA x8.2.2)] [] (by kernel_rfl) fun s hS=>(KW.nil ?_)
 refine WW.region (sg0 hS 2 [] [15] [.int .i64 (w64 (x8.2.2+1))] [] (by kernel_rfl) fun s hS=>?_)
 refine KW.nil ?_
 obtain rfl:=Option.some.inj h11
 exact⟨_,rfl,(hS.subR rfl)⟩
 refine WW.condF hS rfl hc23 (WW.seq ?_)
 refine WW.region (sg0 hS 3 [] [32] [.bool (((gt pA x8.2.2).toNat:Int)==((33:UInt8).toNat:Int))] [] (by kernel_rfl) fun s hS=>?_)
 refine bZ 3 (fun s=>Stt EV s [(35,.bool ((((gt pA x8.2.2).toNat:Int)==((33:UInt8).toNat:Int))||(((gt pA x8.2.2).toNat:Int)==((59:UInt8).toNat:Int)))),(2,.int .i64 0),(3,.int .i64 x8.1),(4,vB x8.2.1),(6,vB (gt pA x8.2.2)),(13,.slice (some ⟨i6,0,none⟩) pA.length 1),(14,.int .i64 (pA.length:Int)),(15,.int .i64 x8.2.2)] [[(i6,.row (pA.map vB) 5 1 true)]] F L F nx0) ?_ fun s hS=>?_
 rcases az ((((gt pA x8.2.2).toNat:Int)==((33:UInt8).toNat:Int))) with hcj | hcj
 replace hS:=hS.know (t:=32) rfl (congrArg Value.bool hcj)
 refine sg0 hS 3 [] [35] [.bool true] [] (by kernel_rfl) fun s hS=>(KW.nil ?_)
 exact(hS.know (t:=35) (u':= .bool ((((gt pA x8.2.2).toNat:Int)==((33:UInt8).toNat:Int))||(((gt pA x8.2.2).toNat:Int)==((59:UInt8).toNat:Int)))) rfl (c9 hcj)).subR rfl
 replace hS:=hS.know (t:=32) rfl (congrArg Value.bool hcj)
 refine sg0 hS 3 [] [35] [.bool (((gt pA x8.2.2).toNat:Int)==((59:UInt8).toNat:Int))] [] (by kernel_rfl) fun s hS=>(KW.nil ?_)
 exact(hS.know (t:=35) (u':= .bool ((((gt pA x8.2.2).toNat:Int)==((33:UInt8).toNat:Int))||(((gt pA x8.2.2).toNat:Int)==((59:UInt8).toNat:Int)))) rfl (da hcj)).subR rfl
 refine sg0 hS 1 [] [36] [.bool ((((gt pA x8.2.2).toNat:Int)==((33:UInt8).toNat:Int))||(((gt pA x8.2.2).toNat:Int)==((59:UInt8).toNat:Int)))] [] (by kernel_rfl) fun s hS=>(bZ 3 (fun s=>Stt EV s [(39,.bool (((((gt pA x8.2.2).toNat:Int)==((33:UInt8).toNat:Int))||(((gt pA x8.2.2).toNat:Int)==((59:UInt8).toNat:Int)))||(((gt pA x8.2.2).toNat:Int)==((38:UInt8).toNat:Int)))),(2,.int .i64 0),(3,.int .i64 x8.1),(4,vB x8.2.1),(13,.slice (some ⟨i6,0,none⟩) pA.length 1),(14,.int .i64 (pA.length:Int)),(15,.int .i64 x8.2.2)] [[(i6,.row (pA.map vB) 5 1 true)]] F L F nx0) ?_ fun s hS=>?_)
 rcases az (((((gt pA x8.2.2).toNat:Int)==((33:UInt8).toNat:Int))||(((gt pA x8.2.2).toNat:Int)==((59:UInt8).toNat:Int)))) with hcj | hcj
 replace hS:=hS.know (t:=35) rfl (congrArg Value.bool hcj)
 replace hS:=hS.know (t:=36) rfl (congrArg Value.bool hcj)
 refine sg0 hS 3 [] [39] [.bool true] [] (by kernel_rfl) fun s hS=>(KW.nil ?_)
 exact(hS.know (t:=39) (u':= .bool (((((gt pA x8.2.2).toNat:Int)==((33:UInt8).toNat:Int))||(((gt pA x8.2.2).toNat:Int)==((59:UInt8).toNat:Int)))||(((gt pA x8.2.2).toNat:Int)==((38:UInt8).toNat:Int)))) rfl (c9 hcj)).subR rfl
 replace hS:=hS.know (t:=35) rfl (congrArg Value.bool hcj)
 replace hS:=hS.know (t:=36) rfl (congrArg Value.bool hcj)
 refine sg0 hS 3 [] [39] [.bool (((gt pA x8.2.2).toNat:Int)==((38:UInt8).toNat:Int))] [] (by kernel_rfl) fun s hS=>(KW.nil ?_)
 exact(hS.know (t:=39) (u':= .bool (((((gt pA x8.2.2).toNat:Int)==((33:UInt8).toNat:Int))||(((gt pA x8.2.2).toNat:Int)==((59:UInt8).toNat:Int)))||(((gt pA x8.2.2).toNat:Int)==((38:UInt8).toNat:Int)))) rfl (da hcj)).subR rfl
 refine sg0 hS 1 [] [29] [.bool (((((gt pA x8.2.2).toNat:Int)==((33:UInt8).toNat:Int))||(((gt pA x8.2.2).toNat:Int)==((59:UInt8).toNat:Int)))||(((gt pA x8.2.2).toNat:Int)==((38:UInt8).toNat:Int)))] [] (by kernel_rfl) fun s hS=>(KW.nil ?_)
 refine bc h11 (fun hc24 h11=>?_) fun hc24 h11=>?_
 refine WW.condK hS rfl hc24 (WW.region ?_)
 refine sg0 hS 1 [] [3] [.int .i64 3] [] (by kernel_rfl) fun s hS=>(KW.nil ?_)
 refine WW.region (sg0 hS 2 [] [15] [.int .i64 (w64 (x8.2.2+1))] [] (by kernel_rfl) fun s hS=>?_)
 refine KW.nil ?_
 obtain rfl:=Option.some.inj h11
 exact⟨_,rfl,(hS.subR rfl)⟩
 refine WW.condF hS rfl hc24 (WW.skip ?_)
 refine WW.region (sg0 hS 2 [] [15] [.int .i64 (w64 (x8.2.2+1))] [] (by kernel_rfl) fun s hS=>?_)
 refine KW.nil ?_
 obtain rfl:=Option.some.inj h11
 exact⟨_,rfl,(hS.subR rfl)⟩
 refine WW.condF hS rfl hc12 (WW.exit ?_)
 refine ax ?_
 obtain rfl:=Option.some.inj h11
 exact⟨_,rfl,rfl,(hS.subR rfl)⟩
 clear hS
 rintro e s ⟨rfl,hS⟩
 refine au (WW.seq ?_)
 refine WW.region (sg0 hS 3 [] [41,43] [.int .i64 o9.1,.bool ((o9.2.1.toNat:Int)==((0:UInt8).toNat:Int))] [] (by kernel_rfl) fun s hS=>?_)
 obtain⟨y25,hy25,h⟩:=bind_some h
 refine dQ hS (wn rfl) (vs:=[.bool ((o9.2.1.toNat:Int)==((0:UInt8).toNat:Int)),.int .i64 21]) (ws:=[.bool ((o9.2.1.toNat:Int)==((0:UInt8).toNat:Int)),.int .i64 21]) rfl rfl rfl rfl rfl 0 rfl (g_v.ok hy25) fun s v S' F' hp26 hF hS=>?_
 obtain⟨rfl,rfl,rfl⟩:=hp26
 refine dP hS (wn rfl) rfl rfl rfl (v:=fun i=> .slice (some ⟨i,0,none⟩) 2 1) (b:= .row [.int .i64 o9.1,.int .i64 y25] 24 1 true) (cw pb tz24 o7 rfl [(0,.int .i64 o9.1),(1,.int .i64 y25)] (bW hS rfl) rfl) fun s i27 hS=>?_
 have hC28:af (elI .i64 24) F ([o9.1,y25]:List Int) [.int .i64 o9.1,.int .i64 y25]:=⟨[.int .i64 o9.1],[.int .i64 y25],rfl,rfl,⟨[.int .i64 y25],[],rfl,rfl,rfl⟩⟩
 obtain⟨F29,hF30,hS,hz31⟩:=hS.frzO (Own.blk0 hC28)
 obtain⟨y32,hy32,h⟩:=bind_some h
 refine cR (g_j.ok hy32 hz31) hS 0 46 0 rfl (by kernel_rfl) fun s hS=>(sg0 hS 1 [] [2] [.int .i64 y32] [] (by kernel_rfl) fun s hS=>?_)
 refine KW.nil (WW.ret ?_)
 replace hS:=hS.drop
 cases h
 exact aP hS (.inr rfl) 2 rfl rfl ⟨(hF30),rfl,rfl⟩
noncomputable def g_i.b0 (y2:List (List UInt8)) (x8:List (List UInt8)×Int):Option ((List (List UInt8)×Int)⊕(List (List UInt8)×Int)) :=
  (if(decide (x8.2<(y2.length:Int))) then Option.bind ((if(decide (x8.2<(w64 ((y2.length:Int)-1)))) then(if 0≤x8.2∧x8.2<(x8.1.length:Int) then(if(gt x8.1 x8.2).length+([38]:List UInt8).length<1000000000 then(if 0≤x8.2∧x8.2<(x8.1.length:Int) then some (cP x8.1 x8.2 (((gt x8.1 x8.2)++ [38]):List UInt8)) else none) else none) else none) else some x8.1)) fun z21=>(if(decide (x8.2>0)) then(if 0≤x8.2∧x8.2<(z21.length:Int) then(if([38]:List UInt8).length+(gt z21 x8.2).length<1000000000 then(if 0≤x8.2∧x8.2<(z21.length:Int) then some (.inl ((cP z21 x8.2 ((([38]:List UInt8)++(gt z21 x8.2)):List UInt8)),(w64 (x8.2+1)))) else none) else none) else none) else some (.inl (z21,(w64 (x8.2+1))))) else some (.inr (x8.1,x8.2)))
noncomputable def g_i.f (pA:Int) (pB:List UInt8):Option (List (List UInt8)) :=
  Option.bind (g_q.f pB 100) fun y2=>Option.bind (iter (g_i.b0 y2) (y2,0)) fun o13=>(if(pA != 0) then(if 0<o13.1.length then Option.bind (g_p.f pA) fun y74=>(if y74.length+([32]:List UInt8).length<1000000000 then(if 0≤(0:Int)∧(0:Int)<(o13.1.length:Int) then(if(y74++ [32]).length+(gt o13.1 (0:Int)).length<1000000000 then(if 0≤(0:Int)∧(0:Int)<(o13.1.length:Int) then some (cP o13.1 (0:Int) (((y74++ [32])++(gt o13.1 (0:Int))):List UInt8)) else none) else none) else none) else none) else none) else some o13.1)
theorem g_i.ok {aE:Option Addr} {zH:Nat} {pA:Int} {pB:List UInt8} {pC:List (Int×Int×Int)} {F:FZ} {r:List (List UInt8)} (h:g_i.f pA pB=some r) (hG:Gl F) :
    Cl EV 64 [.agg #[.int .i64 pA,aa pB,.slice aE pC.length zH]] [] F (fun v S' F'=> ∃(ra1:Option Addr) (rz2:Nat) (rB4:Seg),F=F'∧v= .slice ra1 r.length rz2∧S'= [rB4]∧Own (elS 9) F' ra1 rz2 r rB4):=by
 refine Cl.of Tryz.func64 rfl (fun _ _=>rfl) (by kernel_rfl) fun s L nx0 hS=>?_
 unfold g_i.f at h
 refine WW.seq (WW.region ?_)
 refine dP hS (wn rfl) rfl rfl rfl (v:=fun i=> .pointer (some ⟨i,0,none⟩)) (b:= .row [.int .i64 pA,aa pB,.slice aE pC.length zH] 61 0 true) (fc (hS.lk rfl) rfl [.int .i64 pA,aa pB,.slice aE pC.length zH] rfl) fun s i1 hS=>(sg0 hS 1 [] [2] [.slice none 0 0] [] (by kernel_rfl) fun s hS=>?_)
 refine KW.nil (WW.seq ?_)
 refine WW.region (sg0 hS 2 [0] [7] [aa pB] [i1] (by kernel_rfl) fun s hS=>?_)
 obtain⟨y2,hy2,h⟩:=bind_some h
 refine dQ hS (wn rfl) (vs:=[aa pB,.int .i64 100]) (ws:=[aa pB,.int .i64 100]) rfl rfl rfl rfl rfl 0 rfl (g_q.ok hy2) fun s v S' F' hp3 hF hS=>?_
 obtain⟨a4,z5,B7,rfl,rfl,rfl,h6⟩:=hp3
 refine sg0 hS 1 [] [3] [.slice a4 y2.length z5] [] (by kernel_rfl) fun s hS=>(KW.nil ?_)
 refine WW.seq (WW.region ?_)
 refine sg0 hS 4 [] [4] [.int .i64 (w64 ((y2.length:Int)-1))] [] (by kernel_rfl) fun s hS=>(KW.nil ?_)
 refine WW.seq (WW.seq ?_)
 refine WW.region (sg0 hS 3 [] [13,14] [.int .i64 (y2.length:Int),.int .i64 0] [] (by kernel_rfl) fun s hS=>?_)
 refine KW.nil (WW.block ?_)
 obtain⟨o13,ho13,h⟩:=bind_some h
 refine WW.loop (LW.iterE ho13 (fun(x8:List (List UInt8)×Int) s=> ∃(a9:Option Addr) (z10:Nat) (B12:Seg),Stt EV s [(1,.pointer (some ⟨i1,0,none⟩)),(2,.slice none 0 0),(3,.slice a9 x8.1.length z10),(4,.int .i64 (w64 ((y2.length:Int)-1))),(13,.int .i64 (y2.length:Int)),(14,.int .i64 x8.2)] [B12,[(i1,.row [.int .i64 pA,aa pB,.slice aE pC.length zH] 61 0 true)]] F L F nx0∧Own (elS 9) F a9 z10 x8.1 B12) 0 ⟨_,_,_,(hS.subR rfl),h6⟩ ?_ ?_)
 clear hS
 rintro x8 s ⟨a9,z10,B12,hS,h11⟩ o13' h19
 unfold g_i.b0 at h19
 refine WW.seq (WW.region ?_)
 refine sg0 hS 1 [] [15] [.bool (decide (x8.2<(y2.length:Int)))] [] (by kernel_rfl) fun s hS=>(KW.nil ?_)
 refine WW.seq (bc h19 (fun hc20 h19=>?_) fun hc20 h19=>?_)
 refine WW.condK hS rfl hc20 (WW.skip ?_)
 refine WW.seq (WW.block ?_)
 refine WW.seq (WW.region ?_)
 refine sg0 hS 2 [] [5] [.int .i64 x8.2] [] (by kernel_rfl) fun s hS=>(KW.nil ?_)
 obtain⟨z21,hz21,h19⟩:=bind_some h19
 refine WW.seqJ (fun s=> ∃(a22:Option Addr) (z23:Nat) (B25:Seg),Stt EV s [(1,.pointer (some ⟨i1,0,none⟩)),(2,.slice none 0 0),(3,.slice a22 z21.length z23),(4,.int .i64 (w64 ((y2.length:Int)-1))),(5,.int .i64 x8.2),(13,.int .i64 (y2.length:Int)),(14,.int .i64 x8.2)] [B25,[(i1,.row [.int .i64 pA,aa pB,.slice aE pC.length zH] 61 0 true)]] F L F nx0∧Own (elS 9) F a22 z23 z21 B25) ?_ ?_
 refine WW.seq (WW.region ?_)
 refine sg0 hS 3 [] [19] [.bool (decide (x8.2<(w64 ((y2.length:Int)-1))))] [] (by kernel_rfl) fun s hS=>(KW.nil ?_)
 refine bc hz21 (fun hc26 hz21=>?_) fun hc26 hz21=>?_
 refine WW.condK hS rfl hc26 (WW.region ?_)
 refine sg0 hS 2 [] [20,21] [.slice a9 x8.1.length z10,.int .i64 x8.2] [] (by kernel_rfl) fun s hS=>?_
 obtain⟨hk27,hz21⟩:=ac hz21
 obtain⟨i33,cs34,ex35,rfl,rfl,rfl,hC36⟩:=Own.some_ h11 (by omega)
 obtain⟨c28,hR29,hN31,hN30,hT32⟩:=af.loadF hC36 ex35 hk27 (z:=1) rfl
 obtain rfl:=hR29
 refine aD hS (wn rfl) rfl rfl rfl (v:= .pointer (some ⟨i33,0+(x8.2).toNat*1,none⟩)) (aY (hS.lk rfl) (hS.lk rfl) iz hk27) fun s hS=>(g8 hS (wn rfl) rfl rfl rfl (hS.at (k:=0) rfl) tg9 (v:=aa (gt x8.1 x8.2)) hN30 fun s hS=>?_)
 obtain⟨hk37,hz21⟩:=ac hz21
 refine aD hS (wn rfl) rfl rfl rfl (v:=aa ((gt x8.1 x8.2)++ [38])) (aG (hS.lk rfl) (hS.lk rfl) hk37) fun s hS=>?_
 obtain⟨hk38,hz21⟩:=ac hz21
 obtain⟨c39,hR40,hN42,hN41,hT43⟩:=af.loadF hC36 ex35 hk38 (z:=1) rfl
 obtain rfl:=hR40
 refine aD hS (wn rfl) rfl rfl rfl (v:= .pointer (some ⟨i33,0+(x8.2).toNat*1,none⟩)) (aY (hS.lk rfl) (hS.lk rfl) iz hk38) fun s hS=>(mn hS (wn rfl) rfl rfl rfl rfl (p:=0) rfl tz9 (jI hC36 ex35 hk38 rfl rfl rfl rfl) ((setCells cs34 (0+(x8.2).toNat*1) [aa ((gt x8.1 x8.2)++ [38])])++ex35) (jJ hC36 ex35 hk38 rfl rfl rfl) fun s hS=>?_)
 have hC44:af (elS 9) F (cP x8.1 x8.2 (((gt x8.1 x8.2)++ [38]):List UInt8)) (setCells cs34 (0+(x8.2).toNat*1) [aa ((gt x8.1 x8.2)++ [38])]):=af.set hC36 hk38 rfl rfl
 replace hS:=hS.know (t:=3) (u':= .slice (some ⟨i33,0,none⟩) (cP x8.1 x8.2 (((gt x8.1 x8.2)++ [38]):List UInt8)).length 1) rfl (congrArg (fun n=>Value.slice (some ⟨i33,0,none⟩) n 1) (bw x8.1 x8.2 (((gt x8.1 x8.2)++ [38]):List UInt8)).symm)
 replace hS:=hS.know (t:=20) (u':= .slice (some ⟨i33,0,none⟩) (cP x8.1 x8.2 (((gt x8.1 x8.2)++ [38]):List UInt8)).length 1) rfl (congrArg (fun n=>Value.slice (some ⟨i33,0,none⟩) n 1) (bw x8.1 x8.2 (((gt x8.1 x8.2)++ [38]):List UInt8)).symm)
 refine KW.nil ?_
 obtain rfl:=Option.some.inj hz21
 exact⟨_,_,_,(hS.subR rfl),(Own.blk ex35 hC44)⟩
 refine WW.condF hS rfl hc26 (WW.skip ?_)
 obtain rfl:=Option.some.inj hz21
 exact⟨_,_,_,(hS.subR rfl),h11⟩
 rintro s ⟨a22,z23,B25,hS,h24⟩
 refine WW.seq (WW.region ?_)
 refine sg0 hS 2 [] [27] [.bool (decide (x8.2>0))] [] (by kernel_rfl) fun s hS=>(KW.nil ?_)
 refine bc h19 (fun hc45 h19=>?_) fun hc45 h19=>?_
 refine WW.condK hS rfl hc45 (WW.region ?_)
 refine sg0 hS 4 [] [28,29,30,31] [.slice a22 z21.length z23,.int .i64 x8.2,.slice a22 z21.length z23,.int .i64 x8.2] [] (by kernel_rfl) fun s hS=>?_
 obtain⟨hk46,h19⟩:=ac h19
 obtain⟨i52,cs53,ex54,rfl,rfl,rfl,hC55⟩:=Own.some_ h24 (by omega)
 obtain⟨c47,hR48,hN50,hN49,hT51⟩:=af.loadF hC55 ex54 hk46 (z:=1) rfl
 obtain rfl:=hR48
 refine aD hS (wn rfl) rfl rfl rfl (v:= .pointer (some ⟨i52,0+(x8.2).toNat*1,none⟩)) (aY (hS.lk rfl) (hS.lk rfl) iz hk46) fun s hS=>(g8 hS (wn rfl) rfl rfl rfl (hS.at (k:=0) rfl) tg9 (v:=aa (gt z21 x8.2)) hN49 fun s hS=>?_)
 obtain⟨hk56,h19⟩:=ac h19
 refine aD hS (wn rfl) rfl rfl rfl (v:=aa (([38]:List UInt8)++(gt z21 x8.2))) (aG (hS.lk rfl) (hS.lk rfl) hk56) fun s hS=>?_
 obtain⟨hk57,h19⟩:=ac h19
 obtain⟨c58,hR59,hN61,hN60,hT62⟩:=af.loadF hC55 ex54 hk57 (z:=1) rfl
 obtain rfl:=hR59
 refine aD hS (wn rfl) rfl rfl rfl (v:= .pointer (some ⟨i52,0+(x8.2).toNat*1,none⟩)) (aY (hS.lk rfl) (hS.lk rfl) iz hk57) fun s hS=>(mn hS (wn rfl) rfl rfl rfl rfl (p:=0) rfl tz9 (jI hC55 ex54 hk57 rfl rfl rfl rfl) ((setCells cs53 (0+(x8.2).toNat*1) [aa (([38]:List UInt8)++(gt z21 x8.2))])++ex54) (jJ hC55 ex54 hk57 rfl rfl rfl) fun s hS=>?_)
 have hC63:af (elS 9) F (cP z21 x8.2 ((([38]:List UInt8)++(gt z21 x8.2)):List UInt8)) (setCells cs53 (0+(x8.2).toNat*1) [aa (([38]:List UInt8)++(gt z21 x8.2))]):=af.set hC55 hk57 rfl rfl
 replace hS:=hS.know (t:=3) (u':= .slice (some ⟨i52,0,none⟩) (cP z21 x8.2 ((([38]:List UInt8)++(gt z21 x8.2)):List UInt8)).length 1) rfl (congrArg (fun n=>Value.slice (some ⟨i52,0,none⟩) n 1) (bw z21 x8.2 ((([38]:List UInt8)++(gt z21 x8.2)):List UInt8)).symm)
 replace hS:=hS.know (t:=28) (u':= .slice (some ⟨i52,0,none⟩) (cP z21 x8.2 ((([38]:List UInt8)++(gt z21 x8.2)):List UInt8)).length 1) rfl (congrArg (fun n=>Value.slice (some ⟨i52,0,none⟩) n 1) (bw z21 x8.2 ((([38]:List UInt8)++(gt z21 x8.2)):List UInt8)).symm)
 replace hS:=hS.know (t:=30) (u':= .slice (some ⟨i52,0,none⟩) (cP z21 x8.2 ((([38]:List UInt8)++(gt z21 x8.2)):List UInt8)).length 1) rfl (congrArg (fun n=>Value.slice (some ⟨i52,0,none⟩) n 1) (bw z21 x8.2 ((([38]:List UInt8)++(gt z21 x8.2)):List UInt8)).symm)
 refine KW.nil (WW.region ?_)
 refine sg0 hS 2 [] [14] [.int .i64 (w64 (x8.2+1))] [] (by kernel_rfl) fun s hS=>(KW.nil ?_)
 obtain rfl:=Option.some.inj h19
 exact⟨_,rfl,_,_,_,(hS.subR rfl),(Own.blk ex54 hC63)⟩
 refine WW.condF hS rfl hc45 (WW.skip ?_)
 refine WW.region (sg0 hS 2 [] [14] [.int .i64 (w64 (x8.2+1))] [] (by kernel_rfl) fun s hS=>?_)
 refine KW.nil ?_
 obtain rfl:=Option.some.inj h19
 exact⟨_,rfl,_,_,_,(hS.subR rfl),h24⟩
 refine WW.condF hS rfl hc20 (WW.exit ?_)
 refine ax ?_
 obtain rfl:=Option.some.inj h19
 exact⟨_,rfl,rfl,_,_,_,(hS.subR rfl),h11⟩
 clear hS
 rintro e s ⟨rfl,a64,z65,B67,hS,h66⟩
 refine au (WW.seq ?_)
 refine WW.seq (WW.region ?_)
 refine sg0 hS 3 [1] [39] [.bool (pA != 0)] [i1] (by kernel_rfl) fun s hS=>(KW.nil ?_)
 refine bc h (fun hc68 h=>?_) fun hc68 h=>?_
 refine WW.condK hS rfl hc68 ?_
 obtain⟨hk69,h⟩:=ac h
 obtain⟨i70,cs71,ex72,rfl,rfl,rfl,hC73⟩:=Own.some_ h66 (by omega)
 refine WW.regionD (i:=[[],[0],[0],[0],[0],[4,3,2,1,0],[4,3,2,1,0],[4,3,2,1,0],[0],[],[]]) (by kernel_rfl) ?_
 have hq:=RS.start [i70,i1]
 refine kg hS hq 2 [40,41] [.slice (some ⟨i70,0,none⟩) o13.1.length 1,.pointer (some ⟨i1,0,none⟩)] (by kernel_rfl) fun s rs hS hq=>(K.ld hS hq rfl (wn rfl) rfl rfl rfl (hS.at (k:=1) rfl) tg3 (v:= .int .i64 pA) rfl 1 rfl rfl fun s rs hS hq=>?_)
 obtain⟨y74,hy74,h⟩:=bind_some h
 refine K.cl hS hq rfl (wn rfl) (vs:=[.int .i64 pA]) (ws:=[.int .i64 pA]) rfl rfl rfl rfl rfl 0 rfl (g_p.ok hy74 hG)  [0,1] rfl rfl (g9 rfl mm0 (g9 rfl (mm1 mm0) fW)) fun s rs v S' F' hp75 hF hS hq=>?_
 obtain⟨rfl,rfl,rfl⟩:=hp75
 obtain⟨hk76,h⟩:=ac h
 refine K.pu hS hq rfl (wn rfl) rfl rfl rfl (v:=aa (y74++ [32])) (aG (hS.lk rfl) (hS.lk rfl) hk76) fun s rs hS hq=>(kg hS hq 1 [45] [.slice (some ⟨i70,0,none⟩) o13.1.length 1] (by kernel_rfl) fun s rs hS hq=>?_)
 obtain⟨hk77,h⟩:=ac h
 obtain⟨c78,hR79,hN81,hN80,hT82⟩:=af.loadF hC73 ex72 hk77 (z:=1) rfl
 obtain rfl:=hR79
 refine K.pu hS hq rfl (wn rfl) rfl rfl rfl (v:= .pointer (some ⟨i70,0+((0:Int)).toNat*1,none⟩)) (aY (hS.lk rfl) (hS.lk rfl) iz hk77) fun s rs hS hq=>(K.ld hS hq rfl (wn rfl) rfl rfl rfl (hS.at (k:=0) rfl) tg9 (v:=aa (gt o13.1 (0:Int))) hN80 0 rfl rfl fun s rs hS hq=>?_)
 obtain⟨hk83,h⟩:=ac h
 refine K.pu hS hq rfl (wn rfl) rfl rfl rfl (v:=aa ((y74++ [32])++(gt o13.1 (0:Int)))) (aG (hS.lk rfl) (hS.lk rfl) hk83) fun s rs hS hq=>?_
 obtain⟨hk84,h⟩:=ac h
 obtain⟨c85,hR86,hN88,hN87,hT89⟩:=af.loadF hC73 ex72 hk84 (z:=1) rfl
 obtain rfl:=hR86
 refine K.pu hS hq rfl (wn rfl) rfl rfl rfl (v:= .pointer (some ⟨i70,0+((0:Int)).toNat*1,none⟩)) (aY (hS.lk rfl) (hS.lk rfl) iz hk84) fun s rs hS hq=>(K.sto hS hq rfl (wn rfl) rfl rfl rfl rfl (p:=0) rfl tz9 (jI hC73 ex72 hk84 rfl rfl rfl rfl) ((setCells cs71 (0+((0:Int)).toNat*1) [aa ((y74++ [32])++(gt o13.1 (0:Int)))])++ex72) (jJ hC73 ex72 hk84 rfl rfl rfl) [1] rfl (g9 rfl mm0 fW) fun s rs hS hq=>?_)
 have hC90:af (elS 9) F (cP o13.1 (0:Int) (((y74++ [32])++(gt o13.1 (0:Int))):List UInt8)) (setCells cs71 (0+((0:Int)).toNat*1) [aa ((y74++ [32])++(gt o13.1 (0:Int)))]):=af.set hC73 hk84 rfl rfl
 replace hS:=hS.know (t:=3) (u':= .slice (some ⟨i70,0,none⟩) (cP o13.1 (0:Int) (((y74++ [32])++(gt o13.1 (0:Int))):List UInt8)).length 1) rfl (congrArg (fun n=>Value.slice (some ⟨i70,0,none⟩) n 1) (bw o13.1 (0:Int) (((y74++ [32])++(gt o13.1 (0:Int))):List UInt8)).symm)
 replace hS:=hS.know (t:=40) (u':= .slice (some ⟨i70,0,none⟩) (cP o13.1 (0:Int) (((y74++ [32])++(gt o13.1 (0:Int))):List UInt8)).length 1) rfl (congrArg (fun n=>Value.slice (some ⟨i70,0,none⟩) n 1) (bw o13.1 (0:Int) (((y74++ [32])++(gt o13.1 (0:Int))):List UInt8)).symm)
 replace hS:=hS.know (t:=45) (u':= .slice (some ⟨i70,0,none⟩) (cP o13.1 (0:Int) (((y74++ [32])++(gt o13.1 (0:Int))):List UInt8)).length 1) rfl (congrArg (fun n=>Value.slice (some ⟨i70,0,none⟩) n 1) (bw o13.1 (0:Int) (((y74++ [32])++(gt o13.1 (0:Int))):List UInt8)).symm)
 refine KW.nil (WW.seq ?_)
 refine WW.region (sg0 hS 2 [] [2] [.slice (some ⟨i70,0,none⟩) (cP o13.1 (0:Int) (((y74++ [32])++(gt o13.1 (0:Int))):List UInt8)).length 1] [] (by kernel_rfl) fun s hS=>?_)
 refine KW.nil (WW.ret ?_)
 replace hS:=(hS.pull 1).drop
 cases h
 exact aP hS (.inr rfl) 2 rfl rfl ⟨_,_,_,rfl,rfl,rfl,(Own.blk ex72 hC90)⟩
 refine WW.condF hS rfl hc68 (WW.skip ?_)
 refine WW.seq (WW.region ?_)
 refine sg0 hS 2 [] [2] [.slice a64 o13.1.length z65] [] (by kernel_rfl) fun s hS=>(KW.nil ?_)
 refine WW.ret ?_
 replace hS:=(hS.pull 1).drop
 cases h
 exact aP hS (.inr rfl) 2 rfl rfl ⟨_,_,_,rfl,rfl,rfl,h66⟩
noncomputable def g_s.b0 (pA:List (Int×List UInt8×(List (Int×Int×Int)))) (x2:List (List UInt8)×Int):Option ((List (List UInt8)×Int)⊕((List (List UInt8)×Int)⊕(List (List UInt8)×Int×Int))) :=
  (if(decide (x2.2<(pA.length:Int))) then(if 0≤x2.2∧x2.2<(pA.length:Int) then Option.bind (g_t.f ((gt pA x2.2).1) ((gt pA x2.2).2.1)) fun y32=>Option.bind ((if(y32==0) then Option.bind (g_k.f ((gt pA x2.2).2.1)) fun y40=>some y40 else some y32)) fun z36=>(if(z36 != 0) then some (.inr (.inr (([]:List (List UInt8)),x2.2,z36))) else Option.bind (g_i.f ((gt pA x2.2).1) ((gt pA x2.2).2.1)) fun y45=>(if x2.1.length+y45.length<1000000000 then some (.inl ((x2.1++y45),(w64 (x2.2+1)))) else none)) else none) else some (.inr (.inl (x2.1,x2.2))))
noncomputable def g_s.f (pA:List (Int×List UInt8×(List (Int×Int×Int)))):Option (List (List UInt8)×Int×Int) :=
  (if(decide ((pA.length:Int)>400)) then some (([]:List (List UInt8)),0,8) else Option.bind (iter (g_s.b0 pA) (([]:List (List UInt8)),0)) fun o9=>cu o9 fun y62=>(if(decide ((y62.1.length:Int)>400)) then some (([]:List (List UInt8)),0,8) else some (y62.1,0,0)))
theorem g_s.ok {aC:Option Addr} {zD:Nat} {pA:List (Int×List UInt8×(List (Int×Int×Int)))} {F:FZ} {r:List (List UInt8)×Int×Int} (h:g_s.f pA=some r) (hE:Frz d7 F aC zD pA) (hG:Gl F) :
    Cl EV 57 [.slice aC pA.length zD,.func (.func 63) #[] #[],.func (.func 64) #[] #[]] [] F (fun v S' F'=> ∃(ra1:Option Addr) (rz2:Nat) (rB4:Seg),FLe F F'∧v= .tuple #[.slice ra1 r.1.length rz2,.int .i64 r.2.1,.int .i64 r.2.2]∧S'= [rB4]∧Own (elS 9) F' ra1 rz2 r.1 rB4):=by
 refine Cl.of Tryz.func57 rfl (fun _ _=>rfl) (by kernel_rfl) fun s L nx0 hS=>?_
 unfold g_s.f at h
 refine WW.seq (WW.region ?_)
 refine sg0 hS 3 [] [6,7,8] [.slice none 0 0,.int .i64 0,.int .i64 0] [] (by kernel_rfl) fun s hS=>(KW.nil ?_)
 refine WW.seq (WW.seq ?_)
 refine WW.region (sg0 hS 3 [] [15] [.bool (decide ((pA.length:Int)>400))] [] (by kernel_rfl) fun s hS=>?_)
 refine KW.nil (bc h (fun hc1 h=>?_) fun hc1 h=>?_)
 refine WW.condK hS rfl hc1 (WW.seq ?_)
 refine WW.region (sg0 hS 3 [] [6,7,8] [.slice none 0 0,.int .i64 0,.int .i64 8] [] (by kernel_rfl) fun s hS=>?_)
 refine KW.nil (WW.ret ?_)
 replace hS:=hS.gap0
 have hres:=(ak hS (t:=6) (v:= .slice none ([]:List (List UInt8)).length 0) rfl (ak hS (t:=7) (v:= .int .i64 0) rfl (ak hS (t:=8) (v:= .int .i64 8) rfl (aQ (E:=EV) (s:=s)))))
 cases h
 exact fin hS (.inr rfl) hres (v:= .tuple #[.slice none ([]:List (List UInt8)).length 0,.int .i64 0,.int .i64 8]) rfl ⟨_,_,_,(FLe.refl _),rfl,rfl,Own.nil⟩
 refine WW.condF hS rfl hc1 (WW.skip ?_)
 refine WW.seq (WW.region ?_)
 refine sg0 hS 1 [] [9] [.slice none 0 0] [] (by kernel_rfl) fun s hS=>(KW.nil ?_)
 refine WW.seq (WW.seq ?_)
 refine WW.region (sg0 hS 3 [] [16,17,18] [.slice aC pA.length zD,.int .i64 (pA.length:Int),.int .i64 0] [] (by kernel_rfl) fun s hS=>?_)
 refine KW.nil (WW.block ?_)
 replace hS:=hS.gap0
 obtain⟨o9,ho9,h⟩:=bind_some h
 refine WW.loop (LW.iterS ho9 (fun(x2:List (List UInt8)×Int) s=> ∃(a5:Option Addr) (z6:Nat) (B8:Seg) (F3:FZ),Stt EV s [(1,.func (.func 63) #[] #[]),(2,.func (.func 64) #[] #[]),(6,.slice none 0 0),(7,.int .i64 0),(8,.int .i64 0),(9,.slice a5 x2.1.length z6),(16,.slice aC pA.length zD),(17,.int .i64 (pA.length:Int)),(18,.int .i64 x2.2)] [B8] F3 L F nx0∧Own (elS 9) F3 a5 z6 x2.1 B8∧FLe F F3) 0 (fun r=>g6 EV Tryz.f57 L F nx0 (fun v S' F'=> ∃(ra1:Option Addr) (rz2:Nat) (rB4:Seg),FLe F F'∧v= .tuple #[.slice ra1 r.1.length rz2,.int .i64 r.2.1,.int .i64 r.2.2]∧S'= [rB4]∧Own (elS 9) F' ra1 rz2 r.1 rB4)) ⟨_,_,_,_,(hS.subR rfl),Own.nil,(FLe.refl _)⟩ ?_ ?_)
 clear hS
 rintro x2 s ⟨a5,z6,B8,F3,hS,h7,hF4⟩ o9' h17
 unfold g_s.b0 at h17
 refine WW.seq (WW.region ?_)
 refine sg0 hS 1 [] [19] [.bool (decide (x2.2<(pA.length:Int)))] [] (by kernel_rfl) fun s hS=>(KW.nil ?_)
 refine WW.seq (bc h17 (fun hc18 h17=>?_) fun hc18 h17=>?_)
 refine WW.condK hS rfl hc18 (WW.skip ?_)
 refine WW.seq (WW.block ?_)
 refine WW.seq (WW.region ?_)
 refine sg0 hS 1 [] [20] [.int .i64 x2.2] [] (by kernel_rfl) fun s hS=>?_
 obtain⟨hk19,h17⟩:=ac h17
 obtain⟨i25,of26,rfl⟩:=Frz.addr hE (by omega)
 obtain⟨_,_,_,_,c20,hF27,hR21,hN22,hN23,hT24⟩:=Frz.at (hE.mono hF4) hk19 (m:=3) rfl
 obtain⟨a28,z29,rfl,hz30⟩:=hR21
 refine aD hS (wn rfl) rfl rfl rfl (v:= .pointer (some ⟨i25,of26+(x2.2).toNat*3,none⟩)) (aY (hS.lk rfl) (hS.lk rfl) jO hk19) fun s hS=>(kE hS (wn rfl) rfl rfl rfl (hS.fat hF27) tg61 pc (vs:=[.int .i64 ((gt pA x2.2).1),aa ((gt pA x2.2).2.1),.slice a28 ((gt pA x2.2).2.2).length z29]) hT24 fun s hS=>?_)
 refine dP hS (wn rfl) rfl rfl rfl (v:=fun i=> .pointer (some ⟨i,0,none⟩)) (b:= .row [.int .i64 0,aa ([]),.slice none 0 0] 61 0 true) (fF mE) fun s i31 hS=>(sg hS 2 [0] [10] [.int .i64 x2.2] [i31] [[(i31,.row [.int .i64 ((gt pA x2.2).1),aa ((gt pA x2.2).2.1),.slice a28 ((gt pA x2.2).2.2).length z29] 61 0 true)],B8] (by kernel_rfl) fun s hS=>?_)
 refine KW.nil (WW.seq ?_)
 refine WW.region (sg0 hS 1 [0] [23] [.agg #[.int .i64 ((gt pA x2.2).1),aa ((gt pA x2.2).2.1),.slice a28 ((gt pA x2.2).2.2).length z29]] [i31] (by kernel_rfl) fun s hS=>?_)
 obtain⟨y32,hy32,h17⟩:=bind_some h17
 refine dQ hS (wn rfl) (vs:=[.agg #[.int .i64 ((gt pA x2.2).1),aa ((gt pA x2.2).2.1),.slice a28 ((gt pA x2.2).2.2).length z29]]) (ws:=[.agg #[.int .i64 ((gt pA x2.2).1),aa ((gt pA x2.2).2.1),.slice a28 ((gt pA x2.2).2.2).length z29]]) rfl rfl rfl rfl rfl 0 rfl (g_t.ok hy32) fun s v S' F34 hp33 hF hS=>?_
 obtain⟨hF35,rfl,rfl⟩:=hp33
 refine sg0 hS 1 [] [12] [.int .i64 y32] [] (by kernel_rfl) fun s hS=>(KW.nil ?_)
 obtain⟨z36,hz36,h17⟩:=bind_some h17
 refine WW.seqJ (fun s=> ∃(F37:FZ),Stt EV s [(1,.func (.func 63) #[] #[]),(2,.func (.func 64) #[] #[]),(6,.slice none 0 0),(7,.int .i64 0),(8,.int .i64 0),(9,.slice a5 x2.1.length z6),(10,.int .i64 x2.2),(11,.pointer (some ⟨i31,0,none⟩)),(12,.int .i64 z36),(16,.slice (some ⟨i25,of26,none⟩) pA.length zD),(17,.int .i64 (pA.length:Int)),(18,.int .i64 x2.2)] [[(i31,.row [.int .i64 ((gt pA x2.2).1),aa ((gt pA x2.2).2.1),.slice a28 ((gt pA x2.2).2.2).length z29] 61 0 true)],B8] F37 L F nx0∧FLe F34 F37) ?_ ?_
 refine WW.seq (WW.region ?_)
 refine sg0 hS 2 [] [26] [.bool (y32==0)] [] (by kernel_rfl) fun s hS=>(KW.nil ?_)
 refine bc hz36 (fun hc39 hz36=>?_) fun hc39 hz36=>?_
 refine WW.condK hS rfl hc39 (WW.region ?_)
 refine sg0 hS 3 [0] [27,29] [.func (.func 63) #[] #[],aa ((gt pA x2.2).2.1)] [i31] (by kernel_rfl) fun s hS=>?_
 obtain⟨y40,hy40,hz36⟩:=bind_some hz36
 refine dQ hS (wn rfl) (vs:=[aa ((gt pA x2.2).2.1)]) (ws:=[aa ((gt pA x2.2).2.1)]) rfl rfl rfl rfl rfl 0 rfl (g_k.ok hy40) fun s v S' F42 hp41 hF hS=>?_
 obtain⟨hF43,rfl,rfl⟩:=hp41
 refine sg0 hS 1 [] [12] [.int .i64 y40] [] (by kernel_rfl) fun s hS=>(KW.nil ?_)
 obtain rfl:=Option.some.inj hz36
 exact⟨_,(hS.subR rfl),hF43⟩
 refine WW.condF hS rfl hc39 (WW.skip ?_)
 obtain rfl:=Option.some.inj hz36
 exact⟨_,(hS.subR rfl),(FLe.refl _)⟩
 rintro s ⟨F37,hS,hF38⟩
 refine WW.seq (WW.seq ?_)
 refine WW.region (sg0 hS 2 [] [32] [.bool (z36 != 0)] [] (by kernel_rfl) fun s hS=>?_)
 refine KW.nil (bc h17 (fun hc44 h17=>?_) fun hc44 h17=>?_)
 refine WW.condK hS rfl hc44 (WW.seq ?_)
 refine WW.region (sg0 hS 5 [] [6,7,8] [.slice none 0 0,.int .i64 x2.2,.int .i64 z36] [] (by kernel_rfl) fun s hS=>?_)
 refine KW.nil (WW.ret ?_)
 replace hS:=hS.gap0
 have hres:=(ak hS (t:=6) (v:= .slice none ([]:List (List UInt8)).length 0) rfl (ak hS (t:=7) (v:= .int .i64 x2.2) rfl (ak hS (t:=8) (v:= .int .i64 z36) rfl (aQ (E:=EV) (s:=s)))))
 replace hS:=(hS.pull 1).drop
 replace hS:=(hS.pull 1).drop
 cases h17
 exact⟨_,rfl,rfl,fin hS (.inr rfl) hres (v:= .tuple #[.slice none ([]:List (List UInt8)).length 0,.int .i64 x2.2,.int .i64 z36]) rfl ⟨_,_,_,((FLe.trans hF4 (FLe.trans hF35 hF38))),rfl,rfl,Own.nil⟩⟩
 refine WW.condF hS rfl hc44 (WW.skip ?_)
 refine WW.region (sg0 hS 3 [0] [35,36,37] [.slice a5 x2.1.length z6,.func (.func 64) #[] #[],.agg #[.int .i64 ((gt pA x2.2).1),aa ((gt pA x2.2).2.1),.slice a28 ((gt pA x2.2).2.2).length z29]] [i31] (by kernel_rfl) fun s hS=>?_)
 obtain⟨y45,hy45,h17⟩:=bind_some h17
 refine dQ hS (wn rfl) (vs:=[.agg #[.int .i64 ((gt pA x2.2).1),aa ((gt pA x2.2).2.1),.slice a28 ((gt pA x2.2).2.2).length z29]]) (ws:=[.agg #[.int .i64 ((gt pA x2.2).1),aa ((gt pA x2.2).2.1),.slice a28 ((gt pA x2.2).2.2).length z29]]) rfl rfl rfl rfl rfl 0 rfl (g_i.ok hy45 (hG.mono (FLe.trans hF4 (FLe.trans hF35 hF38)))) fun s v S' F' hp46 hF hS=>?_
 obtain⟨a47,z48,B50,rfl,rfl,rfl,h49⟩:=hp46
 obtain⟨F54,hF55,hS,hz56⟩:=hS.frzO h49
 obtain⟨hk57,h17⟩:=ac h17
 replace hS:=hS.pull 1
 refine mr hS (wn rfl) (dd:=(elS 9)) (lst:=x2.1) (m:=y45) rfl rfl db rfl rfl (h7.mono (FLe.trans hF35 (FLe.trans hF38 hF55))) hz56 hk57 fun s a58 z59 B60 hO61 hS=>(sg0 hS 1 [] [9] [.slice a58 (x2.1++y45).length z59] [] (by kernel_rfl) fun s hS=>?_)
 refine KW.nil (WW.region ?_)
 refine sg0 hS 2 [] [18] [.int .i64 (w64 (x2.2+1))] [] (by kernel_rfl) fun s hS=>(KW.nil ?_)
 replace hS:=(hS.pull 1).drop
 obtain rfl:=Option.some.inj h17
 exact⟨_,rfl,_,_,_,_,(hS.subR rfl),hO61,(FLe.trans hF4 (FLe.trans hF35 (FLe.trans hF38 hF55)))⟩
 refine WW.condF hS rfl hc18 (WW.exit ?_)
 refine ax ?_
 obtain rfl:=Option.some.inj h17
 exact⟨_,rfl,rfl,_,_,_,_,(hS.subR rfl),h7,hF4⟩
 clear hS
 rcases o9 with y62 | y62
 rintro e s ⟨rfl,a65,z66,B68,F63,hS,h67,hF64⟩
 replace h:=bC h
 refine au (WW.seq ?_)
 refine WW.seq (WW.region ?_)
 refine sg0 hS 3 [] [43] [.bool (decide ((y62.1.length:Int)>400))] [] (by kernel_rfl) fun s hS=>(KW.nil ?_)
 refine bc h (fun hc69 h=>?_) fun hc69 h=>?_
 refine WW.condK hS rfl hc69 (WW.seq ?_)
 refine WW.region (sg0 hS 3 [] [6,7,8] [.slice none 0 0,.int .i64 0,.int .i64 8] [] (by kernel_rfl) fun s hS=>?_)
 refine KW.nil (WW.ret ?_)
 replace hS:=hS.gap0
 have hres:=(ak hS (t:=6) (v:= .slice none ([]:List (List UInt8)).length 0) rfl (ak hS (t:=7) (v:= .int .i64 0) rfl (ak hS (t:=8) (v:= .int .i64 8) rfl (aQ (E:=EV) (s:=s)))))
 replace hS:=(hS.pull 1).drop
 cases h
 exact fin hS (.inr rfl) hres (v:= .tuple #[.slice none ([]:List (List UInt8)).length 0,.int .i64 0,.int .i64 8]) rfl ⟨_,_,_,(hF64),rfl,rfl,Own.nil⟩
 refine WW.condF hS rfl hc69 (WW.skip ?_)
 refine WW.seq (WW.region ?_)
 refine sg0 hS 4 [] [6,7,8] [.slice a65 y62.1.length z66,.int .i64 0,.int .i64 0] [] (by kernel_rfl) fun s hS=>(KW.nil ?_)
 refine WW.ret ?_
 have hres:=(ak hS (t:=6) (v:= .slice a65 y62.1.length z66) rfl (ak hS (t:=7) (v:= .int .i64 0) rfl (ak hS (t:=8) (v:= .int .i64 0) rfl (aQ (E:=EV) (s:=s)))))
 cases h
 exact fin hS (.inr rfl) hres (v:= .tuple #[.slice a65 y62.1.length z66,.int .i64 0,.int .i64 0]) rfl ⟨_,_,_,(hF64),rfl,rfl,h67⟩
 rintro e s ⟨rfl,hfin⟩
 replace h:=bD h
 obtain rfl:=Option.some.inj h
 exact hfin
noncomputable def g_h.f (pA:List (Int×List UInt8×(List (Int×Int×Int)))):Option (List (List UInt8)×Int×Int) :=
  Option.bind (g_s.f pA) fun y1=>some (y1.1,y1.2.1,y1.2.2)
theorem g_h.ok {aC:Option Addr} {zD:Nat} {pA:List (Int×List UInt8×(List (Int×Int×Int)))} {F:FZ} {r:List (List UInt8)×Int×Int} (h:g_h.f pA=some r) (hE:Frz d7 F aC zD pA) (hG:Gl F) :
    Cl EV 31 [.slice aC pA.length zD] [] F (fun v S' F'=> ∃(ra1:Option Addr) (rz2:Nat) (rB4:Seg),FLe F F'∧v= .tuple #[.slice ra1 r.1.length rz2,.int .i64 r.2.1,.int .i64 r.2.2]∧S'= [rB4]∧Own (elS 9) F' ra1 rz2 r.1 rB4):=by
 refine Cl.of Tryz.func31 rfl (fun _ _=>rfl) (by kernel_rfl) fun s L nx0 hS=>?_
 unfold g_h.f at h
 refine WW.seq (WW.region ?_)
 refine sg0 hS 3 [] [2,3,4] [.slice none 0 0,.int .i64 0,.int .i64 0] [] (by kernel_rfl) fun s hS=>(KW.nil ?_)
 refine WW.seq (WW.region ?_)
 obtain⟨y1,hy1,h⟩:=bind_some h
 refine cK (g_s.ok hy1 hE hG) hS 1 6 0 rfl (by kernel_rfl) fun s v S' F3 hp2 hF hS=>?_
 obtain⟨a4,z5,B7,hF8,rfl,rfl,h6⟩:=hp2
 refine sg0 hS 6 [] [2,3,4] [.slice a4 y1.1.length z5,.int .i64 y1.2.1,.int .i64 y1.2.2] [] (by kernel_rfl) fun s hS=>(KW.nil ?_)
 refine WW.ret ?_
 have hres:=(ak hS (t:=2) (v:= .slice a4 y1.1.length z5) rfl (ak hS (t:=3) (v:= .int .i64 y1.2.1) rfl (ak hS (t:=4) (v:= .int .i64 y1.2.2) rfl (aQ (E:=EV) (s:=s)))))
 cases h
 exact fin hS (.inr rfl) hres (v:= .tuple #[.slice a4 y1.1.length z5,.int .i64 y1.2.1,.int .i64 y1.2.2]) rfl ⟨_,_,_,(hF8),rfl,rfl,h6⟩
noncomputable def g_3.f (pA:Int) (pB:Int) (pC:Int):Option (Bool) :=
  some (!((decide (pA<pB))||(decide (pA>pC))))
theorem g_3.ok {pA:Int} {pB:Int} {pC:Int} {F:FZ} {r:Bool} (h:g_3.f pA pB pC=some r) :
    Cl EV 27 [.int .i64 pA,.int .i64 pB,.int .i64 pC] [] F (fun v S' F'=>F=F'∧v= .bool r∧S'= []):=by
 refine Cl.of Tryz.func27 rfl (fun _ _=>rfl) (by kernel_rfl) fun s L nx0 hS=>?_
 unfold g_3.f at h
 refine WW.seq (WW.region ?_)
 refine sg0 hS 1 [] [6] [.bool false] [] (by kernel_rfl) fun s hS=>(KW.nil ?_)
 refine WW.seq (WW.region ?_)
 refine sg0 hS 4 [] [10] [.bool (decide (pA<pB))] [] (by kernel_rfl) fun s hS=>(bZ 4 (fun s=>Stt EV s [(14,.bool ((decide (pA<pB))||(decide (pA>pC)))),(6,.bool false)] [] F L F nx0) ?_ fun s hS=>?_)
 rcases az ((decide (pA<pB))) with hcj | hcj
 replace hS:=hS.know (t:=10) rfl (congrArg Value.bool hcj)
 refine sg0 hS 4 [] [14] [.bool true] [] (by kernel_rfl) fun s hS=>(KW.nil ?_)
 exact(hS.know (t:=14) (u':= .bool ((decide (pA<pB))||(decide (pA>pC)))) rfl (c9 hcj)).subR rfl
 replace hS:=hS.know (t:=10) rfl (congrArg Value.bool hcj)
 refine sg0 hS 4 [] [14] [.bool (decide (pA>pC))] [] (by kernel_rfl) fun s hS=>(KW.nil ?_)
 exact(hS.know (t:=14) (u':= .bool ((decide (pA<pB))||(decide (pA>pC)))) rfl (da hcj)).subR rfl
 refine sg0 hS 2 [] [6] [.bool (!((decide (pA<pB))||(decide (pA>pC))))] [] (by kernel_rfl) fun s hS=>(KW.nil ?_)
 refine WW.ret ?_
 cases h
 exact aP hS (.inr rfl) 6 rfl rfl ⟨rfl,rfl,rfl⟩
noncomputable def g_1.b0 (pA:List UInt8) (x2:Int):Option ((Int)⊕((Int)⊕(Bool))) :=
  (if(decide (x2<(pA.length:Int))) then(if 0≤x2∧x2<(pA.length:Int) then Option.bind (g_3.f (IntKind.i64.wrap ((gt pA x2).toNat:Int)) 32 126) fun y8=>(if(!y8) then some (.inr (.inr false)) else some (.inl (w64 (x2+1)))) else none) else some (.inr (.inl x2)))
noncomputable def g_1.f (pA:List UInt8) (pB:Int):Option (Bool) :=
  (if(decide ((pA.length:Int)>pB)) then some false else Option.bind (iter (g_1.b0 pA) 0) fun o3=>cu o3 fun y11=>some true)
theorem g_1.ok {pA:List UInt8} {pB:Int} {F:FZ} {r:Bool} (h:g_1.f pA pB=some r) :
    Cl EV 53 [aa pA,.int .i64 pB] [] F (fun v S' F'=>F=F'∧v= .bool r∧S'= []):=by
 refine Cl.of Tryz.func53 rfl (fun _ _=>rfl) (by kernel_rfl) fun s L nx0 hS=>?_
 unfold g_1.f at h
 refine WW.seq (WW.region ?_)
 refine sg0 hS 1 [] [4] [.bool false] [] (by kernel_rfl) fun s hS=>(KW.nil ?_)
 refine WW.seq (WW.seq ?_)
 refine WW.region (sg0 hS 4 [] [9] [.bool (decide ((pA.length:Int)>pB))] [] (by kernel_rfl) fun s hS=>?_)
 refine KW.nil (bc h (fun hc1 h=>?_) fun hc1 h=>?_)
 refine WW.condK hS rfl hc1 (WW.seq ?_)
 refine WW.region (sg0 hS 1 [] [4] [.bool false] [] (by kernel_rfl) fun s hS=>?_)
 refine KW.nil (WW.ret ?_)
 cases h
 exact aP hS (.inr rfl) 4 rfl rfl ⟨rfl,rfl,rfl⟩
 refine WW.condF hS rfl hc1 (WW.skip ?_)
 refine WW.seq (WW.seq ?_)
 refine WW.region (sg0 hS 1 [] [5] [.int .i64 0] [] (by kernel_rfl) fun s hS=>?_)
 refine KW.nil (WW.block ?_)
 obtain⟨o3,ho3,h⟩:=bind_some h
 refine WW.loop (LW.iterS ho3 (fun(x2:Int) s=>Stt EV s [(0,aa pA),(4,.bool false),(5,.int .i64 x2)] [] F L F nx0) 0 (fun r=>g6 EV Tryz.f53 L F nx0 (fun v S' F'=>F=F'∧v= .bool r∧S'= [])) (hS.subR rfl) ?_ ?_)
 clear hS
 rintro x2 s hS o3' h5
 unfold g_1.b0 at h5
 refine WW.seq (WW.seq ?_)
 refine WW.region (sg0 hS 4 [] [13] [.bool (decide (x2<(pA.length:Int)))] [] (by kernel_rfl) fun s hS=>?_)
 refine KW.nil (bc h5 (fun hc6 h5=>?_) fun hc6 h5=>?_)
 refine WW.condK hS rfl hc6 (WW.skip ?_)
 refine WW.seq (WW.block ?_)
 refine WW.seq (WW.region ?_)
 refine sg0 hS 2 [] [16,17] [aa pA,.int .i64 x2] [] (by kernel_rfl) fun s hS=>?_
 obtain⟨hk7,h5⟩:=ac h5
 refine aD hS (wn rfl) rfl rfl rfl (v:=vB (gt pA x2)) (dp tu9 (hS.lk rfl) (hS.lk rfl) hk7) fun s hS=>(aD hS (wn rfl) rfl rfl (lF hS rfl rfl) (v:= .int .i64 (IntKind.i64.wrap ((gt pA x2).toNat:Int))) (ml (hS.lk rfl) tu5 tu3) fun s hS=>?_)
 obtain⟨y8,hy8,h5⟩:=bind_some h5
 refine cR (g_3.ok hy8) hS 0 20 0 rfl (by kernel_rfl) fun s hS=>(sg0 hS 1 [] [21] [.bool (!y8)] [] (by kernel_rfl) fun s hS=>?_)
 refine KW.nil (bc h5 (fun hc10 h5=>?_) fun hc10 h5=>?_)
 refine WW.condK hS rfl hc10 (WW.seq ?_)
 refine WW.region (sg0 hS 1 [] [4] [.bool false] [] (by kernel_rfl) fun s hS=>?_)
 refine KW.nil (WW.ret ?_)
 cases h5
 exact⟨_,rfl,rfl,aP hS (.inr rfl) 4 rfl rfl ⟨rfl,rfl,rfl⟩⟩
 refine WW.condF hS rfl hc10 (WW.skip ?_)
 refine WW.region (sg0 hS 3 [] [5] [.int .i64 (w64 (x2+1))] [] (by kernel_rfl) fun s hS=>?_)
 refine KW.nil ?_
 obtain rfl:=Option.some.inj h5
 exact⟨_,rfl,(hS.subR rfl)⟩
 refine WW.condF hS rfl hc6 (WW.exit ?_)
 refine ax ?_
 obtain rfl:=Option.some.inj h5
 exact⟨_,rfl,rfl,(hS.subR rfl)⟩
 clear hS
 rcases o3 with y11 | y11
 rintro e s ⟨rfl,hS⟩
 replace h:=bC h
 refine au (WW.seq ?_)
 refine WW.region (sg0 hS 1 [] [4] [.bool true] [] (by kernel_rfl) fun s hS=>?_)
 refine KW.nil (WW.ret ?_)
 cases h
 exact aP hS (.inr rfl) 4 rfl rfl ⟨rfl,rfl,rfl⟩
 rintro e s ⟨rfl,hfin⟩
 replace h:=bD h
 obtain rfl:=Option.some.inj h
 exact hfin
noncomputable def g_9.f (pA:List UInt8):Option (Int) :=
  (if(decide ((pA.length:Int)>1320)) then some 8 else Option.bind (g_1.f pA 1320) fun y2=>(if(!y2) then some 3 else some 0))
theorem g_9.ok {pA:List UInt8} {F:FZ} {r:Int} (h:g_9.f pA=some r) :
    Cl EV 41 [aa pA] [] F (fun v S' F'=>F=F'∧v= .int .i64 r∧S'= []):=by
 refine Cl.of Tryz.func41 rfl (fun _ _=>rfl) (by kernel_rfl) fun s L nx0 hS=>?_
 unfold g_9.f at h
 refine WW.seq (WW.region ?_)
 refine sg0 hS 1 [] [2] [.int .i64 0] [] (by kernel_rfl) fun s hS=>(KW.nil ?_)
 refine WW.seq (WW.seq ?_)
 refine WW.region (sg0 hS 3 [] [5] [.bool (decide ((pA.length:Int)>1320))] [] (by kernel_rfl) fun s hS=>?_)
 refine KW.nil (bc h (fun hc1 h=>?_) fun hc1 h=>?_)
 refine WW.condK hS rfl hc1 (WW.seq ?_)
 refine WW.region (sg0 hS 1 [] [2] [.int .i64 8] [] (by kernel_rfl) fun s hS=>?_)
 refine KW.nil (WW.ret ?_)
 cases h
 exact aP hS (.inr rfl) 2 rfl rfl ⟨rfl,rfl,rfl⟩
 refine WW.condF hS rfl hc1 (WW.skip ?_)
 refine WW.seq (WW.seq ?_)
 refine WW.region ?_
 obtain⟨y2,hy2,h⟩:=bind_some h
 refine cR (g_1.ok hy2) hS 1 7 0 rfl (by kernel_rfl) fun s hS=>(sg0 hS 1 [] [8] [.bool (!y2)] [] (by kernel_rfl) fun s hS=>?_)
 refine KW.nil (bc h (fun hc4 h=>?_) fun hc4 h=>?_)
 refine WW.condK hS rfl hc4 (WW.seq ?_)
 refine WW.region (sg0 hS 1 [] [2] [.int .i64 3] [] (by kernel_rfl) fun s hS=>?_)
 refine KW.nil (WW.ret ?_)
 cases h
 exact aP hS (.inr rfl) 2 rfl rfl ⟨rfl,rfl,rfl⟩
 refine WW.condF hS rfl hc4 (WW.skip ?_)
 refine WW.seq (WW.region ?_)
 refine sg0 hS 1 [] [2] [.int .i64 0] [] (by kernel_rfl) fun s hS=>(KW.nil ?_)
 refine WW.ret ?_
 cases h
 exact aP hS (.inr rfl) 2 rfl rfl ⟨rfl,rfl,rfl⟩
noncomputable def g_d.f (pA:UInt8):Option (Bool) :=
  some ((decide ((pA.toNat:Int)≥((48:UInt8).toNat:Int)))&&(decide ((pA.toNat:Int)≤((57:UInt8).toNat:Int))))
theorem g_d.ok {pA:UInt8} {F:FZ} {r:Bool} (h:g_d.f pA=some r) :
    Cl EV 79 [vB pA] [] F (fun v S' F'=>F=F'∧v= .bool r∧S'= []):=by
 refine Cl.of Tryz.func79 rfl (fun _ _=>rfl) (by kernel_rfl) fun s L nx0 hS=>?_
 unfold g_d.f at h
 refine WW.seq (WW.region ?_)
 refine sg0 hS 1 [] [2] [.bool false] [] (by kernel_rfl) fun s hS=>(KW.nil ?_)
 refine WW.seq (WW.region ?_)
 refine sg0 hS 3 [] [5] [.bool (decide ((pA.toNat:Int)≥((48:UInt8).toNat:Int)))] [] (by kernel_rfl) fun s hS=>(bZ 3 (fun s=>Stt EV s [(8,.bool ((decide ((pA.toNat:Int)≥((48:UInt8).toNat:Int)))&&(decide ((pA.toNat:Int)≤((57:UInt8).toNat:Int))))),(2,.bool false)] [] F L F nx0) ?_ fun s hS=>?_)
 rcases az ((decide ((pA.toNat:Int)≥((48:UInt8).toNat:Int)))) with hcj | hcj
 replace hS:=hS.know (t:=5) rfl (congrArg Value.bool hcj)
 refine sg0 hS 3 [] [8] [.bool (decide ((pA.toNat:Int)≤((57:UInt8).toNat:Int)))] [] (by kernel_rfl) fun s hS=>(KW.nil ?_)
 exact(hS.know (t:=8) (u':= .bool ((decide ((pA.toNat:Int)≥((48:UInt8).toNat:Int)))&&(decide ((pA.toNat:Int)≤((57:UInt8).toNat:Int))))) rfl (bX hcj)).subR rfl
 replace hS:=hS.know (t:=5) rfl (congrArg Value.bool hcj)
 refine sg0 hS 3 [] [8] [.bool false] [] (by kernel_rfl) fun s hS=>(KW.nil ?_)
 exact(hS.know (t:=8) (u':= .bool ((decide ((pA.toNat:Int)≥((48:UInt8).toNat:Int)))&&(decide ((pA.toNat:Int)≤((57:UInt8).toNat:Int))))) rfl (bY hcj)).subR rfl
 refine sg0 hS 1 [] [2] [.bool ((decide ((pA.toNat:Int)≥((48:UInt8).toNat:Int)))&&(decide ((pA.toNat:Int)≤((57:UInt8).toNat:Int))))] [] (by kernel_rfl) fun s hS=>(KW.nil ?_)
 refine WW.ret ?_
 cases h
 exact aP hS (.inr rfl) 2 rfl rfl ⟨rfl,rfl,rfl⟩
noncomputable def g_7.b0 (pB:List UInt8) (pI:Bool) (x20:UInt8×Int):Option ((UInt8×Int)⊕((UInt8×Int)⊕(Int))) :=
  (if((decide (x20.2<(pB.length:Int)))&&pI) then Option.bind ((if 0≤x20.2∧x20.2<(pB.length:Int) then(if(((x20.1.toNat:Int)==((0:UInt8).toNat:Int))&&(((((gt pB x20.2).toNat:Int)==((33:UInt8).toNat:Int))||(((gt pB x20.2).toNat:Int)==((59:UInt8).toNat:Int)))||(((gt pB x20.2).toNat:Int)==((38:UInt8).toNat:Int)))) then some (.inr (.inr (.inr 3))) else(if(((x20.1.toNat:Int)==((0:UInt8).toNat:Int))&&((((gt pB x20.2).toNat:Int)==((39:UInt8).toNat:Int))||(((gt pB x20.2).toNat:Int)==((34:UInt8).toNat:Int)))) then some (.inl (gt pB x20.2)) else(if(((gt pB x20.2).toNat:Int)==(x20.1.toNat:Int)) then some (.inl 0) else some (.inl x20.1)))) else none)) fun z25=>cu z25 fun z26=>some (.inl (z26,(w64 (x20.2+1)))) else some (.inr (.inl (x20.1,x20.2))))
noncomputable def g_7.f (pA:Int) (pB:List UInt8) (pI:Bool):Option (Int) :=
  Option.bind (g_3.f pA 0 99999) fun y2=>(if(!y2) then some 31 else Option.bind (g_9.f pB) fun y5=>(if(y5 != 0) then some y5 else(if(decide (pB= [])) then some 17 else(if 0≤(0:Int)∧(0:Int)<(pB.length:Int) then Option.bind ((if(((gt pB (0:Int)).toNat:Int)==((32:UInt8).toNat:Int)) then some true else(if 0≤(w64 ((pB.length:Int)-1))∧(w64 ((pB.length:Int)-1))<(pB.length:Int) then some (((gt pB (w64 ((pB.length:Int)-1))).toNat:Int)==((32:UInt8).toNat:Int)) else none))) fun z10=>Option.bind ((if z10 then some true else(if pI then(if 0≤(0:Int)∧(0:Int)<(pB.length:Int) then Option.bind (g_d.f (gt pB (0:Int))) fun y17=>some y17 else none) else some false))) fun z13=>(if z13 then some 3 else Option.bind (iter (g_7.b0 pB pI) (0,0)) fun o21=>cu o21 fun y31=>(if((y31.1.toNat:Int) != ((0:UInt8).toNat:Int)) then some 21 else some 0)) else none))))
theorem g_7.ok {aE:Option Addr} {zH:Nat} {pA:Int} {pB:List UInt8} {pC:List (Int×Int×Int)} {pI:Bool} {F:FZ} {r:Int} (h:g_7.f pA pB pI=some r) :
    Cl EV 65 [.agg #[.int .i64 pA,aa pB,.slice aE pC.length zH],.bool pI] [] F (fun v S' F'=>F=F'∧v= .int .i64 r∧S'= []):=by
 refine Cl.of Tryz.func65 rfl (fun _ _=>rfl) (by kernel_rfl) fun s L nx0 hS=>?_
 unfold g_7.f at h
 refine WW.seq (WW.region ?_)
 refine dP hS (wn rfl) rfl rfl rfl (v:=fun i=> .pointer (some ⟨i,0,none⟩)) (b:= .row [.int .i64 pA,aa pB,.slice aE pC.length zH] 61 0 true) (fc (hS.lk rfl) rfl [.int .i64 pA,aa pB,.slice aE pC.length zH] rfl) fun s i1 hS=>(sg0 hS 1 [] [4] [.int .i64 0] [] (by kernel_rfl) fun s hS=>?_)
 refine KW.nil (WW.seq ?_)
 refine WW.seq (WW.region ?_)
 refine sg0 hS 2 [0] [10] [.int .i64 pA] [i1] (by kernel_rfl) fun s hS=>?_
 obtain⟨y2,hy2,h⟩:=bind_some h
 refine dQ hS (wn rfl) (vs:=[.int .i64 pA,.int .i64 0,.int .i64 99999]) (ws:=[.int .i64 pA,.int .i64 0,.int .i64 99999]) rfl rfl rfl rfl rfl 0 rfl (g_3.ok hy2) fun s v S' F' hp3 hF hS=>?_
 obtain⟨rfl,rfl,rfl⟩:=hp3
 refine sg0 hS 1 [] [12] [.bool (!y2)] [] (by kernel_rfl) fun s hS=>(KW.nil ?_)
 refine bc h (fun hc4 h=>?_) fun hc4 h=>?_
 refine WW.condK hS rfl hc4 (WW.seq ?_)
 refine WW.region (sg0 hS 1 [] [4] [.int .i64 31] [] (by kernel_rfl) fun s hS=>?_)
 refine KW.nil (WW.ret ?_)
 replace hS:=hS.drop
 cases h
 exact aP hS (.inr rfl) 4 rfl rfl ⟨rfl,rfl,rfl⟩
 refine WW.condF hS rfl hc4 (WW.skip ?_)
 refine WW.seq (WW.seq ?_)
 refine WW.region (sg0 hS 2 [0] [14] [aa pB] [i1] (by kernel_rfl) fun s hS=>?_)
 obtain⟨y5,hy5,h⟩:=bind_some h
 refine dQ hS (wn rfl) (vs:=[aa pB]) (ws:=[aa pB]) rfl rfl rfl rfl rfl 0 rfl (g_9.ok hy5) fun s v S' F' hp6 hF hS=>?_
 obtain⟨rfl,rfl,rfl⟩:=hp6
 refine sg0 hS 1 [] [5] [.int .i64 y5] [] (by kernel_rfl) fun s hS=>(KW.nil ?_)
 refine WW.seq (WW.region ?_)
 refine sg0 hS 2 [] [17] [.bool (y5 != 0)] [] (by kernel_rfl) fun s hS=>(KW.nil ?_)
 refine bc h (fun hc7 h=>?_) fun hc7 h=>?_
 refine WW.condK hS rfl hc7 (WW.seq ?_)
 refine WW.region (sg0 hS 2 [] [4] [.int .i64 y5] [] (by kernel_rfl) fun s hS=>?_)
 refine KW.nil (WW.ret ?_)
 replace hS:=hS.drop
 cases h
 exact aP hS (.inr rfl) 4 rfl rfl ⟨rfl,rfl,rfl⟩
 refine WW.condF hS rfl hc7 (WW.skip ?_)
 refine WW.seq (WW.seq ?_)
 refine WW.region (sg0 hS 2 [0] [20] [aa pB] [i1] (by kernel_rfl) fun s hS=>?_)
 refine aD hS (wn rfl) rfl rfl rfl (v:= .bool (decide (pB= []))) (jH (hS.lk rfl) (hS.lk rfl)) fun s hS=>(KW.nil ?_)
 refine bc h (fun hc8 h=>?_) fun hc8 h=>?_
 refine WW.condK hS rfl hc8 (WW.seq ?_)
 refine WW.region (sg0 hS 1 [] [4] [.int .i64 17] [] (by kernel_rfl) fun s hS=>?_)
 refine KW.nil (WW.ret ?_)
 replace hS:=hS.drop
 cases h
 exact aP hS (.inr rfl) 4 rfl rfl ⟨rfl,rfl,rfl⟩
 refine WW.condF hS rfl hc8 (WW.skip ?_)
 refine WW.seq (WW.seq ?_)
 refine WW.region (sg0 hS 2 [0] [23] [aa pB] [i1] (by kernel_rfl) fun s hS=>?_)
 obtain⟨hk9,h⟩:=ac h
 refine aD hS (wn rfl) rfl rfl rfl (v:=vB (gt pB (0:Int))) (dp tu9 (hS.lk rfl) (hS.lk rfl) hk9) fun s hS=>(sg0 hS 2 [] [26] [.bool (((gt pB (0:Int)).toNat:Int)==((32:UInt8).toNat:Int))] [] (by kernel_rfl) fun s hS=>?_)
 obtain⟨z10,hz10,h⟩:=bind_some h
 refine bZ 9 (fun s=>Stt EV s [(35,.bool z10),(1,.bool pI),(2,.pointer (some ⟨i1,0,none⟩)),(4,.int .i64 0)] [[(i1,.row [.int .i64 pA,aa pB,.slice aE pC.length zH] 61 0 true)]] F L F nx0) ?_ fun s hS=>?_
 refine bc hz10 (fun hc11 hz10=>?_) fun hc11 hz10=>?_
 replace hS:=hS.kb 26 hc11 rfl
 refine sg0 hS 9 [] [35] [.bool true] [] (by kernel_rfl) fun s hS=>(KW.nil ?_)
 obtain rfl:=Option.some.inj hz10
 exact hS.subR rfl
 replace hS:=hS.kb 26 hc11 rfl
 refine sg0 hS 6 [0,0] [28,32] [aa pB,.int .i64 (w64 ((pB.length:Int)-1))] [i1,i1] (by kernel_rfl) fun s hS=>?_
 obtain⟨hk12,hz10⟩:=ac hz10
 refine aD hS (wt hS rfl rfl rfl rfl) rfl rfl rfl (v:=vB (gt pB (w64 ((pB.length:Int)-1)))) (dp tu9 (hS.lk rfl) (hS.lk rfl) hk12) fun s hS=>(sg0 hS 2 [] [35] [.bool (((gt pB (w64 ((pB.length:Int)-1))).toNat:Int)==((32:UInt8).toNat:Int))] [] (by kernel_rfl) fun s hS=>?_)
 refine KW.nil ?_
 obtain rfl:=Option.some.inj hz10
 exact hS.subR rfl
 refine sg0 hS 1 [] [36] [.bool z10] [] (by kernel_rfl) fun s hS=>?_
 obtain⟨z13,hz13,h⟩:=bind_some h
 refine bZ 8 (fun s=>Stt EV s [(44,.bool z13),(1,.bool pI),(2,.pointer (some ⟨i1,0,none⟩)),(4,.int .i64 0)] [[(i1,.row [.int .i64 pA,aa pB,.slice aE pC.length zH] 61 0 true)]] F L F nx0) ?_ fun s hS=>?_
 refine bc hz13 (fun hc14 hz13=>?_) fun hc14 hz13=>?_
 replace hS:=hS.kb 35 hc14 rfl
 replace hS:=hS.kb 36 hc14 rfl
 refine sg0 hS 2 [] [38] [undef] [] (by kernel_rfl) fun s hS=>(g7 hS (wu hS rfl rfl rfl) rfl fun s hS=>?_)
 refine g7 hS (wu hS rfl rfl rfl) rfl fun s hS=>(g7 hS (wu hS rfl rfl rfl) rfl fun s hS=>?_)
 refine g7 hS (wu hS rfl rfl rfl) rfl fun s hS=>(sg0 hS 2 [] [44] [.bool true] [] (by kernel_rfl) fun s hS=>?_)
 refine KW.nil ?_
 obtain rfl:=Option.some.inj hz13
 exact hS.subR rfl
 replace hS:=hS.kb 35 hc14 rfl
 replace hS:=hS.kb 36 hc14 rfl
 refine sg0 hS 2 [] [38] [.bool pI] [] (by kernel_rfl) fun s hS=>(bc hz13 (fun hc15 hz13=>?_) fun hc15 hz13=>?_)
 replace hS:=hS.kb 1 hc15 rfl
 replace hS:=hS.kb 38 hc15 rfl
 refine sg0 hS 2 [0] [40] [aa pB] [i1] (by kernel_rfl) fun s hS=>?_
 obtain⟨hk16,hz13⟩:=ac hz13
 refine aD hS (wt hS rfl rfl rfl rfl) rfl rfl rfl (v:=vB (gt pB (0:Int))) (dp tu9 (hS.lk rfl) (hS.lk rfl) hk16) fun s hS=>?_
 obtain⟨y17,hy17,hz13⟩:=bind_some hz13
 refine dQ hS (wt hS rfl rfl rfl rfl) (vs:=[vB (gt pB (0:Int))]) (ws:=[vB (gt pB (0:Int))]) rfl rfl rfl rfl rfl 0 rfl (g_d.ok hy17) fun s v S' F' hp18 hF hS=>?_
 obtain⟨rfl,rfl,rfl⟩:=hp18
 refine sg0 hS 2 [] [44] [.bool y17] [] (by kernel_rfl) fun s hS=>(KW.nil ?_)
 obtain rfl:=Option.some.inj hz13
 replace hS:=hS.know (t:=1) (u':= .bool pI) rfl (congrArg Value.bool (Eq.symm ‹pI=true›))
 exact hS.subR rfl
 replace hS:=hS.kb 1 hc15 rfl
 replace hS:=hS.kb 38 hc15 rfl
 refine sg0 hS 6 [] [44] [.bool false] [] (by kernel_rfl) fun s hS=>(KW.nil ?_)
 obtain rfl:=Option.some.inj hz13
 replace hS:=hS.know (t:=1) (u':= .bool pI) rfl (congrArg Value.bool (Eq.symm ‹pI=false›))
 exact hS.subR rfl
 refine KW.nil (bc h (fun hc19 h=>?_) fun hc19 h=>?_)
 refine WW.condK hS rfl hc19 (WW.seq ?_)
 refine WW.region (sg0 hS 1 [] [4] [.int .i64 3] [] (by kernel_rfl) fun s hS=>?_)
 refine KW.nil (WW.ret ?_)
 replace hS:=hS.drop
 cases h
 exact aP hS (.inr rfl) 4 rfl rfl ⟨rfl,rfl,rfl⟩
 refine WW.condF hS rfl hc19 (WW.skip ?_)
 refine WW.seq (WW.region ?_)
 refine sg0 hS 1 [] [6] [vB 0] [] (by kernel_rfl) fun s hS=>(KW.nil ?_)
 refine WW.seq (WW.seq ?_)
 refine WW.region (sg0 hS 1 [] [7] [.int .i64 0] [] (by kernel_rfl) fun s hS=>?_)
 refine KW.nil (WW.block ?_)
 obtain⟨o21,ho21,h⟩:=bind_some h
 refine WW.loop (LW.iterS ho21 (fun(x20:UInt8×Int) s=>Stt EV s [(1,.bool pI),(2,.pointer (some ⟨i1,0,none⟩)),(4,.int .i64 0),(6,vB x20.1),(7,.int .i64 x20.2)] [[(i1,.row [.int .i64 pA,aa pB,.slice aE pC.length zH] 61 0 true)]] F L F nx0) 0 (fun r=>g6 EV Tryz.f65 L F nx0 (fun v S' F'=>F=F'∧v= .int .i64 r∧S'= [])) (hS.subR rfl) ?_ ?_)
 clear hS
 rintro x20 s hS o21' h23
 unfold g_7.b0 at h23
 refine WW.seq (WW.seq ?_)
 refine WW.region (sg0 hS 6 [0] [50] [.bool (decide (x20.2<(pB.length:Int)))] [i1] (by kernel_rfl) fun s hS=>?_)
 refine bZ 2 (fun s=>Stt EV s [(52,.bool ((decide (x20.2<(pB.length:Int)))&&pI)),(1,.bool pI),(2,.pointer (some ⟨i1,0,none⟩)),(4,.int .i64 0),(6,vB x20.1),(7,.int .i64 x20.2)] [[(i1,.row [.int .i64 pA,aa pB,.slice aE pC.length zH] 61 0 true)]] F L F nx0) ?_ fun s hS=>?_
 rcases az ((decide (x20.2<(pB.length:Int)))) with hcj | hcj
 replace hS:=hS.know (t:=50) rfl (congrArg Value.bool hcj)
 refine sg0 hS 2 [] [52] [.bool pI] [] (by kernel_rfl) fun s hS=>(KW.nil ?_)
 exact(hS.know (t:=52) (u':= .bool ((decide (x20.2<(pB.length:Int)))&&pI)) rfl (bX hcj)).subR rfl
 replace hS:=hS.know (t:=50) rfl (congrArg Value.bool hcj)
 refine sg0 hS 2 [] [52] [.bool false] [] (by kernel_rfl) fun s hS=>(KW.nil ?_)
 exact(hS.know (t:=52) (u':= .bool ((decide (x20.2<(pB.length:Int)))&&pI)) rfl (bY hcj)).subR rfl
 refine KW.nil (bc h23 (fun hc24 h23=>?_) fun hc24 h23=>?_)
 refine WW.condK hS rfl hc24 (WW.skip ?_)
 obtain⟨z25,hz25,h23⟩:=bind_some h23
 refine WW.seqJ (fun s=> ∃(z26:UInt8),z25= .inl z26∧Stt EV s [(1,.bool pI),(2,.pointer (some ⟨i1,0,none⟩)),(4,.int .i64 0),(6,vB z26),(7,.int .i64 x20.2)] [[(i1,.row [.int .i64 pA,aa pB,.slice aE pC.length zH] 61 0 true)]] F L F nx0) ?_ ?_
 refine WW.block (WW.seq ?_)
 refine WW.region (sg0 hS 3 [0] [56,57] [aa pB,.int .i64 x20.2] [i1] (by kernel_rfl) fun s hS=>?_)
 obtain⟨hk27,hz25⟩:=ac hz25
 refine aD hS (wn rfl) rfl rfl rfl (v:=vB (gt pB x20.2)) (dp tu9 (hS.lk rfl) (hS.lk rfl) hk27) fun s hS=>(sg0 hS 1 [] [8] [vB (gt pB x20.2)] [] (by kernel_rfl) fun s hS=>?_)
 refine KW.nil (WW.seq ?_)
 refine WW.seq (WW.region ?_)
 refine sg0 hS 3 [] [61] [.bool ((x20.1.toNat:Int)==((0:UInt8).toNat:Int))] [] (by kernel_rfl) fun s hS=>(bZ 11 (fun s=>Stt EV s [(72,.bool (((x20.1.toNat:Int)==((0:UInt8).toNat:Int))&&(((((gt pB x20.2).toNat:Int)==((33:UInt8).toNat:Int))||(((gt pB x20.2).toNat:Int)==((59:UInt8).toNat:Int)))||(((gt pB x20.2).toNat:Int)==((38:UInt8).toNat:Int))))),(1,.bool pI),(2,.pointer (some ⟨i1,0,none⟩)),(4,.int .i64 0),(6,vB x20.1),(7,.int .i64 x20.2),(8,vB (gt pB x20.2))] [[(i1,.row [.int .i64 pA,aa pB,.slice aE pC.length zH] 61 0 true)]] F L F nx0) ?_ fun s hS=>?_)
 rcases az (((x20.1.toNat:Int)==((0:UInt8).toNat:Int))) with hcj | hcj
 replace hS:=hS.know (t:=61) rfl (congrArg Value.bool hcj)
 refine sg0 hS 3 [] [64] [.bool (((gt pB x20.2).toNat:Int)==((33:UInt8).toNat:Int))] [] (by kernel_rfl) fun s hS=>(bZ 3 (fun s=>Stt EV s [(67,.bool ((((gt pB x20.2).toNat:Int)==((33:UInt8).toNat:Int))||(((gt pB x20.2).toNat:Int)==((59:UInt8).toNat:Int)))),(1,.bool pI),(2,.pointer (some ⟨i1,0,none⟩)),(4,.int .i64 0),(6,vB x20.1),(7,.int .i64 x20.2),(8,vB (gt pB x20.2)),(61,.bool true)] [[(i1,.row [.int .i64 pA,aa pB,.slice aE pC.length zH] 61 0 true)]] F L F nx0) ?_ fun s hS=>?_)
 rcases az ((((gt pB x20.2).toNat:Int)==((33:UInt8).toNat:Int))) with hcj | hcj
 replace hS:=hS.know (t:=64) rfl (congrArg Value.bool hcj)
 refine sg0 hS 3 [] [67] [.bool true] [] (by kernel_rfl) fun s hS=>(KW.nil ?_)
 exact(hS.know (t:=67) (u':= .bool ((((gt pB x20.2).toNat:Int)==((33:UInt8).toNat:Int))||(((gt pB x20.2).toNat:Int)==((59:UInt8).toNat:Int)))) rfl (c9 hcj)).subR rfl
 replace hS:=hS.know (t:=64) rfl (congrArg Value.bool hcj)
 refine sg0 hS 3 [] [67] [.bool (((gt pB x20.2).toNat:Int)==((59:UInt8).toNat:Int))] [] (by kernel_rfl) fun s hS=>(KW.nil ?_)
 exact(hS.know (t:=67) (u':= .bool ((((gt pB x20.2).toNat:Int)==((33:UInt8).toNat:Int))||(((gt pB x20.2).toNat:Int)==((59:UInt8).toNat:Int)))) rfl (da hcj)).subR rfl
 refine sg0 hS 1 [] [68] [.bool ((((gt pB x20.2).toNat:Int)==((33:UInt8).toNat:Int))||(((gt pB x20.2).toNat:Int)==((59:UInt8).toNat:Int)))] [] (by kernel_rfl) fun s hS=>(bZ 3 (fun s=>Stt EV s [(71,.bool (((((gt pB x20.2).toNat:Int)==((33:UInt8).toNat:Int))||(((gt pB x20.2).toNat:Int)==((59:UInt8).toNat:Int)))||(((gt pB x20.2).toNat:Int)==((38:UInt8).toNat:Int)))),(1,.bool pI),(2,.pointer (some ⟨i1,0,none⟩)),(4,.int .i64 0),(6,vB x20.1),(7,.int .i64 x20.2),(8,vB (gt pB x20.2)),(61,.bool true)] [[(i1,.row [.int .i64 pA,aa pB,.slice aE pC.length zH] 61 0 true)]] F L F nx0) ?_ fun s hS=>?_)
 rcases az (((((gt pB x20.2).toNat:Int)==((33:UInt8).toNat:Int))||(((gt pB x20.2).toNat:Int)==((59:UInt8).toNat:Int)))) with hcj | hcj
 replace hS:=hS.know (t:=67) rfl (congrArg Value.bool hcj)
 replace hS:=hS.know (t:=68) rfl (congrArg Value.bool hcj)
 refine sg0 hS 3 [] [71] [.bool true] [] (by kernel_rfl) fun s hS=>(KW.nil ?_)
 exact(hS.know (t:=71) (u':= .bool (((((gt pB x20.2).toNat:Int)==((33:UInt8).toNat:Int))||(((gt pB x20.2).toNat:Int)==((59:UInt8).toNat:Int)))||(((gt pB x20.2).toNat:Int)==((38:UInt8).toNat:Int)))) rfl (c9 hcj)).subR rfl
 replace hS:=hS.know (t:=67) rfl (congrArg Value.bool hcj)
 replace hS:=hS.know (t:=68) rfl (congrArg Value.bool hcj)
 refine sg0 hS 3 [] [71] [.bool (((gt pB x20.2).toNat:Int)==((38:UInt8).toNat:Int))] [] (by kernel_rfl) fun s hS=>(KW.nil ?_)
 exact(hS.know (t:=71) (u':= .bool (((((gt pB x20.2).toNat:Int)==((33:UInt8).toNat:Int))||(((gt pB x20.2).toNat:Int)==((59:UInt8).toNat:Int)))||(((gt pB x20.2).toNat:Int)==((38:UInt8).toNat:Int)))) rfl (da hcj)).subR rfl
 refine sg0 hS 1 [] [72] [.bool (((((gt pB x20.2).toNat:Int)==((33:UInt8).toNat:Int))||(((gt pB x20.2).toNat:Int)==((59:UInt8).toNat:Int)))||(((gt pB x20.2).toNat:Int)==((38:UInt8).toNat:Int)))] [] (by kernel_rfl) fun s hS=>(KW.nil ?_)
 exact(hS.know (t:=72) (u':= .bool (((x20.1.toNat:Int)==((0:UInt8).toNat:Int))&&(((((gt pB x20.2).toNat:Int)==((33:UInt8).toNat:Int))||(((gt pB x20.2).toNat:Int)==((59:UInt8).toNat:Int)))||(((gt pB x20.2).toNat:Int)==((38:UInt8).toNat:Int))))) rfl (bX hcj)).subR rfl
 replace hS:=hS.know (t:=61) rfl (congrArg Value.bool hcj)
 refine sg0 hS 3 [] [64] [undef] [] (by kernel_rfl) fun s hS=>(g7 hS (wu hS rfl rfl rfl) rfl fun s hS=>?_)
 refine g7 hS (wu hS rfl rfl rfl) rfl fun s hS=>(sg0 hS 2 [] [68] [undef] [] (by kernel_rfl) fun s hS=>?_)
 refine g7 hS (wu hS rfl rfl rfl) rfl fun s hS=>(g7 hS (wu hS rfl rfl rfl) rfl fun s hS=>?_)
 refine sg0 hS 2 [] [72] [.bool false] [] (by kernel_rfl) fun s hS=>(KW.nil ?_)
 exact(hS.know (t:=72) (u':= .bool (((x20.1.toNat:Int)==((0:UInt8).toNat:Int))&&(((((gt pB x20.2).toNat:Int)==((33:UInt8).toNat:Int))||(((gt pB x20.2).toNat:Int)==((59:UInt8).toNat:Int)))||(((gt pB x20.2).toNat:Int)==((38:UInt8).toNat:Int))))) rfl (bY hcj)).subR rfl
 refine KW.nil (bc hz25 (fun hc28 hz25=>?_) fun hc28 hz25=>?_)
 refine WW.condK hS rfl hc28 (WW.seq ?_)
 refine WW.region (sg0 hS 1 [] [4] [.int .i64 3] [] (by kernel_rfl) fun s hS=>?_)
 refine KW.nil (WW.ret ?_)
 obtain rfl:=Option.some.inj hz25
 replace h23:=bD h23
 replace hS:=hS.drop
 cases h23
 exact⟨_,rfl,rfl,aP hS (.inr rfl) 4 rfl rfl ⟨rfl,rfl,rfl⟩⟩
 refine WW.condF hS rfl hc28 (WW.skip ?_)
 refine WW.seq (WW.region ?_)
 refine sg0 hS 3 [] [75] [.bool ((x20.1.toNat:Int)==((0:UInt8).toNat:Int))] [] (by kernel_rfl) fun s hS=>(bZ 7 (fun s=>Stt EV s [(82,.bool (((x20.1.toNat:Int)==((0:UInt8).toNat:Int))&&((((gt pB x20.2).toNat:Int)==((39:UInt8).toNat:Int))||(((gt pB x20.2).toNat:Int)==((34:UInt8).toNat:Int))))),(1,.bool pI),(2,.pointer (some ⟨i1,0,none⟩)),(4,.int .i64 0),(6,vB x20.1),(7,.int .i64 x20.2),(8,vB (gt pB x20.2))] [[(i1,.row [.int .i64 pA,aa pB,.slice aE pC.length zH] 61 0 true)]] F L F nx0) ?_ fun s hS=>?_)
 rcases az (((x20.1.toNat:Int)==((0:UInt8).toNat:Int))) with hcj | hcj
 replace hS:=hS.know (t:=75) rfl (congrArg Value.bool hcj)
 refine sg0 hS 3 [] [78] [.bool (((gt pB x20.2).toNat:Int)==((39:UInt8).toNat:Int))] [] (by kernel_rfl) fun s hS=>(bZ 3 (fun s=>Stt EV s [(81,.bool ((((gt pB x20.2).toNat:Int)==((39:UInt8).toNat:Int))||(((gt pB x20.2).toNat:Int)==((34:UInt8).toNat:Int)))),(1,.bool pI),(2,.pointer (some ⟨i1,0,none⟩)),(4,.int .i64 0),(6,vB x20.1),(7,.int .i64 x20.2),(8,vB (gt pB x20.2)),(75,.bool true)] [[(i1,.row [.int .i64 pA,aa pB,.slice aE pC.length zH] 61 0 true)]] F L F nx0) ?_ fun s hS=>?_)
 rcases az ((((gt pB x20.2).toNat:Int)==((39:UInt8).toNat:Int))) with hcj | hcj
 replace hS:=hS.know (t:=78) rfl (congrArg Value.bool hcj)
 refine sg0 hS 3 [] [81] [.bool true] [] (by kernel_rfl) fun s hS=>(KW.nil ?_)
 exact(hS.know (t:=81) (u':= .bool ((((gt pB x20.2).toNat:Int)==((39:UInt8).toNat:Int))||(((gt pB x20.2).toNat:Int)==((34:UInt8).toNat:Int)))) rfl (c9 hcj)).subR rfl
 replace hS:=hS.know (t:=78) rfl (congrArg Value.bool hcj)
 refine sg0 hS 3 [] [81] [.bool (((gt pB x20.2).toNat:Int)==((34:UInt8).toNat:Int))] [] (by kernel_rfl) fun s hS=>(KW.nil ?_)
 exact(hS.know (t:=81) (u':= .bool ((((gt pB x20.2).toNat:Int)==((39:UInt8).toNat:Int))||(((gt pB x20.2).toNat:Int)==((34:UInt8).toNat:Int)))) rfl (da hcj)).subR rfl
 refine sg0 hS 1 [] [82] [.bool ((((gt pB x20.2).toNat:Int)==((39:UInt8).toNat:Int))||(((gt pB x20.2).toNat:Int)==((34:UInt8).toNat:Int)))] [] (by kernel_rfl) fun s hS=>(KW.nil ?_)
 exact(hS.know (t:=82) (u':= .bool (((x20.1.toNat:Int)==((0:UInt8).toNat:Int))&&((((gt pB x20.2).toNat:Int)==((39:UInt8).toNat:Int))||(((gt pB x20.2).toNat:Int)==((34:UInt8).toNat:Int))))) rfl (bX hcj)).subR rfl
 replace hS:=hS.know (t:=75) rfl (congrArg Value.bool hcj)
 refine sg0 hS 3 [] [78] [undef] [] (by kernel_rfl) fun s hS=>(g7 hS (wu hS rfl rfl rfl) rfl fun s hS=>?_)
 refine g7 hS (wu hS rfl rfl rfl) rfl fun s hS=>(sg0 hS 2 [] [82] [.bool false] [] (by kernel_rfl) fun s hS=>?_)
 refine KW.nil ?_
 exact(hS.know (t:=82) (u':= .bool (((x20.1.toNat:Int)==((0:UInt8).toNat:Int))&&((((gt pB x20.2).toNat:Int)==((39:UInt8).toNat:Int))||(((gt pB x20.2).toNat:Int)==((34:UInt8).toNat:Int))))) rfl (bY hcj)).subR rfl
 refine KW.nil (bc hz25 (fun hc29 hz25=>?_) fun hc29 hz25=>?_)
 refine WW.condK hS rfl hc29 (WW.region ?_)
 refine sg0 hS 2 [] [6] [vB (gt pB x20.2)] [] (by kernel_rfl) fun s hS=>(KW.nil ?_)
 obtain rfl:=Option.some.inj hz25
 exact⟨_,rfl,(hS.subR rfl)⟩
 refine WW.condF hS rfl hc29 (WW.seq ?_)
 refine WW.region (sg0 hS 3 [] [86] [.bool (((gt pB x20.2).toNat:Int)==(x20.1.toNat:Int))] [] (by kernel_rfl) fun s hS=>?_)
 refine KW.nil (bc hz25 (fun hc30 hz25=>?_) fun hc30 hz25=>?_)
 refine WW.condK hS rfl hc30 (WW.region ?_)
 refine sg0 hS 1 [] [6] [vB 0] [] (by kernel_rfl) fun s hS=>(KW.nil ?_)
 obtain rfl:=Option.some.inj hz25
 exact⟨_,rfl,(hS.subR rfl)⟩
 refine WW.condF hS rfl hc30 (WW.skip ?_)
 obtain rfl:=Option.some.inj hz25
 exact⟨_,rfl,(hS.subR rfl)⟩
 rintro s ⟨z26,rfl,hS⟩
 replace h23:=bC h23
 refine WW.region (sg0 hS 3 [] [7] [.int .i64 (w64 (x20.2+1))] [] (by kernel_rfl) fun s hS=>?_)
 refine KW.nil ?_
 obtain rfl:=Option.some.inj h23
 exact⟨_,rfl,(hS.subR rfl)⟩
 refine WW.condF hS rfl hc24 (WW.exit ?_)
 refine ax ?_
 obtain rfl:=Option.some.inj h23
 exact⟨_,rfl,rfl,(hS.subR rfl)⟩
 clear hS
 rcases o21 with y31 | y31
 rintro e s ⟨rfl,hS⟩
 replace h:=bC h
 refine au (WW.seq ?_)
 refine WW.seq (WW.region ?_)
 refine sg0 hS 2 [] [88] [.bool ((y31.1.toNat:Int) != ((0:UInt8).toNat:Int))] [] (by kernel_rfl) fun s hS=>(KW.nil ?_)
 refine bc h (fun hc32 h=>?_) fun hc32 h=>?_
 refine WW.condK hS rfl hc32 (WW.seq ?_)
 refine WW.region (sg0 hS 1 [] [4] [.int .i64 21] [] (by kernel_rfl) fun s hS=>?_)
 refine KW.nil (WW.ret ?_)
 replace hS:=hS.drop
 cases h
 exact aP hS (.inr rfl) 4 rfl rfl ⟨rfl,rfl,rfl⟩
 refine WW.condF hS rfl hc32 (WW.skip ?_)
 refine WW.seq (WW.region ?_)
 refine sg0 hS 1 [] [4] [.int .i64 0] [] (by kernel_rfl) fun s hS=>(KW.nil ?_)
 refine WW.ret ?_
 replace hS:=hS.drop
 cases h
 exact aP hS (.inr rfl) 4 rfl rfl ⟨rfl,rfl,rfl⟩
 rintro e s ⟨rfl,hfin⟩
 replace h:=bD h
 obtain rfl:=Option.some.inj h
 exact hfin
noncomputable def g_0.F (self:Int→Option (List UInt8)) (pA:Int):Option (List UInt8) :=
  (if(decide (pA<0)) then(if(decide (pA>(-10))) then Option.bind (self (w64 (-pA))) fun y3=>(if([45]:List UInt8).length+y3.length<1000000000 then some (([45]:List UInt8)++y3) else none) else Option.bind (self (w64 (Int.tdiv pA 10))) fun y6=>Option.bind (self (w64 (-(Int.tmod pA 10)))) fun y8=>(if y6.length+y8.length<1000000000 then some (y6++y8) else none)) else(if(decide (pA>9)) then Option.bind (self (w64 (Int.tdiv pA 10))) fun y12=>Option.bind (self (Int.tmod pA 10)) fun y14=>(if y12.length+y14.length<1000000000 then some (y12++y14) else none) else(if 0≤pA∧pA≤(w64 (pA+1))∧(w64 (pA+1))≤(([48,49,50,51,52,53,54,55,56,57]).length:Int) then some (mid ([48,49,50,51,52,53,54,55,56,57]) pA (w64 (pA+1))) else none)))
noncomputable def g_0.f (pA:Int):Option (List UInt8):=fixO (fun self (x:Int)=>g_0.F self x) pA
theorem g_0.okN (n:Nat): ∀{pA:Int} {F:FZ} {r:List UInt8} (h:hJ (fun self (x:Int)=>g_0.F self x) n pA=some r),
    Cl EV 66 [.int .i64 pA] [] F (fun v S' F'=>F=F'∧v=aa r∧S'= []):=by
 induction n with
 | zero=>intros; rename_i h _; cases ‹hJ _ 0 _=some _›
 | succ n ih =>
 intro pA F r h
 refine Cl.of Tryz.func66 rfl (fun _ _=>rfl) (by kernel_rfl) fun s L nx0 hS=>?_
 replace h:g_0.F (hJ (fun self (x:Int)=>g_0.F self x) n) pA=some r:=h
 generalize hself:hJ (fun self (x:Int)=>g_0.F self x) n=self at h ih
 unfold g_0.F at h
 refine WW.seq (WW.region ?_)
 refine sg0 hS 1 [] [2] [aa ([])] [] (by kernel_rfl) fun s hS=>(KW.nil ?_)
 refine WW.seq (WW.seq ?_)
 refine WW.region (sg0 hS 2 [] [4] [.bool (decide (pA<0))] [] (by kernel_rfl) fun s hS=>?_)
 refine KW.nil (bc h (fun hc1 h=>?_) fun hc1 h=>?_)
 refine WW.condK hS rfl hc1 (WW.seq ?_)
 refine WW.seq (WW.region ?_)
 refine sg0 hS 2 [] [6] [.bool (decide (pA>(-10)))] [] (by kernel_rfl) fun s hS=>(KW.nil ?_)
 refine bc h (fun hc2 h=>?_) fun hc2 h=>?_
 refine WW.condK hS rfl hc2 (WW.seq ?_)
 refine WW.region (sg0 hS 1 [] [7] [.int .i64 pA] [] (by kernel_rfl) fun s hS=>?_)
 refine aD hS (wn rfl) rfl rfl rfl (v:= .int .i64 (w64 (-pA))) (mv (hS.lk rfl)) fun s hS=>?_
 obtain⟨y3,hy3,h⟩:=bind_some h
 refine cR (ih hy3) hS 0 9 0 rfl (by kernel_rfl) fun s hS=>?_
 obtain⟨hk5,h⟩:=ac h
 refine aD hS (wn rfl) rfl rfl rfl (v:=aa (([45]:List UInt8)++y3)) (aG (hS.lk rfl) (hS.lk rfl) hk5) fun s hS=>(sg0 hS 1 [] [2] [aa (([45]:List UInt8)++y3)] [] (by kernel_rfl) fun s hS=>?_)
 refine KW.nil (WW.ret ?_)
 cases h
 exact aP hS (.inr rfl) 2 rfl rfl ⟨rfl,rfl,rfl⟩
 refine WW.condF hS rfl hc2 (WW.skip ?_)
 refine WW.seq (WW.region ?_)
 obtain⟨y6,hy6,h⟩:=bind_some h
 refine cR (ih hy6) hS 2 13 0 rfl (by kernel_rfl) fun s hS=>(sg0 hS 2 [] [15] [.int .i64 (Int.tmod pA 10)] [] (by kernel_rfl) fun s hS=>?_)
 refine aD hS (wn rfl) rfl rfl rfl (v:= .int .i64 (w64 (-(Int.tmod pA 10)))) (mv (hS.lk rfl)) fun s hS=>?_
 obtain⟨y8,hy8,h⟩:=bind_some h
 refine cR (ih hy8) hS 0 17 0 rfl (by kernel_rfl) fun s hS=>?_
 obtain⟨hk10,h⟩:=ac h
 refine aD hS (wn rfl) rfl rfl rfl (v:=aa (y6++y8)) (aG (hS.lk rfl) (hS.lk rfl) hk10) fun s hS=>(sg0 hS 1 [] [2] [aa (y6++y8)] [] (by kernel_rfl) fun s hS=>?_)
 refine KW.nil (WW.ret ?_)
 cases h
 exact aP hS (.inr rfl) 2 rfl rfl ⟨rfl,rfl,rfl⟩
 refine WW.condF hS rfl hc1 (WW.skip ?_)
 refine WW.seq (WW.seq ?_)
 refine WW.region (sg0 hS 2 [] [20] [.bool (decide (pA>9))] [] (by kernel_rfl) fun s hS=>?_)
 refine KW.nil (bc h (fun hc11 h=>?_) fun hc11 h=>?_)
 refine WW.condK hS rfl hc11 (WW.seq ?_)
 refine WW.region ?_
 obtain⟨y12,hy12,h⟩:=bind_some h
 refine cR (ih hy12) hS 2 23 0 rfl (by kernel_rfl) fun s hS=>?_
 obtain⟨y14,hy14,h⟩:=bind_some h
 refine cR (ih hy14) hS 2 26 0 rfl (by kernel_rfl) fun s hS=>?_
 obtain⟨hk16,h⟩:=ac h
 refine aD hS (wn rfl) rfl rfl rfl (v:=aa (y12++y14)) (aG (hS.lk rfl) (hS.lk rfl) hk16) fun s hS=>(sg0 hS 1 [] [2] [aa (y12++y14)] [] (by kernel_rfl) fun s hS=>?_)
 refine KW.nil (WW.ret ?_)
 cases h
 exact aP hS (.inr rfl) 2 rfl rfl ⟨rfl,rfl,rfl⟩
 refine WW.condF hS rfl hc11 (WW.skip ?_)
 refine WW.seq (WW.region ?_)
 refine sg0 hS 3 [] [28,30] [.int .i64 pA,.int .i64 (w64 (pA+1))] [] (by kernel_rfl) fun s hS=>?_
 obtain⟨hk17,h⟩:=ac h
 refine aD hS (wn rfl) rfl rfl rfl (v:=aa (mid ([48,49,50,51,52,53,54,55,56,57]) pA (w64 (pA+1)))) (e9 tu9 (hS.lk rfl) (i:=pA) (j:=(w64 (pA+1))) (dR hS rfl) (dR hS rfl) hk17) fun s hS=>(sg0 hS 1 [] [2] [aa (mid ([48,49,50,51,52,53,54,55,56,57]) pA (w64 (pA+1)))] [] (by kernel_rfl) fun s hS=>?_)
 refine KW.nil (WW.ret ?_)
 cases h
 exact aP hS (.inr rfl) 2 rfl rfl ⟨rfl,rfl,rfl⟩
theorem g_0.ok {pA:Int} {F:FZ} {r:List UInt8} (h:g_0.f pA=some r) :
    Cl EV 66 [.int .i64 pA] [] F (fun v S' F'=>F=F'∧v=aa r∧S'= []):=by
  obtain⟨n,hn⟩:=nc h
  exact g_0.okN n hn
noncomputable def g_c.b0 (pA:List UInt8) (z1:List UInt8) (x4:List (List UInt8)×Int):Option ((List (List UInt8)×Int)⊕(List (List UInt8)×Int)) :=
  (if(decide (x4.2<(pA.length:Int))) then Option.bind ((if(decide (x4.2>0)) then some ([38]) else some z1)) fun z17=>(if 0≤x4.2∧x4.2≤(if(w64 (x4.2+100))<(pA.length:Int) then(w64 (x4.2+100)) else(pA.length:Int))∧(if(w64 (x4.2+100))<(pA.length:Int) then(w64 (x4.2+100)) else(pA.length:Int))≤(pA.length:Int) then(if z17.length+(mid pA x4.2 (if(w64 (x4.2+100))<(pA.length:Int) then(w64 (x4.2+100)) else(pA.length:Int))).length<1000000000 then Option.bind ((if(decide ((if(w64 (x4.2+100))<(pA.length:Int) then(w64 (x4.2+100)) else(pA.length:Int))<(pA.length:Int))) then(if(z17++(mid pA x4.2 (if(w64 (x4.2+100))<(pA.length:Int) then(w64 (x4.2+100)) else(pA.length:Int)))).length+([38]:List UInt8).length<1000000000 then some ((z17++(mid pA x4.2 (if(w64 (x4.2+100))<(pA.length:Int) then(w64 (x4.2+100)) else(pA.length:Int))))++ [38]) else none) else some (z17++(mid pA x4.2 (if(w64 (x4.2+100))<(pA.length:Int) then(w64 (x4.2+100)) else(pA.length:Int)))))) fun z21=>(if x4.1.length+([z21]:List (List UInt8)).length<1000000000 then some (.inl ((x4.1++([z21]:List (List UInt8))),(w64 (x4.2+100)))) else none) else none) else none) else some (.inr (x4.1,x4.2)))
noncomputable def g_c.f (pA:List UInt8) (pB:List UInt8):Option (List (List UInt8)) :=
  Option.bind ((if(!decide (pB= [])) then(if pB.length+([32]:List UInt8).length<1000000000 then some (pB++ [32]) else none) else some pB)) fun z1=>Option.bind (iter (g_c.b0 pA z1) (([]:List (List UInt8)),0)) fun o9=>some o9.1
theorem g_c.ok {pA:List UInt8} {pB:List UInt8} {F:FZ} {r:List (List UInt8)} (h:g_c.f pA pB=some r) :
    Cl EV 67 [aa pA,aa pB] [] F (fun v S' F'=> ∃(ra1:Option Addr) (rz2:Nat) (rB4:Seg),F=F'∧v= .slice ra1 r.length rz2∧S'= [rB4]∧Own (elS 9) F' ra1 rz2 r rB4):=by
 refine Cl.of Tryz.func67 rfl (fun _ _=>rfl) (by kernel_rfl) fun s L nx0 hS=>?_
 unfold g_c.f at h
 refine WW.seq (WW.region ?_)
 refine sg0 hS 1 [] [4] [.slice none 0 0] [] (by kernel_rfl) fun s hS=>(KW.nil ?_)
 obtain⟨z1,hz1,h⟩:=bind_some h
 refine WW.seqJ (fun s=>Stt EV s [(0,aa pA),(1,aa z1),(4,.slice none 0 0)] [] F L F nx0) ?_ ?_
 refine WW.seq (WW.region ?_)
 refine sg0 hS 1 [] [9] [aa pB] [] (by kernel_rfl) fun s hS=>(aD hS (wn rfl) rfl rfl rfl (v:= .bool (!decide (pB= []))) (mm (hS.lk rfl) (hS.lk rfl)) fun s hS=>?_)
 refine KW.nil (bc hz1 (fun hc2 hz1=>?_) fun hc2 hz1=>?_)
 refine WW.condK hS rfl hc2 (WW.region ?_)
 refine sg0 hS 1 [] [11] [aa pB] [] (by kernel_rfl) fun s hS=>?_
 obtain⟨hk3,hz1⟩:=ac hz1
 refine aD hS (wn rfl) rfl rfl rfl (v:=aa (pB++ [32])) (aG (hS.lk rfl) (hS.lk rfl) hk3) fun s hS=>(sg0 hS 1 [] [1] [aa (pB++ [32])] [] (by kernel_rfl) fun s hS=>?_)
 refine KW.nil ?_
 obtain rfl:=Option.some.inj hz1
 exact(hS.subR rfl)
 refine WW.condF hS rfl hc2 (WW.skip ?_)
 obtain rfl:=Option.some.inj hz1
 exact(hS.subR rfl)
 rintro s hS
 refine WW.seq (WW.region ?_)
 refine sg0 hS 1 [] [5] [.slice none 0 0] [] (by kernel_rfl) fun s hS=>(KW.nil ?_)
 refine WW.seq (WW.seq ?_)
 refine WW.region (sg0 hS 1 [] [6] [.int .i64 0] [] (by kernel_rfl) fun s hS=>?_)
 refine KW.nil (WW.block ?_)
 replace hS:=hS.gap0
 obtain⟨o9,ho9,h⟩:=bind_some h
 refine WW.loop (LW.iterE ho9 (fun(x4:List (List UInt8)×Int) s=> ∃(a5:Option Addr) (z6:Nat) (B8:Seg),Stt EV s [(0,aa pA),(1,aa z1),(4,.slice none 0 0),(5,.slice a5 x4.1.length z6),(6,.int .i64 x4.2)] [B8] F L F nx0∧Own (elS 9) F a5 z6 x4.1 B8) 0 ⟨_,_,_,(hS.subR rfl),Own.nil⟩ ?_ ?_)
 clear hS
 rintro x4 s ⟨a5,z6,B8,hS,h7⟩ o9' h15
 unfold g_c.b0 at h15
 refine WW.seq (WW.seq ?_)
 refine WW.region (sg0 hS 4 [] [16] [.bool (decide (x4.2<(pA.length:Int)))] [] (by kernel_rfl) fun s hS=>?_)
 refine KW.nil (bc h15 (fun hc16 h15=>?_) fun hc16 h15=>?_)
 refine WW.condK hS rfl hc16 (WW.skip ?_)
 refine WW.seq (WW.block ?_)
 refine WW.seq (WW.region ?_)
 refine sg0 hS 2 [] [7] [aa z1] [] (by kernel_rfl) fun s hS=>(KW.nil ?_)
 obtain⟨z17,hz17,h15⟩:=bind_some h15
 refine WW.seqJ (fun s=>Stt EV s [(0,aa pA),(1,aa z1),(4,.slice none 0 0),(5,.slice a5 x4.1.length z6),(6,.int .i64 x4.2),(7,aa z17)] [B8] F L F nx0) ?_ ?_
 refine WW.seq (WW.region ?_)
 refine sg0 hS 2 [] [21] [.bool (decide (x4.2>0))] [] (by kernel_rfl) fun s hS=>(KW.nil ?_)
 refine bc hz17 (fun hc18 hz17=>?_) fun hc18 hz17=>?_
 refine WW.condK hS rfl hc18 (WW.region ?_)
 refine sg0 hS 1 [] [7] [aa ([38])] [] (by kernel_rfl) fun s hS=>(KW.nil ?_)
 obtain rfl:=Option.some.inj hz17
 exact(hS.subR rfl)
 refine WW.condF hS rfl hc18 (WW.skip ?_)
 obtain rfl:=Option.some.inj hz17
 exact(hS.subR rfl)
 rintro s hS
 refine WW.seq (WW.region ?_)
 refine sg0 hS 4 [] [23,25] [.int .i64 (pA.length:Int),.int .i64 (w64 (x4.2+100))] [] (by kernel_rfl) fun s hS=>(aD hS (wn rfl) rfl rfl rfl (v:= .int .i64 (if(w64 (x4.2+100))<(pA.length:Int) then(w64 (x4.2+100)) else(pA.length:Int))) (mq rfl (hS.lk rfl) (hS.lk rfl)) fun s hS=>?_)
 refine sg0 hS 1 [] [8] [.int .i64 (if(w64 (x4.2+100))<(pA.length:Int) then(w64 (x4.2+100)) else(pA.length:Int))] [] (by kernel_rfl) fun s hS=>(KW.nil ?_)
 refine WW.seq (WW.region ?_)
 refine sg0 hS 4 [] [27,28,29,30] [aa z17,aa pA,.int .i64 x4.2,.int .i64 (if(w64 (x4.2+100))<(pA.length:Int) then(w64 (x4.2+100)) else(pA.length:Int))] [] (by kernel_rfl) fun s hS=>?_
 obtain⟨hk19,h15⟩:=ac h15
 refine aD hS (wn rfl) rfl rfl rfl (v:=aa (mid pA x4.2 (if(w64 (x4.2+100))<(pA.length:Int) then(w64 (x4.2+100)) else(pA.length:Int)))) (e9 tu9 (hS.lk rfl) (i:=x4.2) (j:=(if(w64 (x4.2+100))<(pA.length:Int) then(w64 (x4.2+100)) else(pA.length:Int))) (dR hS rfl) (dR hS rfl) hk19) fun s hS=>?_
 obtain⟨hk20,h15⟩:=ac h15
 refine aD hS (wn rfl) rfl rfl rfl (v:=aa (z17++(mid pA x4.2 (if(w64 (x4.2+100))<(pA.length:Int) then(w64 (x4.2+100)) else(pA.length:Int))))) (aG (hS.lk rfl) (hS.lk rfl) hk20) fun s hS=>(sg0 hS 1 [] [7] [aa (z17++(mid pA x4.2 (if(w64 (x4.2+100))<(pA.length:Int) then(w64 (x4.2+100)) else(pA.length:Int))))] [] (by kernel_rfl) fun s hS=>?_)
 refine KW.nil ?_
 obtain⟨z21,hz21,h15⟩:=bind_some h15
 refine WW.seqJ (fun s=>Stt EV s [(0,aa pA),(1,aa z1),(4,.slice none 0 0),(5,.slice a5 x4.1.length z6),(6,.int .i64 x4.2),(7,aa z21)] [B8] F L F nx0) ?_ ?_
 refine WW.seq (WW.region ?_)
 refine sg0 hS 4 [] [36] [.bool (decide ((if(w64 (x4.2+100))<(pA.length:Int) then(w64 (x4.2+100)) else(pA.length:Int))<(pA.length:Int)))] [] (by kernel_rfl) fun s hS=>(KW.nil ?_)
 refine bc hz21 (fun hc22 hz21=>?_) fun hc22 hz21=>?_
 refine WW.condK hS rfl hc22 (WW.region ?_)
 refine sg0 hS 1 [] [37] [aa (z17++(mid pA x4.2 (if(w64 (x4.2+100))<(pA.length:Int) then(w64 (x4.2+100)) else(pA.length:Int))))] [] (by kernel_rfl) fun s hS=>?_
 obtain⟨hk23,hz21⟩:=ac hz21
 refine aD hS (wn rfl) rfl rfl rfl (v:=aa ((z17++(mid pA x4.2 (if(w64 (x4.2+100))<(pA.length:Int) then(w64 (x4.2+100)) else(pA.length:Int))))++ [38])) (aG (hS.lk rfl) (hS.lk rfl) hk23) fun s hS=>(sg0 hS 1 [] [7] [aa ((z17++(mid pA x4.2 (if(w64 (x4.2+100))<(pA.length:Int) then(w64 (x4.2+100)) else(pA.length:Int))))++ [38])] [] (by kernel_rfl) fun s hS=>?_)
 refine KW.nil ?_
 obtain rfl:=Option.some.inj hz21
 exact(hS.subR rfl)
 refine WW.condF hS rfl hc22 (WW.skip ?_)
 obtain rfl:=Option.some.inj hz21
 exact(hS.subR rfl)
 rintro s hS
 refine WW.region (sg0 hS 2 [] [39,40] [.slice a5 x4.1.length z6,aa z21] [] (by kernel_rfl) fun s hS=>?_)
 refine dP hS (wn rfl) rfl rfl rfl (v:=fun i=> .slice (some ⟨i,0,none⟩) 1 1) (b:= .row [aa z21] 9 1 true) (cw tu36 tz9 t0_9 rfl [(0,aa z21)] (bW hS rfl) rfl) fun s i24 hS=>?_
 have hC25:af (elS 9) F ([z21]:List (List UInt8)) [aa z21]:=⟨[aa z21],[],rfl,rfl,rfl⟩
 obtain⟨hk29,h15⟩:=ac h15
 refine mo hS (wn rfl) (dd:=(elS 9)) (lst:=x4.1) (m:=([z21]:List (List UInt8))) rfl rfl db rfl rfl h7 (Nat.succ_pos _) hC25 hk29 fun s i26 cs27 hC28 hS=>(sg0 hS 1 [] [5] [.slice (some ⟨i26,0,none⟩) (x4.1++([z21]:List (List UInt8))).length 1] [] (by kernel_rfl) fun s hS=>?_)
 refine KW.nil (WW.region ?_)
 refine sg0 hS 3 [] [6] [.int .i64 (w64 (x4.2+100))] [] (by kernel_rfl) fun s hS=>(KW.nil ?_)
 obtain rfl:=Option.some.inj h15
 exact⟨_,rfl,_,_,_,(hS.subR rfl),(Own.blk0 hC28)⟩
 refine WW.condF hS rfl hc16 (WW.exit ?_)
 refine ax ?_
 obtain rfl:=Option.some.inj h15
 exact⟨_,rfl,rfl,_,_,_,(hS.subR rfl),h7⟩
 clear hS
 rintro e s ⟨rfl,a30,z31,B33,hS,h32⟩
 refine au (WW.seq ?_)
 refine WW.region (sg0 hS 2 [] [4] [.slice a30 o9.1.length z31] [] (by kernel_rfl) fun s hS=>?_)
 refine KW.nil (WW.ret ?_)
 cases h
 exact aP hS (.inr rfl) 4 rfl rfl ⟨_,_,_,rfl,rfl,rfl,h32⟩
noncomputable def g_a.b0 (pA:Int) (x1:List UInt8×Int):Option ((List UInt8×Int)⊕(List UInt8×Int)) :=
  (if(decide (x1.2<pA)) then(if x1.1.length+([32]:List UInt8).length<1000000000 then some (.inl ((x1.1++ [32]),(w64 (x1.2+1)))) else none) else some (.inr (x1.1,x1.2)))
noncomputable def g_a.f (pA:Int):Option (List UInt8) :=
  Option.bind (iter (g_a.b0 pA) ([],0)) fun o2=>some o2.1
theorem g_a.ok {pA:Int} {F:FZ} {r:List UInt8} (h:g_a.f pA=some r) :
    Cl EV 90 [.int .i64 pA] [] F (fun v S' F'=>F=F'∧v=aa r∧S'= []):=by
 refine Cl.of Tryz.func90 rfl (fun _ _=>rfl) (by kernel_rfl) fun s L nx0 hS=>?_
 unfold g_a.f at h
 refine WW.seq (WW.region ?_)
 refine sg0 hS 1 [] [2] [aa ([])] [] (by kernel_rfl) fun s hS=>(KW.nil ?_)
 refine WW.seq (WW.region ?_)
 refine sg0 hS 1 [] [3] [aa ([])] [] (by kernel_rfl) fun s hS=>(KW.nil ?_)
 refine WW.seq (WW.seq ?_)
 refine WW.region (sg0 hS 1 [] [4] [.int .i64 0] [] (by kernel_rfl) fun s hS=>?_)
 refine KW.nil (WW.block ?_)
 obtain⟨o2,ho2,h⟩:=bind_some h
 refine WW.loop (LW.iterE ho2 (fun(x1:List UInt8×Int) s=>Stt EV s [(0,.int .i64 pA),(2,aa ([])),(3,aa x1.1),(4,.int .i64 x1.2)] [] F L F nx0) 0 (hS.subR rfl) ?_ ?_)
 clear hS
 rintro x1 s hS o2' h4
 unfold g_a.b0 at h4
 refine WW.seq (WW.seq ?_)
 refine WW.region (sg0 hS 3 [] [7] [.bool (decide (x1.2<pA))] [] (by kernel_rfl) fun s hS=>?_)
 refine KW.nil (bc h4 (fun hc5 h4=>?_) fun hc5 h4=>?_)
 refine WW.condK hS rfl hc5 (WW.skip ?_)
 refine WW.seq (WW.block ?_)
 refine WW.region (sg0 hS 1 [] [10] [aa x1.1] [] (by kernel_rfl) fun s hS=>?_)
 obtain⟨hk6,h4⟩:=ac h4
 refine aD hS (wn rfl) rfl rfl rfl (v:=aa (x1.1++ [32])) (aG (hS.lk rfl) (hS.lk rfl) hk6) fun s hS=>(sg0 hS 1 [] [3] [aa (x1.1++ [32])] [] (by kernel_rfl) fun s hS=>?_)
 refine KW.nil (WW.region ?_)
 refine sg0 hS 3 [] [4] [.int .i64 (w64 (x1.2+1))] [] (by kernel_rfl) fun s hS=>(KW.nil ?_)
 obtain rfl:=Option.some.inj h4
 exact⟨_,rfl,(hS.subR rfl)⟩
 refine WW.condF hS rfl hc5 (WW.exit ?_)
 refine ax ?_
 obtain rfl:=Option.some.inj h4
 exact⟨_,rfl,rfl,(hS.subR rfl)⟩
 clear hS
 rintro e s ⟨rfl,hS⟩
 refine au (WW.seq ?_)
 refine WW.region (sg0 hS 2 [] [2] [aa o2.1] [] (by kernel_rfl) fun s hS=>?_)
 refine KW.nil (WW.ret ?_)
 cases h
 exact aP hS (.inr rfl) 2 rfl rfl ⟨rfl,rfl,rfl⟩
noncomputable def g_b.b0 (pA:List UInt8) (pB:List UInt8) (x1:List (List UInt8)×Int):Option ((List (List UInt8)×Int)⊕(List (List UInt8)×Int)) :=
  (if(decide (x1.2<(pA.length:Int))) then Option.bind (g_a.f (w64 (5-(pB.length:Int)))) fun y14=>(if y14.length+pB.length<1000000000 then(if(y14++pB).length+([32]:List UInt8).length<1000000000 then Option.bind ((if(decide (x1.2>0)) then Option.bind (g_a.f 5) fun y20=>(if y20.length+([38]:List UInt8).length<1000000000 then some (y20++ [38]) else none) else some ((y14++pB)++ [32]))) fun z18=>(if 0≤x1.2∧x1.2≤(if(w64 (x1.2+66))<(pA.length:Int) then(w64 (x1.2+66)) else(pA.length:Int))∧(if(w64 (x1.2+66))<(pA.length:Int) then(w64 (x1.2+66)) else(pA.length:Int))≤(pA.length:Int) then(if z18.length+(mid pA x1.2 (if(w64 (x1.2+66))<(pA.length:Int) then(w64 (x1.2+66)) else(pA.length:Int))).length<1000000000 then(if x1.1.length+([(z18++(mid pA x1.2 (if(w64 (x1.2+66))<(pA.length:Int) then(w64 (x1.2+66)) else(pA.length:Int))))]:List (List UInt8)).length<1000000000 then some (.inl ((x1.1++([(z18++(mid pA x1.2 (if(w64 (x1.2+66))<(pA.length:Int) then(w64 (x1.2+66)) else(pA.length:Int))))]:List (List UInt8))),(w64 (x1.2+66)))) else none) else none) else none) else none) else none) else some (.inr (x1.1,x1.2)))
noncomputable def g_b.f (pA:List UInt8) (pB:List UInt8):Option (List (List UInt8)) :=
  Option.bind (iter (g_b.b0 pA pB) (([]:List (List UInt8)),0)) fun o6=>some o6.1
theorem g_b.ok {pA:List UInt8} {pB:List UInt8} {F:FZ} {r:List (List UInt8)} (h:g_b.f pA pB=some r) :
    Cl EV 68 [aa pA,aa pB] [] F (fun v S' F'=> ∃(ra1:Option Addr) (rz2:Nat) (rB4:Seg),F=F'∧v= .slice ra1 r.length rz2∧S'= [rB4]∧Own (elS 9) F' ra1 rz2 r rB4):=by
 refine Cl.of Tryz.func68 rfl (fun _ _=>rfl) (by kernel_rfl) fun s L nx0 hS=>?_
 unfold g_b.f at h
 refine WW.seq (WW.region ?_)
 refine sg0 hS 1 [] [4] [.slice none 0 0] [] (by kernel_rfl) fun s hS=>(KW.nil ?_)
 refine WW.seq (WW.region ?_)
 refine sg0 hS 1 [] [5] [.slice none 0 0] [] (by kernel_rfl) fun s hS=>(KW.nil ?_)
 refine WW.seq (WW.seq ?_)
 refine WW.region (sg0 hS 1 [] [6] [.int .i64 0] [] (by kernel_rfl) fun s hS=>?_)
 refine KW.nil (WW.block ?_)
 replace hS:=hS.gap0
 obtain⟨o6,ho6,h⟩:=bind_some h
 refine WW.loop (LW.iterE ho6 (fun(x1:List (List UInt8)×Int) s=> ∃(a2:Option Addr) (z3:Nat) (B5:Seg),Stt EV s [(0,aa pA),(1,aa pB),(4,.slice none 0 0),(5,.slice a2 x1.1.length z3),(6,.int .i64 x1.2)] [B5] F L F nx0∧Own (elS 9) F a2 z3 x1.1 B5) 0 ⟨_,_,_,(hS.subR rfl),Own.nil⟩ ?_ ?_)
 clear hS
 rintro x1 s ⟨a2,z3,B5,hS,h4⟩ o6' h12
 unfold g_b.b0 at h12
 refine WW.seq (WW.seq ?_)
 refine WW.region (sg0 hS 4 [] [11] [.bool (decide (x1.2<(pA.length:Int)))] [] (by kernel_rfl) fun s hS=>?_)
 refine KW.nil (bc h12 (fun hc13 h12=>?_) fun hc13 h12=>?_)
 refine WW.condK hS rfl hc13 (WW.skip ?_)
 refine WW.seq (WW.block ?_)
 refine WW.seq (WW.region ?_)
 obtain⟨y14,hy14,h12⟩:=bind_some h12
 refine cR (g_a.ok hy14) hS 3 17 0 rfl (by kernel_rfl) fun s hS=>(sg0 hS 1 [] [18] [aa pB] [] (by kernel_rfl) fun s hS=>?_)
 obtain⟨hk16,h12⟩:=ac h12
 refine aD hS (wn rfl) rfl rfl rfl (v:=aa (y14++pB)) (aG (hS.lk rfl) (hS.lk rfl) hk16) fun s hS=>?_
 obtain⟨hk17,h12⟩:=ac h12
 refine aD hS (wn rfl) rfl rfl rfl (v:=aa ((y14++pB)++ [32])) (aG (hS.lk rfl) (hS.lk rfl) hk17) fun s hS=>(sg0 hS 1 [] [7] [aa ((y14++pB)++ [32])] [] (by kernel_rfl) fun s hS=>?_)
 refine KW.nil ?_
 obtain⟨z18,hz18,h12⟩:=bind_some h12
 refine WW.seqJ (fun s=>Stt EV s [(0,aa pA),(1,aa pB),(4,.slice none 0 0),(5,.slice a2 x1.1.length z3),(6,.int .i64 x1.2),(7,aa z18)] [B5] F L F nx0) ?_ ?_
 refine WW.seq (WW.region ?_)
 refine sg0 hS 2 [] [22] [.bool (decide (x1.2>0))] [] (by kernel_rfl) fun s hS=>(KW.nil ?_)
 refine bc hz18 (fun hc19 hz18=>?_) fun hc19 hz18=>?_
 refine WW.condK hS rfl hc19 (WW.region ?_)
 obtain⟨y20,hy20,hz18⟩:=bind_some hz18
 refine cR (g_a.ok hy20) hS 0 23 0 rfl (by kernel_rfl) fun s hS=>?_
 obtain⟨hk22,hz18⟩:=ac hz18
 refine aD hS (wn rfl) rfl rfl rfl (v:=aa (y20++ [38])) (aG (hS.lk rfl) (hS.lk rfl) hk22) fun s hS=>(sg0 hS 1 [] [7] [aa (y20++ [38])] [] (by kernel_rfl) fun s hS=>?_)
 refine KW.nil ?_
 obtain rfl:=Option.some.inj hz18
 exact(hS.subR rfl)
 refine WW.condF hS rfl hc19 (WW.skip ?_)
 obtain rfl:=Option.some.inj hz18
 exact(hS.subR rfl)
 rintro s hS
 refine WW.region (sg0 hS 8 [] [25,26,27,28,30,32] [.slice a2 x1.1.length z3,aa z18,aa pA,.int .i64 x1.2,.int .i64 (pA.length:Int),.int .i64 (w64 (x1.2+66))] [] (by kernel_rfl) fun s hS=>?_)
 refine aD hS (wn rfl) rfl rfl rfl (v:= .int .i64 (if(w64 (x1.2+66))<(pA.length:Int) then(w64 (x1.2+66)) else(pA.length:Int))) (mq rfl (hS.lk rfl) (hS.lk rfl)) fun s hS=>?_
 obtain⟨hk23,h12⟩:=ac h12
 refine aD hS (wn rfl) rfl rfl rfl (v:=aa (mid pA x1.2 (if(w64 (x1.2+66))<(pA.length:Int) then(w64 (x1.2+66)) else(pA.length:Int)))) (e9 tu9 (hS.lk rfl) (i:=x1.2) (j:=(if(w64 (x1.2+66))<(pA.length:Int) then(w64 (x1.2+66)) else(pA.length:Int))) (dR hS rfl) (dR hS rfl) hk23) fun s hS=>?_
 obtain⟨hk24,h12⟩:=ac h12
 refine aD hS (wn rfl) rfl rfl rfl (v:=aa (z18++(mid pA x1.2 (if(w64 (x1.2+66))<(pA.length:Int) then(w64 (x1.2+66)) else(pA.length:Int))))) (aG (hS.lk rfl) (hS.lk rfl) hk24) fun s hS=>(dP hS (wn rfl) rfl rfl rfl (v:=fun i=> .slice (some ⟨i,0,none⟩) 1 1) (b:= .row [aa (z18++(mid pA x1.2 (if(w64 (x1.2+66))<(pA.length:Int) then(w64 (x1.2+66)) else(pA.length:Int))))] 9 1 true) (cw tu36 tz9 t0_9 rfl [(0,aa (z18++(mid pA x1.2 (if(w64 (x1.2+66))<(pA.length:Int) then(w64 (x1.2+66)) else(pA.length:Int)))))] (bW hS rfl) rfl) fun s i25 hS=>?_)
 have hC26:af (elS 9) F ([(z18++(mid pA x1.2 (if(w64 (x1.2+66))<(pA.length:Int) then(w64 (x1.2+66)) else(pA.length:Int))))]:List (List UInt8)) [aa (z18++(mid pA x1.2 (if(w64 (x1.2+66))<(pA.length:Int) then(w64 (x1.2+66)) else(pA.length:Int))))]:=⟨[aa (z18++(mid pA x1.2 (if(w64 (x1.2+66))<(pA.length:Int) then(w64 (x1.2+66)) else(pA.length:Int))))],[],rfl,rfl,rfl⟩
 obtain⟨hk30,h12⟩:=ac h12
 refine mo hS (wn rfl) (dd:=(elS 9)) (lst:=x1.1) (m:=([(z18++(mid pA x1.2 (if(w64 (x1.2+66))<(pA.length:Int) then(w64 (x1.2+66)) else(pA.length:Int))))]:List (List UInt8))) rfl rfl db rfl rfl h4 (Nat.succ_pos _) hC26 hk30 fun s i27 cs28 hC29 hS=>(sg0 hS 1 [] [5] [.slice (some ⟨i27,0,none⟩) (x1.1++([(z18++(mid pA x1.2 (if(w64 (x1.2+66))<(pA.length:Int) then(w64 (x1.2+66)) else(pA.length:Int))))]:List (List UInt8))).length 1] [] (by kernel_rfl) fun s hS=>?_)
 refine KW.nil (WW.region ?_)
 refine sg0 hS 3 [] [6] [.int .i64 (w64 (x1.2+66))] [] (by kernel_rfl) fun s hS=>(KW.nil ?_)
 obtain rfl:=Option.some.inj h12
 exact⟨_,rfl,_,_,_,(hS.subR rfl),(Own.blk0 hC29)⟩
 refine WW.condF hS rfl hc13 (WW.exit ?_)
 refine ax ?_
 obtain rfl:=Option.some.inj h12
 exact⟨_,rfl,rfl,_,_,_,(hS.subR rfl),h4⟩
 clear hS
 rintro e s ⟨rfl,a31,z32,B34,hS,h33⟩
 refine au (WW.seq ?_)
 refine WW.region (sg0 hS 2 [] [4] [.slice a31 o6.1.length z32] [] (by kernel_rfl) fun s hS=>?_)
 refine KW.nil (WW.ret ?_)
 cases h
 exact aP hS (.inr rfl) 4 rfl rfl ⟨_,_,_,rfl,rfl,rfl,h33⟩
noncomputable def g_8.b0 (pA:List (Int×List UInt8×(List (Int×Int×Int)))) (pE:Bool) (x2:Int):Option ((Int)⊕((Int)⊕(List (List UInt8)×Int×Int))) :=
  (if(decide (x2<(pA.length:Int))) then(if 0≤x2∧x2<(pA.length:Int) then Option.bind (g_7.f ((gt pA x2).1) ((gt pA x2).2.1) pE) fun y19=>(if(y19 != 0) then some (.inr (.inr (([]:List (List UInt8)),x2,y19))) else some (.inl (w64 (x2+1)))) else none) else some (.inr (.inl x2)))
noncomputable def g_8.b1 (pA:List (Int×List UInt8×(List (Int×Int×Int)))) (x23:Bool×List (List UInt8)×Int):Option ((Bool×List (List UInt8)×Int)⊕(Bool×List (List UInt8)×Int)) :=
  (if(decide (x23.2.2<(pA.length:Int))) then Option.bind (Option.bind ((if 0≤x23.2.2∧x23.2.2<(pA.length:Int) then(if(((gt pA x23.2.2).1) != 0) then(if 0≤x23.2.2∧x23.2.2<(pA.length:Int) then Option.bind (g_0.f ((gt pA x23.2.2).1)) fun y71=>some y71 else none) else some ([])) else none)) fun z47=>(if x23.1 then(if 0≤x23.2.2∧x23.2.2<(pA.length:Int) then Option.bind (g_c.f ((gt pA x23.2.2).2.1) z47) fun y86=>(if x23.2.1.length+y86.length<1000000000 then some (true,(x23.2.1++y86)) else none) else none) else(if 0≤x23.2.2∧x23.2.2<(pA.length:Int) then Option.bind (g_b.f ((gt pA x23.2.2).2.1) z47) fun y115=>(if x23.2.1.length+y115.length<1000000000 then some (false,(x23.2.1++y115)) else none) else none))) fun z40=>some (.inl (z40.1,z40.2,(w64 (x23.2.2+1)))) else some (.inr (x23.1,x23.2.1,x23.2.2)))
noncomputable def g_8.f (pA:List (Int×List UInt8×(List (Int×Int×Int)))) (pE:Bool):Option (List (List UInt8)×Int×Int) :=
  (if(decide ((pA.length:Int)>400)) then some (([]:List (List UInt8)),0,8) else Option.bind (iter (g_8.b0 pA pE) 0) fun o3=>cu o3 fun y22=>Option.bind (iter (g_8.b1 pA) (pE,([]:List (List UInt8)),0)) fun o30=>(if(decide ((o30.2.1.length:Int)>400)) then some (([]:List (List UInt8)),0,8) else some (o30.2.1,0,0)))
theorem g_8.ok {aC:Option Addr} {zD:Nat} {pA:List (Int×List UInt8×(List (Int×Int×Int)))} {pE:Bool} {F:FZ} {r:List (List UInt8)×Int×Int} (h:g_8.f pA pE=some r) (hE:Frz d7 F aC zD pA) :
    Cl EV 32 [.slice aC pA.length zD,.bool pE] [] F (fun v S' F'=> ∃(ra1:Option Addr) (rz2:Nat) (rB4:Seg),FLe F F'∧v= .tuple #[.slice ra1 r.1.length rz2,.int .i64 r.2.1,.int .i64 r.2.2]∧S'= [rB4]∧Own (elS 9) F' ra1 rz2 r.1 rB4):=by
 refine Cl.of Tryz.func32 rfl (fun _ _=>rfl) (by kernel_rfl) fun s L nx0 hS=>?_
 unfold g_8.f at h
 refine WW.seq (WW.region ?_)
 refine sg0 hS 3 [] [4,5,6] [.slice none 0 0,.int .i64 0,.int .i64 0] [] (by kernel_rfl) fun s hS=>(KW.nil ?_)
 refine WW.seq (WW.seq ?_)
 refine WW.region (sg0 hS 3 [] [14] [.bool (decide ((pA.length:Int)>400))] [] (by kernel_rfl) fun s hS=>?_)
 refine KW.nil (bc h (fun hc1 h=>?_) fun hc1 h=>?_)
 refine WW.condK hS rfl hc1 (WW.seq ?_)
 refine WW.region (sg0 hS 3 [] [4,5,6] [.slice none 0 0,.int .i64 0,.int .i64 8] [] (by kernel_rfl) fun s hS=>?_)
 refine KW.nil (WW.ret ?_)
 replace hS:=hS.gap0
 have hres:=(ak hS (t:=4) (v:= .slice none ([]:List (List UInt8)).length 0) rfl (ak hS (t:=5) (v:= .int .i64 0) rfl (ak hS (t:=6) (v:= .int .i64 8) rfl (aQ (E:=EV) (s:=s)))))
 cases h
 exact fin hS (.inr rfl) hres (v:= .tuple #[.slice none ([]:List (List UInt8)).length 0,.int .i64 0,.int .i64 8]) rfl ⟨_,_,_,(FLe.refl _),rfl,rfl,Own.nil⟩
 refine WW.condF hS rfl hc1 (WW.skip ?_)
 refine WW.seq (WW.seq ?_)
 refine WW.region (sg0 hS 1 [] [7] [.int .i64 0] [] (by kernel_rfl) fun s hS=>?_)
 refine KW.nil (WW.block ?_)
 obtain⟨o3,ho3,h⟩:=bind_some h
 refine WW.loop (LW.iterS ho3 (fun(x2:Int) s=>Stt EV s [(0,.slice aC pA.length zD),(1,.bool pE),(4,.slice none 0 0),(5,.int .i64 0),(6,.int .i64 0),(7,.int .i64 x2)] [] F L F nx0) 0 (fun r=>g6 EV Tryz.f32 L F nx0 (fun v S' F'=> ∃(ra1:Option Addr) (rz2:Nat) (rB4:Seg),FLe F F'∧v= .tuple #[.slice ra1 r.1.length rz2,.int .i64 r.2.1,.int .i64 r.2.2]∧S'= [rB4]∧Own (elS 9) F' ra1 rz2 r.1 rB4)) (hS.subR rfl) ?_ ?_)
 clear hS
 rintro x2 s hS o3' h5
 unfold g_8.b0 at h5
 refine WW.seq (WW.seq ?_)
 refine WW.region (sg0 hS 4 [] [18] [.bool (decide (x2<(pA.length:Int)))] [] (by kernel_rfl) fun s hS=>?_)
 refine KW.nil (bc h5 (fun hc6 h5=>?_) fun hc6 h5=>?_)
 refine WW.condK hS rfl hc6 (WW.skip ?_)
 refine WW.seq (WW.block ?_)
 refine WW.seq (WW.region ?_)
 refine sg0 hS 2 [] [21,22] [.slice aC pA.length zD,.int .i64 x2] [] (by kernel_rfl) fun s hS=>?_
 obtain⟨hk7,h5⟩:=ac h5
 obtain⟨i13,of14,rfl⟩:=Frz.addr hE (by omega)
 obtain⟨_,_,_,_,c8,hF15,hR9,hN10,hN11,hT12⟩:=Frz.at hE hk7 (m:=3) rfl
 obtain⟨a16,z17,rfl,hz18⟩:=hR9
 refine aD hS (wn rfl) rfl rfl rfl (v:= .pointer (some ⟨i13,of14+(x2).toNat*3,none⟩)) (aY (hS.lk rfl) (hS.lk rfl) jO hk7) fun s hS=>(kE hS (wn rfl) rfl rfl rfl (hS.fat hF15) tg61 pc (vs:=[.int .i64 ((gt pA x2).1),aa ((gt pA x2).2.1),.slice a16 ((gt pA x2).2.2).length z17]) hT12 fun s hS=>?_)
 obtain⟨y19,hy19,h5⟩:=bind_some h5
 refine cR (ws:=[.agg #[.int .i64 ((gt pA x2).1),aa ((gt pA x2).2.1),.slice a16 ((gt pA x2).2.2).length z17],.bool pE]) (g_7.ok hy19) hS 1 26 0 rfl (by kernel_rfl) fun s hS=>(sg0 hS 1 [] [8] [.int .i64 y19] [] (by kernel_rfl) fun s hS=>?_)
 refine KW.nil (WW.seq ?_)
 refine WW.region (sg0 hS 2 [] [28] [.bool (y19 != 0)] [] (by kernel_rfl) fun s hS=>?_)
 refine KW.nil (bc h5 (fun hc21 h5=>?_) fun hc21 h5=>?_)
 refine WW.condK hS rfl hc21 (WW.seq ?_)
 refine WW.region (sg0 hS 5 [] [4,5,6] [.slice none 0 0,.int .i64 x2,.int .i64 y19] [] (by kernel_rfl) fun s hS=>?_)
 refine KW.nil (WW.ret ?_)
 replace hS:=hS.gap0
 have hres:=(ak hS (t:=4) (v:= .slice none ([]:List (List UInt8)).length 0) rfl (ak hS (t:=5) (v:= .int .i64 x2) rfl (ak hS (t:=6) (v:= .int .i64 y19) rfl (aQ (E:=EV) (s:=s)))))
 cases h5
 exact⟨_,rfl,rfl,fin hS (.inr rfl) hres (v:= .tuple #[.slice none ([]:List (List UInt8)).length 0,.int .i64 x2,.int .i64 y19]) rfl ⟨_,_,_,(FLe.refl _),rfl,rfl,Own.nil⟩⟩
 refine WW.condF hS rfl hc21 (WW.skip ?_)
 refine WW.region (sg0 hS 3 [] [7] [.int .i64 (w64 (x2+1))] [] (by kernel_rfl) fun s hS=>?_)
 refine KW.nil ?_
 obtain rfl:=Option.some.inj h5
 exact⟨_,rfl,(hS.subR rfl)⟩
 refine WW.condF hS rfl hc6 (WW.exit ?_)
 refine ax ?_
 obtain rfl:=Option.some.inj h5
 exact⟨_,rfl,rfl,(hS.subR rfl)⟩
 clear hS
 rcases o3 with y22 | y22
 rintro e s ⟨rfl,hS⟩
 replace h:=bC h
 refine au (WW.seq ?_)
 refine WW.region (sg0 hS 1 [] [9] [.slice none 0 0] [] (by kernel_rfl) fun s hS=>?_)
 refine KW.nil (WW.seq ?_)
 refine WW.seq (WW.region ?_)
 refine sg0 hS 1 [] [10] [.int .i64 0] [] (by kernel_rfl) fun s hS=>(KW.nil ?_)
 refine WW.block ?_
 replace hS:=hS.gap0
 obtain⟨o30,ho30,h⟩:=bind_some h
 refine WW.loop (LW.iterE ho30 (fun(x23:Bool×List (List UInt8)×Int) s=> ∃(a26:Option Addr) (z27:Nat) (B29:Seg) (F24:FZ),Stt EV s [(0,.slice aC pA.length zD),(1,.bool x23.1),(4,.slice none 0 0),(5,.int .i64 0),(6,.int .i64 0),(9,.slice a26 x23.2.1.length z27),(10,.int .i64 x23.2.2)] [B29] F24 L F nx0∧Own (elS 9) F24 a26 z27 x23.2.1 B29∧FLe F F24) 2 ⟨_,_,_,_,(hS.subR rfl),Own.nil,(FLe.refl _)⟩ ?_ ?_)
 clear hS
 rintro x23 s ⟨a26,z27,B29,F24,hS,h28,hF25⟩ o30' h38
 unfold g_8.b1 at h38
 refine WW.seq (WW.seq ?_)
 refine WW.region (sg0 hS 4 [] [34] [.bool (decide (x23.2.2<(pA.length:Int)))] [] (by kernel_rfl) fun s hS=>?_)
 refine KW.nil (bc h38 (fun hc39 h38=>?_) fun hc39 h38=>?_)
 refine WW.condK hS rfl hc39 (WW.skip ?_)
 obtain⟨z40,hz40,h38⟩:=bind_some h38
 refine WW.seqJ (fun s=> ∃(a43:Option Addr) (z44:Nat) (B46:Seg) (F41:FZ),Stt EV s [(0,.slice aC pA.length zD),(1,.bool z40.1),(4,.slice none 0 0),(5,.int .i64 0),(6,.int .i64 0),(9,.slice a43 z40.2.length z44),(10,.int .i64 x23.2.2)] [B46] F41 L F nx0∧Own (elS 9) F41 a43 z44 z40.2 B46∧FLe F24 F41) ?_ ?_
 refine WW.block (WW.seq ?_)
 refine WW.region (sg0 hS 1 [] [11] [aa ([])] [] (by kernel_rfl) fun s hS=>?_)
 refine KW.nil ?_
 obtain⟨z47,hz47,hz40⟩:=bind_some hz40
 refine WW.seqJ (fun s=>Stt EV s [(0,.slice aC pA.length zD),(1,.bool x23.1),(4,.slice none 0 0),(5,.int .i64 0),(6,.int .i64 0),(9,.slice a26 x23.2.1.length z27),(10,.int .i64 x23.2.2),(11,aa z47)] [B29] F24 L F nx0) ?_ ?_
 refine WW.seq (WW.region ?_)
 refine sg0 hS 2 [] [37,38] [.slice aC pA.length zD,.int .i64 x23.2.2] [] (by kernel_rfl) fun s hS=>?_
 obtain⟨hk48,hz47⟩:=ac hz47
 obtain⟨i54,of55,rfl⟩:=Frz.addr hE (by omega)
 obtain⟨_,_,_,_,c49,hF56,hR50,hN51,hN52,hT53⟩:=Frz.at (hE.mono hF25) hk48 (m:=3) rfl
 obtain⟨a57,z58,rfl,hz59⟩:=hR50
 refine aD hS (wn rfl) rfl rfl rfl (v:= .pointer (some ⟨i54,of55+(x23.2.2).toNat*3,none⟩)) (aY (hS.lk rfl) (hS.lk rfl) jO hk48) fun s hS=>(aD hS (wn rfl) rfl rfl rfl (v:= .pointer (some ⟨i54,of55+(x23.2.2).toNat*3+0,none⟩)) (dy (hS.lk rfl) pa rfl rfl) fun s hS=>?_)
 refine g8 hS (wn rfl) rfl rfl rfl (hS.fat hF56) tg3 (v:= .int .i64 ((gt pA x23.2.2).1)) (hN52 0 (by decide)) fun s hS=>(sg0 hS 1 [] [42] [.bool (((gt pA x23.2.2).1) != 0)] [] (by kernel_rfl) fun s hS=>?_)
 refine KW.nil (bc hz47 (fun hc60 hz47=>?_) fun hc60 hz47=>?_)
 refine WW.condK hS rfl hc60 (WW.region ?_)
 refine sg0 hS 2 [] [43,44] [.slice (some ⟨i54,of55,none⟩) pA.length zD,.int .i64 x23.2.2] [] (by kernel_rfl) fun s hS=>?_
 obtain⟨hk61,hz47⟩:=ac hz47
 obtain⟨_,_,_,_,c62,hF67,hR63,hN64,hN65,hT66⟩:=Frz.at (hE.mono hF25) hk61 (m:=3) rfl
 obtain⟨a68,z69,rfl,hz70⟩:=hR63
 refine aD hS (wn rfl) rfl rfl rfl (v:= .pointer (some ⟨i54,of55+(x23.2.2).toNat*3,none⟩)) (aY (hS.lk rfl) (hS.lk rfl) jO hk61) fun s hS=>(aD hS (wn rfl) rfl rfl rfl (v:= .pointer (some ⟨i54,of55+(x23.2.2).toNat*3+0,none⟩)) (dy (hS.lk rfl) pa rfl rfl) fun s hS=>?_)
 refine g8 hS (wn rfl) rfl rfl rfl (hS.fat hF67) tg3 (v:= .int .i64 ((gt pA x23.2.2).1)) (hN65 0 (by decide)) fun s hS=>?_
 obtain⟨y71,hy71,hz47⟩:=bind_some hz47
 refine cR (g_0.ok hy71) hS 0 48 0 rfl (by kernel_rfl) fun s hS=>(sg0 hS 1 [] [11] [aa y71] [] (by kernel_rfl) fun s hS=>?_)
 refine KW.nil ?_
 obtain rfl:=Option.some.inj hz47
 exact(hS.subR rfl)
 refine WW.condF hS rfl hc60 (WW.skip ?_)
 obtain rfl:=Option.some.inj hz47
 exact(hS.subR rfl)
 rintro s hS
 refine WW.seq (WW.region ?_)
 refine sg0 hS 1 [] [49] [.bool x23.1] [] (by kernel_rfl) fun s hS=>(KW.nil ?_)
 refine bc hz40 (fun hc73 hz40=>?_) fun hc73 hz40=>?_
 replace hS:=hS.kb 1 hc73 rfl
 refine WW.condK hS rfl hc73 (WW.region ?_)
 refine sg0 hS 3 [] [50,51,52] [.slice a26 x23.2.1.length z27,.slice aC pA.length zD,.int .i64 x23.2.2] [] (by kernel_rfl) fun s hS=>?_
 obtain⟨hk74,hz40⟩:=ac hz40
 obtain⟨i80,of81,rfl⟩:=Frz.addr hE (by omega)
 obtain⟨_,_,_,_,c75,hF82,hR76,hN77,hN78,hT79⟩:=Frz.at (hE.mono hF25) hk74 (m:=3) rfl
 obtain⟨a83,z84,rfl,hz85⟩:=hR76
 refine aD hS (wn rfl) rfl rfl rfl (v:= .pointer (some ⟨i80,of81+(x23.2.2).toNat*3,none⟩)) (aY (hS.lk rfl) (hS.lk rfl) jO hk74) fun s hS=>(aD hS (wn rfl) rfl rfl rfl (v:= .pointer (some ⟨i80,of81+(x23.2.2).toNat*3+1,none⟩)) (dy (hS.lk rfl) lJ rfl rfl) fun s hS=>?_)
 refine g8 hS (wn rfl) rfl rfl rfl (hS.fat hF82) tg9 (v:=aa ((gt pA x23.2.2).2.1)) (hN78 1 (by decide)) fun s hS=>?_
 obtain⟨y86,hy86,hz40⟩:=bind_some hz40
 refine cK (g_c.ok hy86) hS 1 57 0 rfl (by kernel_rfl) fun s v S' F' hp87 hF hS=>?_
 obtain⟨a88,z89,B91,rfl,rfl,rfl,h90⟩:=hp87
 obtain⟨F95,hF96,hS,hz97⟩:=hS.frzO h90
 obtain⟨hk98,hz40⟩:=ac hz40
 refine mr hS (wn rfl) (dd:=(elS 9)) (lst:=x23.2.1) (m:=y86) rfl rfl db rfl rfl (h28.mono hF96) hz97 hk98 fun s a99 z100 B101 hO102 hS=>(sg0 hS 1 [] [9] [.slice a99 (x23.2.1++y86).length z100] [] (by kernel_rfl) fun s hS=>?_)
 refine KW.nil ?_
 obtain rfl:=Option.some.inj hz40
 exact⟨_,_,_,_,(hS.subR rfl),hO102,hF96⟩
 replace hS:=hS.kb 1 hc73 rfl
 refine WW.condF hS rfl hc73 (WW.region ?_)
 refine sg0 hS 3 [] [59,60,61] [.slice a26 x23.2.1.length z27,.slice aC pA.length zD,.int .i64 x23.2.2] [] (by kernel_rfl) fun s hS=>?_
 obtain⟨hk103,hz40⟩:=ac hz40
 obtain⟨i109,of110,rfl⟩:=Frz.addr hE (by omega)
 obtain⟨_,_,_,_,c104,hF111,hR105,hN106,hN107,hT108⟩:=Frz.at (hE.mono hF25) hk103 (m:=3) rfl
 obtain⟨a112,z113,rfl,hz114⟩:=hR105
 refine aD hS (wn rfl) rfl rfl rfl (v:= .pointer (some ⟨i109,of110+(x23.2.2).toNat*3,none⟩)) (aY (hS.lk rfl) (hS.lk rfl) jO hk103) fun s hS=>(aD hS (wn rfl) rfl rfl rfl (v:= .pointer (some ⟨i109,of110+(x23.2.2).toNat*3+1,none⟩)) (dy (hS.lk rfl) lJ rfl rfl) fun s hS=>?_)
 refine g8 hS (wn rfl) rfl rfl rfl (hS.fat hF111) tg9 (v:=aa ((gt pA x23.2.2).2.1)) (hN107 1 (by decide)) fun s hS=>?_
 obtain⟨y115,hy115,hz40⟩:=bind_some hz40
 refine cK (g_b.ok hy115) hS 1 66 0 rfl (by kernel_rfl) fun s v S' F' hp116 hF hS=>?_
 obtain⟨a117,z118,B120,rfl,rfl,rfl,h119⟩:=hp116
 obtain⟨F124,hF125,hS,hz126⟩:=hS.frzO h119
 obtain⟨hk127,hz40⟩:=ac hz40
 refine mr hS (wn rfl) (dd:=(elS 9)) (lst:=x23.2.1) (m:=y115) rfl rfl db rfl rfl (h28.mono hF125) hz126 hk127 fun s a128 z129 B130 hO131 hS=>(sg0 hS 1 [] [9] [.slice a128 (x23.2.1++y115).length z129] [] (by kernel_rfl) fun s hS=>?_)
 refine KW.nil ?_
 obtain rfl:=Option.some.inj hz40
 exact⟨_,_,_,_,(hS.subR rfl),hO131,hF125⟩
 rintro s ⟨a43,z44,B46,F41,hS,h45,hF42⟩
 refine WW.region (sg0 hS 3 [] [10] [.int .i64 (w64 (x23.2.2+1))] [] (by kernel_rfl) fun s hS=>?_)
 refine KW.nil ?_
 obtain rfl:=Option.some.inj h38
 exact⟨_,rfl,_,_,_,_,(hS.subR rfl),h45,(FLe.trans hF25 hF42)⟩
 refine WW.condF hS rfl hc39 (WW.exit ?_)
 refine ax ?_
 obtain rfl:=Option.some.inj h38
 exact⟨_,rfl,rfl,_,_,_,_,(hS.subR rfl),h28,hF25⟩
 clear hS
 rintro e s ⟨rfl,a134,z135,B137,F132,hS,h136,hF133⟩
 refine au (WW.seq ?_)
 refine WW.seq (WW.region ?_)
 refine sg0 hS 3 [] [70] [.bool (decide ((o30.2.1.length:Int)>400))] [] (by kernel_rfl) fun s hS=>(KW.nil ?_)
 refine bc h (fun hc138 h=>?_) fun hc138 h=>?_
 refine WW.condK hS rfl hc138 (WW.seq ?_)
 refine WW.region (sg0 hS 3 [] [4,5,6] [.slice none 0 0,.int .i64 0,.int .i64 8] [] (by kernel_rfl) fun s hS=>?_)
 refine KW.nil (WW.ret ?_)
 replace hS:=hS.gap0
 have hres:=(ak hS (t:=4) (v:= .slice none ([]:List (List UInt8)).length 0) rfl (ak hS (t:=5) (v:= .int .i64 0) rfl (ak hS (t:=6) (v:= .int .i64 8) rfl (aQ (E:=EV) (s:=s)))))
 replace hS:=(hS.pull 1).drop
 cases h
 exact fin hS (.inr rfl) hres (v:= .tuple #[.slice none ([]:List (List UInt8)).length 0,.int .i64 0,.int .i64 8]) rfl ⟨_,_,_,(hF133),rfl,rfl,Own.nil⟩
 refine WW.condF hS rfl hc138 (WW.skip ?_)
 refine WW.seq (WW.region ?_)
 refine sg0 hS 4 [] [4,5,6] [.slice a134 o30.2.1.length z135,.int .i64 0,.int .i64 0] [] (by kernel_rfl) fun s hS=>(KW.nil ?_)
 refine WW.ret ?_
 have hres:=(ak hS (t:=4) (v:= .slice a134 o30.2.1.length z135) rfl (ak hS (t:=5) (v:= .int .i64 0) rfl (ak hS (t:=6) (v:= .int .i64 0) rfl (aQ (E:=EV) (s:=s)))))
 cases h
 exact fin hS (.inr rfl) hres (v:= .tuple #[.slice a134 o30.2.1.length z135,.int .i64 0,.int .i64 0]) rfl ⟨_,_,_,(hF133),rfl,rfl,h136⟩
 rintro e s ⟨rfl,hfin⟩
 replace h:=bD h
 obtain rfl:=Option.some.inj h
 exact hfin
noncomputable def g_2.b0 (pA:List (List UInt8)) (pE:List (List UInt8)) (x1:Bool×Int):Option ((Bool×Int)⊕(Bool×Int)) :=
  (if(decide (x1.2<(pA.length:Int))) then(if x1.1 then(if 0≤x1.2∧x1.2<(pA.length:Int) then(if 0≤x1.2∧x1.2<(pE.length:Int) then some (.inl ((decide ((gt pA x1.2)=(gt pE x1.2))),(w64 (x1.2+1)))) else none) else none) else some (.inl (false,(w64 (x1.2+1))))) else some (.inr (x1.1,x1.2)))
noncomputable def g_2.f (pA:List (List UInt8)) (pE:List (List UInt8)):Option (Bool) :=
  Option.bind (iter (g_2.b0 pA pE) (((pA.length:Int)==(pE.length:Int)),0)) fun o2=>some o2.1
theorem g_2.ok {aC:Option Addr} {zD:Nat} {aI:Option Addr} {zJ:Nat} {pA:List (List UInt8)} {pE:List (List UInt8)} {F:FZ} {r:Bool} (h:g_2.f pA pE=some r) (hE:Frz (elS 9) F aC zD pA) (hK:Frz (elS 9) F aI zJ pE) :
    Cl EV 33 [.slice aC pA.length zD,.slice aI pE.length zJ] [] F (fun v S' F'=>F=F'∧v= .bool r∧S'= []):=by
 refine Cl.of Tryz.func33 rfl (fun _ _=>rfl) (by kernel_rfl) fun s L nx0 hS=>?_
 unfold g_2.f at h
 refine WW.seq (WW.region ?_)
 refine sg0 hS 1 [] [4] [.bool false] [] (by kernel_rfl) fun s hS=>(KW.nil ?_)
 refine WW.seq (WW.region ?_)
 refine sg0 hS 6 [] [5] [.bool ((pA.length:Int)==(pE.length:Int))] [] (by kernel_rfl) fun s hS=>(KW.nil ?_)
 refine WW.seq (WW.seq ?_)
 refine WW.region (sg0 hS 3 [] [13,14] [.int .i64 (pA.length:Int),.int .i64 0] [] (by kernel_rfl) fun s hS=>?_)
 refine KW.nil (WW.block ?_)
 obtain⟨o2,ho2,h⟩:=bind_some h
 refine WW.loop (LW.iterE ho2 (fun(x1:Bool×Int) s=>Stt EV s [(0,.slice aC pA.length zD),(1,.slice aI pE.length zJ),(4,.bool false),(5,.bool x1.1),(13,.int .i64 (pA.length:Int)),(14,.int .i64 x1.2)] [] F L F nx0) 0 (hS.subR rfl) ?_ ?_)
 clear hS
 rintro x1 s hS o2' h4
 unfold g_2.b0 at h4
 refine WW.seq (WW.region ?_)
 refine sg0 hS 1 [] [15] [.bool (decide (x1.2<(pA.length:Int)))] [] (by kernel_rfl) fun s hS=>(KW.nil ?_)
 refine WW.seq (bc h4 (fun hc5 h4=>?_) fun hc5 h4=>?_)
 refine WW.condK hS rfl hc5 (WW.skip ?_)
 refine WW.seq (WW.block ?_)
 refine WW.seq (WW.region ?_)
 refine sg0 hS 2 [] [6] [.int .i64 x1.2] [] (by kernel_rfl) fun s hS=>(KW.nil ?_)
 refine WW.regionD (i:=[[],[],[],[2],[],[],[5,4,3,2],[6,5,4,3,2],[5,4,3,2],[5,4,3,2],[],[],[]]) (by kernel_rfl) ?_
 have hq:=RS.start []
 refine kg hS hq 2 [18] [.bool x1.1] (by kernel_rfl) fun s rs hS hq=>(bc h4 (fun hc6 h4=>?_) fun hc6 h4=>?_)
 replace hS:=hS.kb 5 hc6 rfl
 replace hS:=hS.kb 18 hc6 rfl
 refine kg hS hq 2 [19,20] [.slice aC pA.length zD,.int .i64 x1.2] (by kernel_rfl) fun s rs hS hq=>?_
 obtain⟨hk7,h4⟩:=ac h4
 obtain⟨i13,of14,rfl⟩:=Frz.addr hE (by omega)
 obtain⟨_,_,_,_,c8,hF15,hR9,hN10,hN11,hT12⟩:=Frz.at hE hk7 (m:=1) rfl
 obtain rfl:=hR9
 refine K.pu hS hq rfl (wt hS rfl rfl rfl rfl) rfl rfl rfl (v:= .pointer (some ⟨i13,of14+(x1.2).toNat*1,none⟩)) (aY (hS.lk rfl) (hS.lk rfl) iz hk7) fun s rs hS hq=>?_
 replace hq:=hq.more i13 rfl rfl rfl
 refine K.ld hS hq rfl (wt hS rfl rfl rfl rfl) rfl rfl rfl (hS.fat hF15) tg9 (v:=aa (gt pA x1.2)) hN10 0 rfl rfl fun s rs hS hq=>(kg hS hq 2 [23,24] [.slice aI pE.length zJ,.int .i64 x1.2] (by kernel_rfl) fun s rs hS hq=>?_)
 obtain⟨hk16,h4⟩:=ac h4
 obtain⟨i22,of23,rfl⟩:=Frz.addr hK (by omega)
 obtain⟨_,_,_,_,c17,hF24,hR18,hN19,hN20,hT21⟩:=Frz.at hK hk16 (m:=1) rfl
 obtain rfl:=hR18
 refine K.pu hS hq rfl (wt hS rfl rfl rfl rfl) rfl rfl rfl (v:= .pointer (some ⟨i22,of23+(x1.2).toNat*1,none⟩)) (aY (hS.lk rfl) (hS.lk rfl) iz hk16) fun s rs hS hq=>?_
 replace hq:=hq.more i22 rfl rfl rfl
 refine K.ld hS hq rfl (wt hS rfl rfl rfl rfl) rfl rfl rfl (hS.fat hF24) tg9 (v:=aa (gt pE x1.2)) hN19 1 rfl rfl fun s rs hS hq=>(K.pu hS hq rfl (wt hS rfl rfl rfl rfl) rfl rfl rfl (v:= .bool (decide ((gt pA x1.2)=(gt pE x1.2)))) (jH (hS.lk rfl) (hS.lk rfl)) fun s rs hS hq=>?_)
 refine kg hS hq 2 [5] [.bool (decide ((gt pA x1.2)=(gt pE x1.2)))] (by kernel_rfl) fun s rs hS hq=>(KW.nil ?_)
 refine WW.region (sg0 hS 2 [] [14] [.int .i64 (w64 (x1.2+1))] [] (by kernel_rfl) fun s hS=>?_)
 refine KW.nil ?_
 obtain rfl:=Option.some.inj h4
 exact⟨_,rfl,(hS.subR rfl)⟩
 replace hS:=hS.kb 5 hc6 rfl
 replace hS:=hS.kb 18 hc6 rfl
 refine kg hS hq 11 [5] [.bool false] (by kernel_rfl) fun s rs hS hq=>(KW.nil ?_)
 refine WW.region (sg0 hS 2 [] [14] [.int .i64 (w64 (x1.2+1))] [] (by kernel_rfl) fun s hS=>?_)
 refine KW.nil ?_
 obtain rfl:=Option.some.inj h4
 exact⟨_,rfl,(hS.subR rfl)⟩
 refine WW.condF hS rfl hc5 (WW.exit ?_)
 refine ax ?_
 obtain rfl:=Option.some.inj h4
 exact⟨_,rfl,rfl,(hS.subR rfl)⟩
 clear hS
 rintro e s ⟨rfl,hS⟩
 refine au (WW.seq ?_)
 refine WW.region (sg0 hS 2 [] [4] [.bool o2.1] [] (by kernel_rfl) fun s hS=>?_)
 refine KW.nil (WW.ret ?_)
 cases h
 exact aP hS (.inr rfl) 4 rfl rfl ⟨rfl,rfl,rfl⟩
noncomputable def g_4.f (pA:List (Int×List UInt8×(List (Int×Int×Int)))):Option (Bool) :=
  Option.bind (g_awake.f) fun y1=>(if(!y1) then some false else Option.bind (g_5.f pA) fun y4=>(if(!y4) then some true else Option.bind (g_6.f pA) fun y7=>Option.bind (g_e.f y7) fun y18=>Option.bind (g_6.f pA) fun y26=>Option.bind (g_h.f y26) fun y37=>Option.bind (g_8.f pA false) fun y45=>Option.bind (g_8.f pA true) fun y53=>(if((y18.2.2==y45.2.2)&&(y18.2.1==y45.2.1)) then Option.bind (g_2.f y18.1 y45.1) fun y68=>(if((y68&&(y37.2.2==y53.2.2))&&(y37.2.1==y53.2.1)) then Option.bind (g_2.f y37.1 y53.1) fun y77=>some y77 else some false) else some false)))
theorem g_4.ok {aC:Option Addr} {zD:Nat} {pA:List (Int×List UInt8×(List (Int×Int×Int)))} {F:FZ} {r:Bool} (h:g_4.f pA=some r) (hE:Frz d7 F aC zD pA) (hG:Gl F) :
    Cl EV 8 [.slice aC pA.length zD] [] F (fun v S' F'=>FLe F F'∧v= .bool r∧S'= []):=by
 refine Cl.of Tryz.func8 rfl (fun _ _=>rfl) (by kernel_rfl) fun s L nx0 hS=>?_
 unfold g_4.f at h
 refine WW.seq (WW.region ?_)
 refine sg0 hS 1 [] [2] [.bool false] [] (by kernel_rfl) fun s hS=>(KW.nil ?_)
 refine WW.seq (WW.seq ?_)
 refine WW.region ?_
 obtain⟨y1,hy1,h⟩:=bind_some h
 refine cR (g_awake.ok hy1) hS 0 15 0 rfl (by kernel_rfl) fun s hS=>(sg0 hS 1 [] [16] [.bool (!y1)] [] (by kernel_rfl) fun s hS=>?_)
 refine KW.nil (bc h (fun hc3 h=>?_) fun hc3 h=>?_)
 refine WW.condK hS rfl hc3 (WW.seq ?_)
 refine WW.region (sg0 hS 1 [] [2] [.bool false] [] (by kernel_rfl) fun s hS=>?_)
 refine KW.nil (WW.ret ?_)
 cases h
 exact aP hS (.inr rfl) 2 rfl rfl ⟨(FLe.refl _),rfl,rfl⟩
 refine WW.condF hS rfl hc3 (WW.skip ?_)
 refine WW.seq (WW.seq ?_)
 refine WW.region ?_
 obtain⟨y4,hy4,h⟩:=bind_some h
 refine cR (g_5.ok hy4 hE) hS 1 18 0 rfl (by kernel_rfl) fun s hS=>(sg0 hS 1 [] [19] [.bool (!y4)] [] (by kernel_rfl) fun s hS=>?_)
 refine KW.nil (bc h (fun hc6 h=>?_) fun hc6 h=>?_)
 refine WW.condK hS rfl hc6 (WW.seq ?_)
 refine WW.region (sg0 hS 1 [] [2] [.bool true] [] (by kernel_rfl) fun s hS=>?_)
 refine KW.nil (WW.ret ?_)
 cases h
 exact aP hS (.inr rfl) 2 rfl rfl ⟨(FLe.refl _),rfl,rfl⟩
 refine WW.condF hS rfl hc6 (WW.skip ?_)
 refine WW.seq (WW.region ?_)
 obtain⟨y7,hy7,h⟩:=bind_some h
 refine cK (g_6.ok hy7 hE) hS 1 22 0 rfl (by kernel_rfl) fun s v S' F9 hp8 hF hS=>?_
 obtain⟨a10,z11,B13,hF14,rfl,rfl,h12⟩:=hp8
 obtain⟨F15,hF16,hS,hz17⟩:=hS.frzO h12
 obtain⟨y18,hy18,h⟩:=bind_some h
 refine cK (g_e.ok hy18 hz17 (hG.mono (FLe.trans hF14 hF16))) hS 0 23 0 rfl (by kernel_rfl) fun s v S' F20 hp19 hF hS=>?_
 obtain⟨a21,z22,B24,hF25,rfl,rfl,h23⟩:=hp19
 refine sg0 hS 7 [] [3,4,5] [.slice a21 y18.1.length z22,.int .i64 y18.2.1,.int .i64 y18.2.2] [] (by kernel_rfl) fun s hS=>(KW.nil ?_)
 refine WW.seq (WW.region ?_)
 obtain⟨y26,hy26,h⟩:=bind_some h
 refine cK (g_6.ok hy26 (hE.mono (FLe.trans hF14 (FLe.trans hF16 hF25)))) hS 1 29 0 rfl (by kernel_rfl) fun s v S' F28 hp27 hF hS=>?_
 obtain⟨a29,z30,B32,hF33,rfl,rfl,h31⟩:=hp27
 obtain⟨F34,hF35,hS,hz36⟩:=hS.frzO h31
 obtain⟨y37,hy37,h⟩:=bind_some h
 refine cK (g_h.ok hy37 hz36 (hG.mono (FLe.trans hF14 (FLe.trans hF16 (FLe.trans hF25 (FLe.trans hF33 hF35)))))) hS 0 30 0 rfl (by kernel_rfl) fun s v S' F39 hp38 hF hS=>?_
 obtain⟨a40,z41,B43,hF44,rfl,rfl,h42⟩:=hp38
 refine sg0 hS 7 [] [6,7,8] [.slice a40 y37.1.length z41,.int .i64 y37.2.1,.int .i64 y37.2.2] [] (by kernel_rfl) fun s hS=>(KW.nil ?_)
 refine WW.seq (WW.region ?_)
 obtain⟨y45,hy45,h⟩:=bind_some h
 refine cK (g_8.ok hy45 (hE.mono (FLe.trans hF14 (FLe.trans hF16 (FLe.trans hF25 (FLe.trans hF33 (FLe.trans hF35 hF44))))))) hS 1 36 0 rfl (by kernel_rfl) fun s v S' F47 hp46 hF hS=>?_
 obtain⟨a48,z49,B51,hF52,rfl,rfl,h50⟩:=hp46
 refine sg0 hS 7 [] [9,10,11] [.slice a48 y45.1.length z49,.int .i64 y45.2.1,.int .i64 y45.2.2] [] (by kernel_rfl) fun s hS=>(KW.nil ?_)
 refine WW.seq (WW.region ?_)
 obtain⟨y53,hy53,h⟩:=bind_some h
 refine cK (g_8.ok hy53 (hE.mono (FLe.trans hF14 (FLe.trans hF16 (FLe.trans hF25 (FLe.trans hF33 (FLe.trans hF35 (FLe.trans hF44 hF52)))))))) hS 1 42 0 rfl (by kernel_rfl) fun s v S' F55 hp54 hF hS=>?_
 obtain⟨a56,z57,B59,hF60,rfl,rfl,h58⟩:=hp54
 refine sg0 hS 7 [] [12,13,14] [.slice a56 y53.1.length z57,.int .i64 y53.2.1,.int .i64 y53.2.2] [] (by kernel_rfl) fun s hS=>(KW.nil ?_)
 refine WW.seq (WW.region ?_)
 refine sg0 hS 4 [] [49] [.bool (y18.2.2==y45.2.2)] [] (by kernel_rfl) fun s hS=>(bZ 4 (fun s=>Stt EV s [(53,.bool ((y18.2.2==y45.2.2)&&(y18.2.1==y45.2.1))),(2,.bool false),(3,.slice a21 y18.1.length z22),(6,.slice a40 y37.1.length z41),(7,.int .i64 y37.2.1),(8,.int .i64 y37.2.2),(9,.slice a48 y45.1.length z49),(12,.slice a56 y53.1.length z57),(13,.int .i64 y53.2.1),(14,.int .i64 y53.2.2)] [B59,B51,B43,B24] F55 L F nx0) ?_ fun s hS=>?_)
 rcases az ((y18.2.2==y45.2.2)) with hcj | hcj
 replace hS:=hS.know (t:=49) rfl (congrArg Value.bool hcj)
 refine sg0 hS 4 [] [53] [.bool (y18.2.1==y45.2.1)] [] (by kernel_rfl) fun s hS=>(KW.nil ?_)
 exact(hS.know (t:=53) (u':= .bool ((y18.2.2==y45.2.2)&&(y18.2.1==y45.2.1))) rfl (bX hcj)).subR rfl
 replace hS:=hS.know (t:=49) rfl (congrArg Value.bool hcj)
 refine sg0 hS 4 [] [53] [.bool false] [] (by kernel_rfl) fun s hS=>(KW.nil ?_)
 exact(hS.know (t:=53) (u':= .bool ((y18.2.2==y45.2.2)&&(y18.2.1==y45.2.1))) rfl (bY hcj)).subR rfl
 refine sg0 hS 1 [] [54] [.bool ((y18.2.2==y45.2.2)&&(y18.2.1==y45.2.1))] [] (by kernel_rfl) fun s hS=>(bc h (fun hc61 h=>?_) fun hc61 h=>?_)
 replace hS:=hS.kb 53 hc61 rfl
 replace hS:=hS.kb 54 hc61 rfl
 refine sg0 hS 2 [] [55,56] [.slice a21 y18.1.length z22,.slice a48 y45.1.length z49] [] (by kernel_rfl) fun s hS=>?_
 replace hS:=hS.pull 3
 obtain⟨F62,hF63,hS,hz64⟩:=hS.frzO (h23.mono (FLe.trans hF33 (FLe.trans hF35 (FLe.trans hF44 (FLe.trans hF52 hF60)))))
 replace hS:=hS.pull 1
 obtain⟨F65,hF66,hS,hz67⟩:=hS.frzO (h50.mono (FLe.trans hF60 hF63))
 obtain⟨y68,hy68,h⟩:=bind_some h
 refine dQ hS (wt hS rfl rfl rfl rfl) (vs:=[.slice a21 y18.1.length z22,.slice a48 y45.1.length z49]) (ws:=[.slice a21 y18.1.length z22,.slice a48 y45.1.length z49]) rfl rfl rfl rfl rfl 0 rfl (g_2.ok hy68 (hz64.mono hF66) hz67) fun s v S' F' hp69 hF hS=>?_
 obtain⟨rfl,rfl,rfl⟩:=hp69
 refine sg0 hS 2 [] [59] [.bool y68] [] (by kernel_rfl) fun s hS=>(bZ 4 (fun s=>Stt EV s [(63,.bool (y68&&(y37.2.2==y53.2.2))),(2,.bool false),(6,.slice a40 y37.1.length z41),(7,.int .i64 y37.2.1),(12,.slice a56 y53.1.length z57),(13,.int .i64 y53.2.1)] [B59,B43] F65 L F nx0) ?_ fun s hS=>?_)
 rcases az (y68) with hcj | hcj
 replace hS:=hS.know (t:=57) rfl (congrArg Value.bool hcj)
 replace hS:=hS.know (t:=59) rfl (congrArg Value.bool hcj)
 refine sg0 hS 4 [] [63] [.bool (y37.2.2==y53.2.2)] [] (by kernel_rfl) fun s hS=>(KW.nil ?_)
 exact(hS.know (t:=63) (u':= .bool (y68&&(y37.2.2==y53.2.2))) rfl (bX hcj)).subR rfl
 replace hS:=hS.know (t:=57) rfl (congrArg Value.bool hcj)
 replace hS:=hS.know (t:=59) rfl (congrArg Value.bool hcj)
 refine sg0 hS 4 [] [63] [.bool false] [] (by kernel_rfl) fun s hS=>(KW.nil ?_)
 exact(hS.know (t:=63) (u':= .bool (y68&&(y37.2.2==y53.2.2))) rfl (bY hcj)).subR rfl
 refine sg0 hS 1 [] [64] [.bool (y68&&(y37.2.2==y53.2.2))] [] (by kernel_rfl) fun s hS=>(bZ 4 (fun s=>Stt EV s [(68,.bool ((y68&&(y37.2.2==y53.2.2))&&(y37.2.1==y53.2.1))),(2,.bool false),(6,.slice a40 y37.1.length z41),(12,.slice a56 y53.1.length z57)] [B59,B43] F65 L F nx0) ?_ fun s hS=>?_)
 rcases az ((y68&&(y37.2.2==y53.2.2))) with hcj | hcj
 replace hS:=hS.know (t:=63) rfl (congrArg Value.bool hcj)
 replace hS:=hS.know (t:=64) rfl (congrArg Value.bool hcj)
 refine sg0 hS 4 [] [68] [.bool (y37.2.1==y53.2.1)] [] (by kernel_rfl) fun s hS=>(KW.nil ?_)
 exact(hS.know (t:=68) (u':= .bool ((y68&&(y37.2.2==y53.2.2))&&(y37.2.1==y53.2.1))) rfl (bX hcj)).subR rfl
 replace hS:=hS.know (t:=63) rfl (congrArg Value.bool hcj)
 replace hS:=hS.know (t:=64) rfl (congrArg Value.bool hcj)
 refine sg0 hS 4 [] [68] [.bool false] [] (by kernel_rfl) fun s hS=>(KW.nil ?_)
 exact(hS.know (t:=68) (u':= .bool ((y68&&(y37.2.2==y53.2.2))&&(y37.2.1==y53.2.1))) rfl (bY hcj)).subR rfl
 refine sg0 hS 1 [] [69] [.bool ((y68&&(y37.2.2==y53.2.2))&&(y37.2.1==y53.2.1))] [] (by kernel_rfl) fun s hS=>(bc h (fun hc70 h=>?_) fun hc70 h=>?_)
 replace hS:=hS.kb 68 hc70 rfl
 replace hS:=hS.kb 69 hc70 rfl
 refine sg0 hS 2 [] [70,71] [.slice a40 y37.1.length z41,.slice a56 y53.1.length z57] [] (by kernel_rfl) fun s hS=>?_
 replace hS:=hS.pull 1
 obtain⟨F71,hF72,hS,hz73⟩:=hS.frzO (h42.mono (FLe.trans hF52 (FLe.trans hF60 (FLe.trans hF63 hF66))))
 obtain⟨F74,hF75,hS,hz76⟩:=hS.frzO (h58.mono (FLe.trans hF63 (FLe.trans hF66 hF72)))
 obtain⟨y77,hy77,h⟩:=bind_some h
 refine dQ hS (wt hS rfl rfl rfl rfl) (vs:=[.slice a40 y37.1.length z41,.slice a56 y53.1.length z57]) (ws:=[.slice a40 y37.1.length z41,.slice a56 y53.1.length z57]) rfl rfl rfl rfl rfl 0 rfl (g_2.ok hy77 (hz73.mono hF75) hz76) fun s v S' F' hp78 hF hS=>?_
 obtain⟨rfl,rfl,rfl⟩:=hp78
 refine sg0 hS 2 [] [2] [.bool y77] [] (by kernel_rfl) fun s hS=>(KW.nil ?_)
 refine WW.ret ?_
 cases h
 exact aP hS (.inr rfl) 2 rfl rfl ⟨((FLe.trans hF14 (FLe.trans hF16 (FLe.trans hF25 (FLe.trans hF33 (FLe.trans hF35 (FLe.trans hF44 (FLe.trans hF52 (FLe.trans hF60 (FLe.trans hF63 (FLe.trans hF66 (FLe.trans hF72 hF75)))))))))))),rfl,rfl⟩
 replace hS:=hS.kb 68 hc70 rfl
 replace hS:=hS.kb 69 hc70 rfl
 refine sg0 hS 5 [] [2] [.bool false] [] (by kernel_rfl) fun s hS=>(KW.nil ?_)
 refine WW.ret ?_
 replace hS:=hS.drop
 replace hS:=hS.drop
 cases h
 exact aP hS (.inr rfl) 2 rfl rfl ⟨((FLe.trans hF14 (FLe.trans hF16 (FLe.trans hF25 (FLe.trans hF33 (FLe.trans hF35 (FLe.trans hF44 (FLe.trans hF52 (FLe.trans hF60 (FLe.trans hF63 hF66)))))))))),rfl,rfl⟩
 replace hS:=hS.kb 53 hc61 rfl
 replace hS:=hS.kb 54 hc61 rfl
 refine sg0 hS 20 [] [2] [.bool false] [] (by kernel_rfl) fun s hS=>(KW.nil ?_)
 refine WW.ret ?_
 replace hS:=hS.drop
 replace hS:=hS.drop
 replace hS:=hS.drop
 replace hS:=hS.drop
 cases h
 exact aP hS (.inr rfl) 2 rfl rfl ⟨((FLe.trans hF14 (FLe.trans hF16 (FLe.trans hF25 (FLe.trans hF33 (FLe.trans hF35 (FLe.trans hF44 (FLe.trans hF52 hF60)))))))),rfl,rfl⟩
end Go.Proofs.YtjcbhbncncbdjaaGreatDoorAi
