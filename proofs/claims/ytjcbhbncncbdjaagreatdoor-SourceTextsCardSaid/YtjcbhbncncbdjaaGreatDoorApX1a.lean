import Derived.Test.YtjcbhbncncbdjaaGreatDoorApE
import Derived.Test.YtjcbhbncncbdjaaGreatDoorApE
/-
Functions of the program, told in Lean, and the proofs that their runs come to these answers (printed by ap.py, a program of this session).
-/
namespace Go.Proofs.YtjcbhbncncbdjaaGreatDoorAi
set_option maxHeartbeats 4000000
open Go Go.RowKit
set_option linter.unusedVariables false
set_option linter.unusedSimpArgs false
set_option maxRecDepth 100000
theorem t0_128:aX EV.P 128=some [.pointer none,.slice none 0 0,.int .u8 0,.bool false,.int .i64 0,.bool false,.int .i64 0,.int .i64 0,.int .i64 0,.int .i64 0,.int .i64 0]:=by kernel_rfl
theorem t0_132:aX EV.P 132=some [.pointer none,.bool false,.int .i64 0,.int .i64 0,.int .i64 0,.slice none 0 0]:=by kernel_rfl
theorem lY:aX EV.P 138=some [.int .i64 0,aa [],.slice none 0 0,.int .u8 0,.int .i64 0,.bool false]:=by kernel_rfl
theorem jQ:aX EV.P 141=some [.int .i64 0,.bool false,.bool false,.int .u8 0]:=by kernel_rfl
theorem t0_153:aX EV.P 153=some [.pointer none,.slice none 0 0]:=by kernel_rfl
theorem f9:aX EV.P 210=some [.int .u8 0,.int .i64 0,.int .i64 0,.int .i64 0]:=by kernel_rfl
theorem rV:aX EV.P 24=some [.int .i64 0]:=by kernel_rfl
theorem km:aX EV.P 3=some [.int .i64 0]:=by kernel_rfl
theorem t0_38:aX EV.P 38=some [aa [],.bool false,.slice none 0 0]:=by kernel_rfl
theorem t0_5:aX EV.P 5=some [.int .u8 0]:=by kernel_rfl
theorem eU:aX EV.P 55=some [.slice none 0 0,.slice none 0 0,.int .i64 0,.int .i64 0]:=by kernel_rfl
theorem jR:aX EV.P 58=some [.int .i64 0,.int .i64 0,.int .i64 0]:=by kernel_rfl
theorem ed:aX EV.P 61=some [.int .i64 0,aa [],.slice none 0 0]:=by kernel_rfl
theorem t0_9:aX EV.P 9=some [aa []]:=by kernel_rfl
theorem t0_95:aX EV.P 95=some [.slice none 0 0,.slice none 0 0,.slice none 0 0]:=by kernel_rfl
theorem kV:ApT EV.P #[125,125] 210 4:=mI (t:=125) (t2:=125) rfl rfl (by kernel_rfl) (u:=(.slice 210)) (by kernel_rfl) rfl (by kernel_rfl) (by kernel_rfl) (by decide)
theorem cZ:ApT EV.P #[23,23] 3 1:=mI (t:=23) (t2:=23) rfl rfl (by kernel_rfl) (u:=(.slice 3)) (by kernel_rfl) rfl (by kernel_rfl) (by kernel_rfl) (by decide)
theorem iO:ApT EV.P #[40,40] 61 3:=mI (t:=40) (t2:=40) rfl rfl (by kernel_rfl) (u:=(.slice 61)) (by kernel_rfl) rfl (by kernel_rfl) (by kernel_rfl) (by decide)
theorem lZ:ApT EV.P #[59,59] 58 3:=mI (t:=59) (t2:=59) rfl rfl (by kernel_rfl) (u:=(.slice 58)) (by kernel_rfl) rfl (by kernel_rfl) (by kernel_rfl) (by decide)
theorem ta83_83:ApT EV.P #[83,83] 5 1:=mI (t:=83) (t2:=83) rfl rfl (by kernel_rfl) (u:=(.slice 5)) (by kernel_rfl) rfl (by kernel_rfl) (by kernel_rfl) (by decide)
theorem eV:cP EV.P 125=some 4:=by kernel_rfl
theorem te133:cP EV.P 133=some 1:=by kernel_rfl
theorem qr:cP EV.P 23=some 1:=by kernel_rfl
theorem ie:cP EV.P 36=some 1:=by kernel_rfl
theorem l3:cP EV.P 40=some 3:=by kernel_rfl
theorem te59:cP EV.P 59=some 3:=by kernel_rfl
theorem iP:fieldAt EV.P 210 0=some (0,1,5):=by kernel_rfl
theorem rW:fieldAt EV.P 61 0=some (0,1,3):=by kernel_rfl
theorem rX:fieldAt EV.P 61 1=some (1,1,9):=by kernel_rfl
theorem jS:fieldAt EV.P 61 2=some (2,1,59):=by kernel_rfl
theorem tg125:(EV.P.underlying 125).map bZ=some false:=by kernel_rfl
theorem rY:(EV.P.underlying 141).map bZ=some true:=by kernel_rfl
theorem rZ:(EV.P.underlying 210).map bZ=some true:=by kernel_rfl
theorem r4:(EV.P.underlying 23).map bZ=some false:=by kernel_rfl
theorem tg24:(EV.P.underlying 24).map bZ=some false:=by kernel_rfl
theorem tg3:(EV.P.underlying 3).map bZ=some false:=by kernel_rfl
theorem nV:(EV.P.underlying 36).map bZ=some false:=by kernel_rfl
theorem tg38:(EV.P.underlying 38).map bZ=some true:=by kernel_rfl
theorem tg4:(EV.P.underlying 4).map bZ=some false:=by kernel_rfl
theorem tg40:(EV.P.underlying 40).map bZ=some false:=by kernel_rfl
theorem tg5:(EV.P.underlying 5).map bZ=some false:=by kernel_rfl
theorem ee:(EV.P.underlying 55).map bZ=some true:=by kernel_rfl
theorem tg58:(EV.P.underlying 58).map bZ=some true:=by kernel_rfl
theorem nW:(EV.P.underlying 59).map bZ=some false:=by kernel_rfl
theorem qt:(EV.P.underlying 61).map bZ=some true:=by kernel_rfl
theorem tg9:(EV.P.underlying 9).map bZ=some false:=by kernel_rfl
theorem ig:(EV.P.underlying 91).map bZ=some false:=by kernel_rfl
theorem ti9:(EV.P.info? 9).map (fun i=>(i.size,Nat.ble i.bytes 140000))=some (1,true):=by kernel_rfl
theorem tp128:jF EV.P 128=some [(0,1),(1,1),(2,1),(3,1),(4,1),(5,1),(6,5)]:=by kernel_rfl
theorem tp132:jF EV.P 132=some [(0,1),(1,1),(2,1),(3,1),(4,1),(5,1)]:=by kernel_rfl
theorem r5:jF EV.P 138=some [(0,3),(3,1),(4,1),(5,1)]:=by kernel_rfl
theorem r6:jF EV.P 141=some [(0,1),(1,1),(2,1),(3,1)]:=by kernel_rfl
theorem tp210:jF EV.P 210=some [(0,1),(1,3)]:=by kernel_rfl
theorem tp55:jF EV.P 55=some [(0,1),(1,1),(2,1),(3,1)]:=by kernel_rfl
theorem tp58:jF EV.P 58=some [(0,1),(1,1),(2,1)]:=by kernel_rfl
theorem tp61:jF EV.P 61=some [(0,1),(1,1),(2,1)]:=by kernel_rfl
theorem tp95:jF EV.P 95=some [(0,1),(1,1),(2,1)]:=by kernel_rfl
theorem r7: ∀{nx:Nat} {ty:TypeId} {ρ:Operand→Value} {b:Option Blk} {x y:Operand} {u:TypeId} {p q:Bool} (hx:ρ x= .bool p) (hy:ρ y= .bool q),al (.binOp .eql 4 x y u) EV.P nx ty ρ b=some (.bool (p==q),.none):=by
  intro nx ty ρ b x y u p q hx hy
  show az (iG EV.P .eql 4 x y (ρ x) (ρ y))=_
  rw[hx,hy]
  cases p<;>cases q<;>kernel_rfl
theorem tu125:EV.P.underlying 125=some (.slice 210):=by kernel_rfl
theorem r8:EV.P.underlying 133=some (.slice 24):=by kernel_rfl
theorem tu21:EV.P.underlying 21=some (.int .i32):=by kernel_rfl
theorem ko:EV.P.underlying 23=some (.slice 3):=by kernel_rfl
theorem tu3:EV.P.underlying 3=some (.int .i64):=by kernel_rfl
theorem tu36:EV.P.underlying 36=some (.slice 9):=by kernel_rfl
theorem tu40:EV.P.underlying 40=some (.slice 61):=by kernel_rfl
theorem tu5:EV.P.underlying 5=some (.int .u8):=by kernel_rfl
theorem tu59:EV.P.underlying 59=some (.slice 58):=by kernel_rfl
theorem tu83:EV.P.underlying 83=some (.slice 5):=by kernel_rfl
theorem tu9:EV.P.underlying 9=some .string:=by kernel_rfl
theorem bz:eC EV.P 126=some (5,1):=by kernel_rfl
theorem tz125:bi EV.P 125=some 1:=by kernel_rfl
theorem r9:bi EV.P 141=some 4:=by kernel_rfl
theorem mN:bi EV.P 210=some 4:=by kernel_rfl
theorem sa:bi EV.P 23=some 1:=by kernel_rfl
theorem tz24:bi EV.P 24=some 1:=by kernel_rfl
theorem tz3:bi EV.P 3=some 1:=by kernel_rfl
theorem tz38:bi EV.P 38=some 3:=by kernel_rfl
theorem tz40:bi EV.P 40=some 1:=by kernel_rfl
theorem tz5:bi EV.P 5=some 1:=by kernel_rfl
theorem ef:bi EV.P 55=some 4:=by kernel_rfl
theorem sb:bi EV.P 58=some 3:=by kernel_rfl
theorem tz59:bi EV.P 59=some 1:=by kernel_rfl
theorem kp:bi EV.P 61=some 3:=by kernel_rfl
theorem tz9:bi EV.P 9=some 1:=by kernel_rfl
def tb:Tab:=⟨[((38,0),(0,1,9)),((38,1),(1,1,4)),((38,2),(2,1,36)),((55,0),(0,1,40)),((55,1),(1,1,23)),((55,2),(2,1,3)),((55,3),(3,1,3)),((61,0),(0,1,3)),((61,1),(1,1,9)),((61,2),(2,1,59)),((95,0),(0,1,36)),((95,1),(1,1,23)),((95,2),(2,1,40)),((128,0),(0,1,91)),((128,1),(1,1,125)),((128,2),(2,1,5)),((128,3),(3,1,4)),((128,4),(4,1,3)),((128,5),(5,1,4)),((128,6),(6,5,126)),((132,0),(0,1,91)),((132,1),(1,1,4)),((132,2),(2,1,3)),((132,3),(3,1,3)),((132,4),(4,1,3)),((132,5),(5,1,125)),((138,0),(0,3,61)),((138,1),(3,1,5)),((138,2),(4,1,3)),((138,3),(5,1,4)),((141,0),(0,1,3)),((141,1),(1,1,4)),((141,2),(2,1,4)),((141,3),(3,1,5)),((153,1),(1,1,83)),((210,0),(0,1,5)),((210,1),(1,3,58))],[(3,false),(4,false),(5,false),(9,false),(23,false),(24,false),(36,false),(38,true),(40,false),(55,true),(58,true),(59,false),(61,true),(83,false),(91,false),(125,false)],[(3,1),(4,1),(5,1),(23,1),(24,1),(36,1),(38,3),(40,1),(55,4),(58,3),(59,1),(61,3),(83,1),(125,1),(138,6),(141,4),(210,4)],[23,36,40,59,125,133],[9]⟩
theorem sc:tb.ok EV.P:=Tab.ok_of (by kernel_rfl) (by kernel_rfl) (by kernel_rfl) (by kernel_rfl) (by kernel_rfl)
section
variable {ops:Array Oper} {Q:St→Prop} {kn:Kn} {S L:List Seg} {F F0:FZ} {nx0:Nat} {l:List Oper} {s:St}
theorem sg (hS:Stt EV s kn S F L F0 nx0) (n:Nat) (hs ts:List Nat) (vs:List Value) (is:List Nat) (S':List Seg) (h:oS tb EV.NG ops kn S (l.take n) hs ts=some (vs.map some,S',is,is,true))
    (k: ∀s',Stt EV s' (lW ts vs kn) S' F L F0 nx0→QW EV (l.drop n) ops s' Q):QW EV l ops s Q:=oT sc hS n hs ts vs is S' h k
theorem sg0 (hS:Stt EV s kn S F L F0 nx0) (n:Nat) (hs ts:List Nat) (vs:List Value) (is:List Nat) (h:oS tb EV.NG ops kn S (l.take n) hs ts=some (vs.map some,S,is,is,true))
    (k: ∀s',Stt EV s' (lW ts vs kn) S F L F0 nx0→QW EV (l.drop n) ops s' Q):QW EV l ops s Q:=oT sc hS n hs ts vs is S h k
theorem kg {inf:Option (List (List Nat))} {rs:List Rec} {zs:List Nat} {n:Nat} {qs ls:List Nat} {qa qn qd:List (Nat×Nat)} (hS:Stt EV s kn S F L F0 nx0) (hq:RS zs rs n qs ls qa qn qd) (m:Nat) (ts:List Nat) (vs:List Value) (h:syD tb EV.NG ops kn S l inf m ts=some (vs.map some,true,true,true))
    (k: ∀s' rs',Stt EV s' (lW ts vs kn) S F L F0 nx0→RS zs rs' (n+m) (upq m n qs) ls qa qn qd→KW EV (l.drop m) ops (mJ m inf) rs' s' Q):KW EV l ops inf rs s Q:=K.seg sc hS hq m ts vs h k
theorem cK {g:FuncId} {ws:List Value} {Sc:List Seg} {Φ:Value→List Seg→FZ→Prop} (hT:Cl EV g ws Sc F Φ) (hS:Stt EV s kn S F L F0 nx0) (n d c:Nat) (hc:eS c S=Sc) (h:syC tb EV.NG ops n l kn S=some (g,ws.map some,d,true))
    (k: ∀s' v S' F',Φ v S' F'→FLe F F'→Stt EV s' ((d,v)::kn) (S'++dV c S) F' L F0 nx0→QW EV (l.drop (n+1)) ops s' Q):QW EV l ops s Q:=q_cK hT sc hS n d c hc h k
theorem cR {g:FuncId} {ws:List Value} {Sc S0:List Seg} {v0:Value} (hT:Cl EV g ws Sc F (fun v S' F'=>F=F'∧v=v0∧S'=S0)) (hS:Stt EV s kn S F L F0 nx0) (n d c:Nat) (hc:eS c S=Sc) (h:syC tb EV.NG ops n l kn S=some (g,ws.map some,d,true))
    (k: ∀s',Stt EV s' ((d,v0)::kn) (S0++dV c S) F L F0 nx0→QW EV (l.drop (n+1)) ops s' Q):QW EV l ops s Q:=q_cR hT sc hS n d c hc h k
end
def dj:El (Int×Int×Int):=⟨3,58,fun _ x c=>c= [.int .i64 x.1,.int .i64 x.2.1,.int .i64 x.2.2],fun h=>by rw[h]; rfl,by decide,fun _ h=>h⟩
def bb:El (UInt8×Int×Int×Int):=⟨4,210,fun _ x c=>c= [vB x.1,.int .i64 x.2.1,.int .i64 x.2.2.1,.int .i64 x.2.2.2],fun h=>by rw[h]; rfl,by decide,fun _ h=>h⟩
def bs:El (Int×List UInt8×(List (Int×Int×Int))):=⟨3,61,fun F x c=> ∃(a2:Option Addr) (z2:Nat),c= [.int .i64 x.1,aa x.2.1,.slice a2 x.2.2.length z2]∧Frz dj F a2 z2 x.2.2,fun h=>by obtain⟨a2,z2,rfl,h2⟩:=h; rfl,by decide,fun hf h=>by obtain⟨a2,z2,rfl,h2⟩:=h; exact⟨_,_,rfl,h2.mono hf⟩⟩
noncomputable def g_7.b0 (pC:List (List UInt8)) (x2:Int):Option ((Int)⊕((Int)⊕(Bool))) :=
  (if(decide (x2<(pC.length:Int))) then(if 0≤x2∧x2<(pC.length:Int) then(if(decide (((gt pC x2).length:Int)>200)) then some (.inr (.inr false)) else some (.inl (w64 (x2+1)))) else none) else some (.inr (.inl x2)))
noncomputable def g_7.f (pA:List UInt8) (pC:List (List UInt8)):Option (Bool) :=
  Option.bind (iter (g_7.b0 pC) 0) fun o3=>bj o3 fun y17=>some ((decide ((pC.length:Int)≤405))&&(decide ((pA.length:Int)≤60)))
theorem g_7.ok {aE:Option Addr} {zH:Nat} {pA:List UInt8} {pB:Bool} {pC:List (List UInt8)} {F:FZ} {r:Bool} (h:g_7.f pA pC=some r) (hI:Frz (elS 9) F aE zH pC) :
    Cl EV 16 [.agg #[aa pA,.bool pB,.slice aE pC.length zH]] [] F (fun v S' F'=>F=F'∧v= .bool r∧S'= []):=by
 refine Cl.of Tryz.func16 rfl (fun _ _=>rfl) (by kernel_rfl) fun s L nx0 hS=>?_
 unfold g_7.f at h
 refine WW.seq (WW.region ?_)
 refine bf hS (wn rfl) rfl rfl rfl (v:=fun i=> .pointer (some ⟨i,0,none⟩)) (b:= .row [aa pA,.bool pB,.slice aE pC.length zH] 38 0 true) (br (hS.lk rfl) rfl [aa pA,.bool pB,.slice aE pC.length zH] rfl) fun s i1 hS=>(sg0 hS 1 [] [2] [.bool false] [] (by kernel_rfl) fun s hS=>?_)
 refine KW.nil (WW.seq ?_)
 refine WW.seq (WW.region ?_)
 refine sg0 hS 1 [] [3] [.int .i64 0] [] (by kernel_rfl) fun s hS=>(KW.nil ?_)
 refine WW.block ?_
 obtain⟨o3,ho3,h⟩:=bind_some h
 refine WW.loop (LW.iterS ho3 (fun(x2:Int) s=>Stt EV s [(1,.pointer (some ⟨i1,0,none⟩)),(2,.bool false),(3,.int .i64 x2)] [[(i1,.row [aa pA,.bool pB,.slice aE pC.length zH] 38 0 true)]] F L F nx0) 0 (fun r=>dq EV Tryz.f16 L F nx0 (fun v S' F'=>F=F'∧v= .bool r∧S'= [])) (hS.subR rfl) ?_ ?_)
 clear hS
 rintro x2 s hS o3' h5
 unfold g_7.b0 at h5
 refine WW.seq (WW.seq ?_)
 refine WW.region (sg0 hS 5 [0] [8] [.bool (decide (x2<(pC.length:Int)))] [i1] (by kernel_rfl) fun s hS=>?_)
 refine KW.nil (bc h5 (fun hc6 h5=>?_) fun hc6 h5=>?_)
 refine WW.condK hS rfl hc6 (WW.skip ?_)
 refine WW.seq (WW.block ?_)
 refine WW.seq (WW.region ?_)
 refine sg0 hS 3 [0] [12,13] [.slice aE pC.length zH,.int .i64 x2] [i1] (by kernel_rfl) fun s hS=>?_
 obtain⟨hk7,h5⟩:=ac h5
 obtain⟨i13,of14,rfl⟩:=Frz.addr hI (by omega)
 obtain⟨_,_,_,_,c8,hF15,hR9,hN10,hN11,hT12⟩:=Frz.at hI hk7 (m:=1) rfl
 obtain rfl:=hR9
 refine am hS (wn rfl) rfl rfl rfl (v:= .pointer (some ⟨i13,of14+(x2).toNat*1,none⟩)) (aW (hS.lk rfl) (hS.lk rfl) ie hk7) fun s hS=>(gG hS (wn rfl) rfl rfl rfl (hS.fat hF15) tg9 (v:=aa (gt pC x2)) hN10 fun s hS=>?_)
 refine sg0 hS 2 [] [17] [.bool (decide (((gt pC x2).length:Int)>200))] [] (by kernel_rfl) fun s hS=>(KW.nil ?_)
 refine bc h5 (fun hc16 h5=>?_) fun hc16 h5=>?_
 refine WW.condK hS rfl hc16 (WW.seq ?_)
 refine WW.region (sg0 hS 1 [] [2] [.bool false] [] (by kernel_rfl) fun s hS=>?_)
 refine KW.nil (WW.ret ?_)
 replace hS:=hS.drop
 cases h5
 exact⟨_,rfl,rfl,aS hS (.inr rfl) 2 rfl rfl ⟨rfl,rfl,rfl⟩⟩
 refine WW.condF hS rfl hc16 (WW.skip ?_)
 refine WW.region (sg0 hS 3 [] [3] [.int .i64 (w64 (x2+1))] [] (by kernel_rfl) fun s hS=>?_)
 refine KW.nil ?_
 obtain rfl:=Option.some.inj h5
 exact⟨_,rfl,(hS.subR rfl)⟩
 refine WW.condF hS rfl hc6 (WW.exit ?_)
 refine af ?_
 obtain rfl:=Option.some.inj h5
 exact⟨_,rfl,rfl,(hS.subR rfl)⟩
 clear hS
 rcases o3 with y17 | y17
 rintro e s ⟨rfl,hS⟩
 replace h:=aB h
 refine ah (WW.seq ?_)
 refine WW.region (sg0 hS 5 [0] [22] [.bool (decide ((pC.length:Int)≤405))] [i1] (by kernel_rfl) fun s hS=>?_)
 refine aH 5 (fun s=>Stt EV s [(27,.bool ((decide ((pC.length:Int)≤405))&&(decide ((pA.length:Int)≤60)))),(2,.bool false)] [[(i1,.row [aa pA,.bool pB,.slice aE pC.length zH] 38 0 true)]] F L F nx0) ?_ fun s hS=>?_
 rcases ax ((decide ((pC.length:Int)≤405))) with hcj | hcj
 replace hS:=hS.know (t:=22) rfl (congrArg Value.bool hcj)
 refine sg0 hS 5 [0] [27] [.bool (decide ((pA.length:Int)≤60))] [i1] (by kernel_rfl) fun s hS=>(KW.nil ?_)
 exact(hS.know (t:=27) (u':= .bool ((decide ((pC.length:Int)≤405))&&(decide ((pA.length:Int)≤60)))) rfl (bw hcj)).subR rfl
 replace hS:=hS.know (t:=22) rfl (congrArg Value.bool hcj)
 refine sg0 hS 5 [] [27] [.bool false] [] (by kernel_rfl) fun s hS=>(KW.nil ?_)
 exact(hS.know (t:=27) (u':= .bool ((decide ((pC.length:Int)≤405))&&(decide ((pA.length:Int)≤60)))) rfl (bx hcj)).subR rfl
 refine sg0 hS 1 [] [2] [.bool ((decide ((pC.length:Int)≤405))&&(decide ((pA.length:Int)≤60)))] [] (by kernel_rfl) fun s hS=>(KW.nil ?_)
 refine WW.ret ?_
 replace hS:=hS.drop
 cases h
 exact aS hS (.inr rfl) 2 rfl rfl ⟨rfl,rfl,rfl⟩
 rintro e s ⟨rfl,hfin⟩
 replace h:=aj h
 obtain rfl:=Option.some.inj h
 exact hfin
noncomputable def g_1.f (pA:List (List UInt8)):Option (List (List UInt8)) :=
  (if 0≤(pA.length:Int)∧(pA.length:Int)<1000000000 then(if(List.replicate ((pA.length:Int)).toNat (([]):List UInt8)).length=pA.length then some pA else none) else none)
theorem g_1.ok {aC:Option Addr} {zD:Nat} {pA:List (List UInt8)} {F:FZ} {r:List (List UInt8)} (h:g_1.f pA=some r) (hE:Frz (elS 9) F aC zD pA) :
    Cl EV 20 [.slice aC pA.length zD] [] F (fun v S' F'=> ∃(ra1:Option Addr) (rz2:Nat) (rB4:Seg),F=F'∧v= .slice ra1 r.length rz2∧S'= [rB4]∧Own (elS 9) F' ra1 rz2 r rB4):=by
 refine Cl.of Tryz.func20 rfl (fun _ _=>rfl) (by kernel_rfl) fun s L nx0 hS=>?_
 unfold g_1.f at h
 refine WW.seq (WW.region ?_)
 refine sg0 hS 1 [] [2] [.slice none 0 0] [] (by kernel_rfl) fun s hS=>(KW.nil ?_)
 refine WW.seq (WW.region ?_)
 refine sg0 hS 2 [] [5] [.int .i64 (pA.length:Int)] [] (by kernel_rfl) fun s hS=>?_
 obtain⟨hk1,h⟩:=ac h
 refine bf hS (wn rfl) rfl rfl rfl (v:=fun i=> .slice (some ⟨i,0,none⟩) (List.replicate ((pA.length:Int)).toNat (([]):List UInt8)).length 1) (b:= .row (fJ [aa ([])] ((pA.length:Int)).toNat) 9 1 true) (aop_mks (x0:=(([]):List UInt8)) (hS.lk rfl) (hS.lk rfl) tu36 ti9 t0_9 rfl (by decide) hk1) fun s i2 hS=>?_
 have hC3:au (elS 9) F (List.replicate ((pA.length:Int)).toNat (([]):List UInt8)) (fJ [aa ([])] ((pA.length:Int)).toNat):=au.rep rfl _
 refine sg0 hS 1 [] [3] [.slice (some ⟨i2,0,none⟩) (List.replicate ((pA.length:Int)).toNat (([]):List UInt8)).length 1] [] (by kernel_rfl) fun s hS=>(KW.nil ?_)
 refine WW.seq (WW.region ?_)
 refine sg0 hS 2 [] [7,8] [.slice (some ⟨i2,0,none⟩) (List.replicate ((pA.length:Int)).toNat (([]):List UInt8)).length 1,.slice aC pA.length zD] [] (by kernel_rfl) fun s hS=>?_
 obtain⟨hk4,h⟩:=ac h
 refine q_cpF hS (wn rfl) (dd:=(elS 9)) (lst:=(List.replicate ((pA.length:Int)).toNat (([]):List UInt8))) (m:=pA) rfl rfl tu36 tz9 rfl rfl hC3 hE hk4 fun s cs5 hC6 hS=>?_
 replace hS:=hS.know (t:=3) rfl (congrArg (fun n=>Value.slice (some ⟨i2,0,none⟩) n 1) hk4)
 replace hS:=hS.know (t:=6) rfl (congrArg (fun n=>Value.slice (some ⟨i2,0,none⟩) n 1) hk4)
 replace hS:=hS.know (t:=7) rfl (congrArg (fun n=>Value.slice (some ⟨i2,0,none⟩) n 1) hk4)
 refine KW.nil (WW.seq ?_)
 refine WW.region (sg0 hS 2 [] [2] [.slice (some ⟨i2,0,none⟩) pA.length 1] [] (by kernel_rfl) fun s hS=>?_)
 refine KW.nil (WW.ret ?_)
 cases h
 exact aS hS (.inr rfl) 2 rfl rfl ⟨_,_,_,rfl,rfl,rfl,(Own.blk0 hC6)⟩
noncomputable def g_9.f (pA:List UInt8) (pB:Bool) (pC:List (List UInt8)):Option (List UInt8×Bool×List (List UInt8)) :=
  Option.bind (g_1.f pC) fun y3=>some (pA,pB,y3)
theorem g_9.ok {aE:Option Addr} {zH:Nat} {pA:List UInt8} {pB:Bool} {pC:List (List UInt8)} {F:FZ} {r:List UInt8×Bool×List (List UInt8)} (h:g_9.f pA pB pC=some r) (hI:Frz (elS 9) F aE zH pC) :
    Cl EV 18 [.agg #[aa pA,.bool pB,.slice aE pC.length zH]] [] F (fun v S' F'=> ∃(ra1:Option Addr) (rz2:Nat) (rB4:Seg),F=F'∧v= .agg #[aa r.1,.bool r.2.1,.slice ra1 r.2.2.length rz2]∧S'= [rB4]∧Own (elS 9) F' ra1 rz2 r.2.2 rB4):=by
 refine Cl.of Tryz.func18 rfl (fun _ _=>rfl) (by kernel_rfl) fun s L nx0 hS=>?_
 unfold g_9.f at h
 refine WW.seq (WW.region ?_)
 refine bf hS (wn rfl) rfl rfl rfl (v:=fun i=> .pointer (some ⟨i,0,none⟩)) (b:= .row [aa pA,.bool pB,.slice aE pC.length zH] 38 0 true) (br (hS.lk rfl) rfl [aa pA,.bool pB,.slice aE pC.length zH] rfl) fun s i1 hS=>(bf hS (wn rfl) rfl rfl rfl (v:=fun i=> .pointer (some ⟨i,0,none⟩)) (b:= .row [aa ([]),.bool false,.slice none 0 0] 38 0 true) (aU t0_38) fun s i2 hS=>?_)
 refine KW.nil (WW.seq ?_)
 refine WW.region (sg0 hS 2 [1] [4] [.slice aE pC.length zH] [i1] (by kernel_rfl) fun s hS=>?_)
 obtain⟨y3,hy3,h⟩:=bind_some h
 refine bE hS (wn rfl) (vs:=[.slice aE pC.length zH]) (ws:=[.slice aE pC.length zH]) rfl rfl rfl rfl rfl 0 rfl (g_1.ok hy3 hI) fun s v S' F' hp4 hF hS=>?_
 obtain⟨a5,z6,B8,rfl,rfl,rfl,h7⟩:=hp4
 refine sg hS 2 [2] [] [] [i1] [B8,[(i2,.row [aa ([]),.bool false,.slice none 0 0] 38 0 true)],[(i1,.row [aa pA,.bool pB,.slice a5 y3.length z6] 38 0 true)]] (by kernel_rfl) fun s hS=>(KW.nil ?_)
 refine WW.seq (WW.region ?_)
 refine sg hS 2 [2,1] [] [] [i1,i2] [B8,[(i2,.row [aa pA,.bool pB,.slice a5 y3.length z6] 38 0 true)],[(i1,.row [aa pA,.bool pB,.slice a5 y3.length z6] 38 0 true)]] (by kernel_rfl) fun s hS=>(KW.nil ?_)
 refine WW.ret ?_
 have hres:=(aL hS (t:=2) (ty:=38) rfl (p:=1) rfl tg38 tz38 (ws:=[aa pA,.bool pB,.slice a5 y3.length z6]) rfl (aw (E:=EV) (s:=s)))
 replace hS:=(hS.pull 1).drop
 replace hS:=(hS.pull 1).drop
 cases h
 exact fin hS (.inr rfl) hres (v:= .agg #[aa pA,.bool pB,.slice a5 y3.length z6]) rfl ⟨_,_,_,rfl,rfl,rfl,h7⟩
noncomputable def g_1l.f (pA:Int) (pB:Int) (pC:Int):Option (Bool) :=
  some ((decide (pB≤pA))&&(decide (pA≤pC)))
theorem g_1l.ok {pA:Int} {pB:Int} {pC:Int} {F:FZ} {r:Bool} (h:g_1l.f pA pB pC=some r) :
    Cl EV 82 [.int .i64 pA,.int .i64 pB,.int .i64 pC] [] F (fun v S' F'=>F=F'∧v= .bool r∧S'= []):=by
 refine Cl.of Tryz.func82 rfl (fun _ _=>rfl) (by kernel_rfl) fun s L nx0 hS=>?_
 unfold g_1l.f at h
 refine WW.seq (WW.region ?_)
 refine sg0 hS 1 [] [6] [.bool false] [] (by kernel_rfl) fun s hS=>(KW.nil ?_)
 refine WW.seq (WW.region ?_)
 refine sg0 hS 4 [] [10] [.bool (decide (pB≤pA))] [] (by kernel_rfl) fun s hS=>(aH 4 (fun s=>Stt EV s [(14,.bool ((decide (pB≤pA))&&(decide (pA≤pC)))),(6,.bool false)] [] F L F nx0) ?_ fun s hS=>?_)
 rcases ax ((decide (pB≤pA))) with hcj | hcj
 replace hS:=hS.know (t:=10) rfl (congrArg Value.bool hcj)
 refine sg0 hS 4 [] [14] [.bool (decide (pA≤pC))] [] (by kernel_rfl) fun s hS=>(KW.nil ?_)
 exact(hS.know (t:=14) (u':= .bool ((decide (pB≤pA))&&(decide (pA≤pC)))) rfl (bw hcj)).subR rfl
 replace hS:=hS.know (t:=10) rfl (congrArg Value.bool hcj)
 refine sg0 hS 4 [] [14] [.bool false] [] (by kernel_rfl) fun s hS=>(KW.nil ?_)
 exact(hS.know (t:=14) (u':= .bool ((decide (pB≤pA))&&(decide (pA≤pC)))) rfl (bx hcj)).subR rfl
 refine sg0 hS 1 [] [6] [.bool ((decide (pB≤pA))&&(decide (pA≤pC)))] [] (by kernel_rfl) fun s hS=>(KW.nil ?_)
 refine WW.ret ?_
 cases h
 exact aS hS (.inr rfl) 6 rfl rfl ⟨rfl,rfl,rfl⟩
noncomputable def g_1c.f (pA:Int) (pC:UInt8):Option (Bool) :=
  some ((decide (pA<(IntKind.i32.wrap (pC.toNat:Int))))||(decide (pA>126)))
theorem g_1c.ok {iC:Nat} {pA:Int} {pC:UInt8} {F:FZ} {r:Bool} (h:g_1c.f pA pC=some r) :
    Cl EV 85 [.int .i32 pA,.pointer (some ⟨iC,0,none⟩)] [[(iC,.row [vB pC] 5 0 true)]] F (fun v S' F'=>F=F'∧v= .bool r∧S'= [[(iC,.row [vB pC] 5 0 true)]]):=by
 refine Cl.of Tryz.func85 rfl (fun _ _=>rfl) (by kernel_rfl) fun s L nx0 hS=>?_
 unfold g_1c.f at h
 refine WW.seq (WW.region ?_)
 refine sg0 hS 1 [] [3] [.bool false] [] (by kernel_rfl) fun s hS=>(KW.nil ?_)
 refine WW.seq (WW.region ?_)
 refine sg0 hS 2 [0] [4,5] [.int .i32 pA,vB pC] [iC] (by kernel_rfl) fun s hS=>(am hS (wn rfl) rfl rfl (ic hS rfl rfl) (v:= .int .i32 (IntKind.i32.wrap (pC.toNat:Int))) (fj (hS.lk rfl) tu5 tu21) fun s hS=>?_)
 refine sg0 hS 2 [] [8] [.bool (decide (pA<(IntKind.i32.wrap (pC.toNat:Int))))] [] (by kernel_rfl) fun s hS=>(aH 3 (fun s=>Stt EV s [(11,.bool ((decide (pA<(IntKind.i32.wrap (pC.toNat:Int))))||(decide (pA>126)))),(3,.bool false)] [[(iC,.row [vB pC] 5 0 true)]] F L F nx0) ?_ fun s hS=>?_)
 rcases ax ((decide (pA<(IntKind.i32.wrap (pC.toNat:Int))))) with hcj | hcj
 replace hS:=hS.know (t:=8) rfl (congrArg Value.bool hcj)
 refine sg0 hS 3 [] [11] [.bool true] [] (by kernel_rfl) fun s hS=>(KW.nil ?_)
 exact(hS.know (t:=11) (u':= .bool ((decide (pA<(IntKind.i32.wrap (pC.toNat:Int))))||(decide (pA>126)))) rfl (cB hcj)).subR rfl
 replace hS:=hS.know (t:=8) rfl (congrArg Value.bool hcj)
 refine sg0 hS 3 [] [11] [.bool (decide (pA>126))] [] (by kernel_rfl) fun s hS=>(KW.nil ?_)
 exact(hS.know (t:=11) (u':= .bool ((decide (pA<(IntKind.i32.wrap (pC.toNat:Int))))||(decide (pA>126)))) rfl (cC hcj)).subR rfl
 refine sg0 hS 1 [] [3] [.bool ((decide (pA<(IntKind.i32.wrap (pC.toNat:Int))))||(decide (pA>126)))] [] (by kernel_rfl) fun s hS=>(KW.nil ?_)
 refine WW.ret ?_
 cases h
 exact aS hS (.inr rfl) 3 rfl rfl ⟨rfl,rfl,rfl⟩
noncomputable def g_1r.b0 (pA:List UInt8) (pC:UInt8) (pD:Bool) (x2:Nat):Option ((Nat)⊕((Nat)⊕(Int))) :=
  (if(decide (x2<pA.length)) then Option.bind (g_1c.f ((dec pA x2).1:Int) pC) fun y7=>(if(y7==pD) then some (.inr (.inr (x2:Int))) else some (.inl (x2+(dec pA x2).2))) else some (.inr (.inl x2)))
noncomputable def g_1r.f (pA:List UInt8) (pC:UInt8) (pD:Bool):Option (Int) :=
  Option.bind (iter (g_1r.b0 pA pC pD) 0) fun o3=>bj o3 fun y10=>some (-1)
theorem g_1r.ok {iC:Nat} {pA:List UInt8} {pC:UInt8} {pD:Bool} {F:FZ} {r:Int} (h:g_1r.f pA pC pD=some r) :
    Cl EV 127 [aa pA,.func (.func 85) #[] #[.pointer (some ⟨iC,0,none⟩)],.bool pD] [[(iC,.row [vB pC] 5 0 true)]] F (fun v S' F'=>F=F'∧v= .int .i64 r∧S'= [[(iC,.row [vB pC] 5 0 true)]]):=by
 refine Cl.of Tryz.func127 rfl (fun _ _=>rfl) (by kernel_rfl) fun s L nx0 hS=>?_
 unfold g_1r.f at h
 refine WW.seq (WW.region ?_)
 refine sg0 hS 1 [] [6] [.int .i64 0] [] (by kernel_rfl) fun s hS=>(KW.nil ?_)
 refine WW.seq (WW.seq ?_)
 refine WW.region (sg0 hS 1 [] [9] [aa pA] [] (by kernel_rfl) fun s hS=>?_)
 refine bf hS (wn rfl) rfl rfl rfl (v:=fun i=> .pointer (some ⟨i,0,none⟩)) (b:= .iter ⟨pA.toArray⟩ 0) (oM tu9 (hS.lk rfl)) fun s i1 hS=>(KW.nil ?_)
 refine WW.block ?_
 obtain⟨o3,ho3,h⟩:=bind_some h
 refine WW.loop (LW.iterS ho3 (fun(x2:Nat) s=>Stt EV s [(1,.func (.func 85) #[] #[.pointer (some ⟨iC,0,none⟩)]),(2,.bool pD),(6,.int .i64 0),(10,.pointer (some ⟨i1,0,none⟩))] [[(i1,.iter ⟨pA.toArray⟩ x2)],[(iC,.row [vB pC] 5 0 true)]] F L F nx0) 0 (fun r=>dq EV Tryz.f127 L F nx0 (fun v S' F'=>F=F'∧v= .int .i64 r∧S'= [[(iC,.row [vB pC] 5 0 true)]])) (hS.subR rfl) ?_ ?_)
 clear hS
 rintro x2 s hS o3' h5
 unfold g_1r.b0 at h5
 refine WW.seq (WW.region ?_)
 refine bc h5 (fun hc6 h5=>?_) fun hc6 h5=>?_
 refine q_up hS (wn rfl) rfl rfl (lU hS rfl) (p:=0) rfl (oN (hS.lk rfl) (of_decide_eq_true hc6)) fun s hS=>(sg0 hS 1 [] [12] [.bool true] [] (by kernel_rfl) fun s hS=>?_)
 refine KW.nil (WW.seq ?_)
 refine WW.condK hS rfl rfl (WW.skip ?_)
 refine WW.block (WW.seq ?_)
 refine WW.region (sg0 hS 4 [] [7,8] [.int .i64 (x2:Int),.int .i32 ((dec pA x2).1:Int)] [] (by kernel_rfl) fun s hS=>?_)
 refine KW.nil (WW.seq ?_)
 refine WW.region ?_
 obtain⟨y7,hy7,h5⟩:=bind_some h5
 replace hS:=hS.pull 1
 refine cR (g_1c.ok hy7) hS 2 17 1 rfl (by kernel_rfl) fun s hS=>(sg0 hS 1 [] [18] [.bool pD] [] (by kernel_rfl) fun s hS=>?_)
 refine am hS (wn rfl) rfl rfl rfl (v:= .bool (y7==pD)) (r7 (hS.lk rfl) (hS.lk rfl)) fun s hS=>(KW.nil ?_)
 refine bc h5 (fun hc9 h5=>?_) fun hc9 h5=>?_
 refine WW.condK hS rfl hc9 (WW.seq ?_)
 refine WW.region (sg0 hS 2 [] [6] [.int .i64 (x2:Int)] [] (by kernel_rfl) fun s hS=>?_)
 refine KW.nil (WW.ret ?_)
 replace hS:=(hS.pull 1).drop
 cases h5
 exact⟨_,rfl,rfl,aS hS (.inr rfl) 6 rfl rfl ⟨rfl,rfl,rfl⟩⟩
 refine WW.condF hS rfl hc9 (WW.skip ?_)
 replace hS:=hS.pull 1
 obtain rfl:=Option.some.inj h5
 exact⟨_,rfl,(hS.subR rfl)⟩
 refine q_rd hS (wn rfl) rfl rfl (lU hS rfl) (hS.at (k:=0) rfl) (oO (hS.lk rfl) (of_decide_eq_false hc6)) fun s hS=>(sg0 hS 1 [] [12] [.bool false] [] (by kernel_rfl) fun s hS=>?_)
 refine KW.nil (WW.seq ?_)
 refine WW.condF hS rfl rfl (WW.exit ?_)
 refine af ?_
 obtain rfl:=Option.some.inj h5
 exact⟨_,rfl,rfl,(hS.subR rfl)⟩
 clear hS
 rcases o3 with y10 | y10
 rintro e s ⟨rfl,hS⟩
 replace h:=aB h
 refine ah (WW.seq ?_)
 refine WW.region (sg0 hS 1 [] [6] [.int .i64 (-1)] [] (by kernel_rfl) fun s hS=>?_)
 refine KW.nil (WW.ret ?_)
 replace hS:=hS.drop
 cases h
 exact aS hS (.inr rfl) 6 rfl rfl ⟨rfl,rfl,rfl⟩
 rintro e s ⟨rfl,hfin⟩
 replace h:=aj h
 obtain rfl:=Option.some.inj h
 exact hfin
noncomputable def g_1o.f (pA:List UInt8) (pC:UInt8):Option (Int) :=
  Option.bind (g_1r.f pA pC true) fun y1=>some y1
theorem g_1o.ok {iC:Nat} {pA:List UInt8} {pC:UInt8} {F:FZ} {r:Int} (h:g_1o.f pA pC=some r) :
    Cl EV 84 [aa pA,.func (.func 85) #[] #[.pointer (some ⟨iC,0,none⟩)]] [[(iC,.row [vB pC] 5 0 true)]] F (fun v S' F'=>F=F'∧v= .int .i64 r∧S'= [[(iC,.row [vB pC] 5 0 true)]]):=by
 refine Cl.of Tryz.func84 rfl (fun _ _=>rfl) (by kernel_rfl) fun s L nx0 hS=>?_
 unfold g_1o.f at h
 refine WW.seq (WW.region ?_)
 refine sg0 hS 1 [] [4] [.int .i64 0] [] (by kernel_rfl) fun s hS=>(KW.nil ?_)
 refine WW.seq (WW.region ?_)
 obtain⟨y1,hy1,h⟩:=bind_some h
 refine cR (g_1r.ok hy1) hS 2 7 1 rfl (by kernel_rfl) fun s hS=>(sg0 hS 1 [] [4] [.int .i64 y1] [] (by kernel_rfl) fun s hS=>?_)
 refine KW.nil (WW.ret ?_)
 cases h
 exact aS hS (.inr rfl) 4 rfl rfl ⟨rfl,rfl,rfl⟩
noncomputable def g_1b.f (pA:List UInt8) (pB:UInt8):Option (Bool) :=
  Option.bind (g_1o.f pA pB) fun y2=>some (decide (y2<0))
theorem g_1b.ok {pA:List UInt8} {pB:UInt8} {F:FZ} {r:Bool} (h:g_1b.f pA pB=some r) :
    Cl EV 52 [aa pA,vB pB] [] F (fun v S' F'=>F=F'∧v= .bool r∧S'= []):=by
 refine Cl.of Tryz.func52 rfl (fun _ _=>rfl) (by kernel_rfl) fun s L nx0 hS=>?_
 unfold g_1b.f at h
 refine WW.seq (WW.region ?_)
 refine bf hS (wn rfl) rfl rfl rfl (v:=fun i=> .pointer (some ⟨i,0,none⟩)) (b:= .row [vB pB] 5 0 true) (br (hS.lk rfl) rfl [vB pB] rfl) fun s i1 hS=>(sg0 hS 1 [] [4] [.bool false] [] (by kernel_rfl) fun s hS=>?_)
 refine KW.nil (WW.seq ?_)
 refine WW.region (sg0 hS 1 [] [5] [aa pA] [] (by kernel_rfl) fun s hS=>?_)
 refine am hS (wn rfl) rfl rfl rfl (v:= .func (.func 85) #[] #[.pointer (some ⟨i1,0,none⟩)]) (aop_mf (lS hS (vs:=[]) rfl) (lS hS (vs:=[.pointer (some ⟨i1,0,none⟩)]) rfl)) fun s hS=>?_
 obtain⟨y2,hy2,h⟩:=bind_some h
 refine cR (g_1o.ok hy2) hS 0 7 1 rfl (by kernel_rfl) fun s hS=>(sg0 hS 2 [] [4] [.bool (decide (y2<0))] [] (by kernel_rfl) fun s hS=>?_)
 refine KW.nil (WW.ret ?_)
 replace hS:=hS.drop
 cases h
 exact aS hS (.inr rfl) 4 rfl rfl ⟨rfl,rfl,rfl⟩
noncomputable def g_5.f (pA:List UInt8) (pB:UInt8):Option (Int) :=
  Option.bind (g_idx.f pA pB) fun y1=>some y1
theorem g_5.ok {pA:List UInt8} {pB:UInt8} {F:FZ} {r:Int} (h:g_5.f pA pB=some r) :
    Cl EV 126 [aa pA,vB pB] [] F (fun v S' F'=>F=F'∧v= .int .i64 r∧S'= []):=by
 refine Cl.of Tryz.func126 rfl (fun _ _=>rfl) (by kernel_rfl) fun s L nx0 hS=>?_
 unfold g_5.f at h
 refine WW.seq (WW.region ?_)
 refine sg0 hS 1 [] [4] [.int .i64 0] [] (by kernel_rfl) fun s hS=>(KW.nil ?_)
 refine WW.seq (WW.region ?_)
 obtain⟨y1,hy1,h⟩:=bind_some h
 refine cR (g_idx.ok hy1) hS 2 7 0 rfl (by kernel_rfl) fun s hS=>(sg0 hS 1 [] [4] [.int .i64 y1] [] (by kernel_rfl) fun s hS=>?_)
 refine KW.nil (WW.ret ?_)
 cases h
 exact aS hS (.inr rfl) 4 rfl rfl ⟨rfl,rfl,rfl⟩
noncomputable def g_1n.f (pA:List UInt8) (pB:UInt8):Option (Int) :=
  Option.bind (g_5.f pA pB) fun y1=>some y1
theorem g_1n.ok {pA:List UInt8} {pB:UInt8} {F:FZ} {r:Int} (h:g_1n.f pA pB=some r) :
    Cl EV 83 [aa pA,vB pB] [] F (fun v S' F'=>F=F'∧v= .int .i64 r∧S'= []):=by
 refine Cl.of Tryz.func83 rfl (fun _ _=>rfl) (by kernel_rfl) fun s L nx0 hS=>?_
 unfold g_1n.f at h
 refine WW.seq (WW.region ?_)
 refine sg0 hS 1 [] [4] [.int .i64 0] [] (by kernel_rfl) fun s hS=>(KW.nil ?_)
 refine WW.seq (WW.region ?_)
 obtain⟨y1,hy1,h⟩:=bind_some h
 refine cR (g_5.ok hy1) hS 2 7 0 rfl (by kernel_rfl) fun s hS=>(sg0 hS 1 [] [4] [.int .i64 y1] [] (by kernel_rfl) fun s hS=>?_)
 refine KW.nil (WW.ret ?_)
 cases h
 exact aS hS (.inr rfl) 4 rfl rfl ⟨rfl,rfl,rfl⟩
noncomputable def g_19.f (pA:List UInt8):Option (Bool) :=
  Option.bind (g_1l.f (pA.length:Int) 1 31) fun y1=>Option.bind ((if y1 then Option.bind (g_1b.f pA 33) fun y5=>some y5 else some false)) fun z3=>Option.bind ((if z3 then Option.bind (g_1n.f pA 39) fun y9=>some (decide (y9<0)) else some false)) fun z7=>some z7
theorem g_19.ok {pA:List UInt8} {F:FZ} {r:Bool} (h:g_19.f pA=some r) :
    Cl EV 51 [aa pA] [] F (fun v S' F'=>F=F'∧v= .bool r∧S'= []):=by
 refine Cl.of Tryz.func51 rfl (fun _ _=>rfl) (by kernel_rfl) fun s L nx0 hS=>?_
 unfold g_19.f at h
 refine WW.seq (WW.region ?_)
 refine sg0 hS 1 [] [2] [.bool false] [] (by kernel_rfl) fun s hS=>(KW.nil ?_)
 refine WW.seq (WW.region ?_)
 obtain⟨y1,hy1,h⟩:=bind_some h
 refine cR (g_1l.ok hy1) hS 2 5 0 rfl (by kernel_rfl) fun s hS=>(sg0 hS 1 [] [6] [.bool y1] [] (by kernel_rfl) fun s hS=>?_)
 obtain⟨z3,hz3,h⟩:=bind_some h
 refine aH 3 (fun s=>Stt EV s [(9,.bool z3),(0,aa pA),(2,.bool false)] [] F L F nx0) ?_ fun s hS=>?_
 refine bc hz3 (fun hc4 hz3=>?_) fun hc4 hz3=>?_
 replace hS:=hS.kb 5 hc4 rfl
 replace hS:=hS.kb 6 hc4 rfl
 refine sg0 hS 1 [] [7] [aa pA] [] (by kernel_rfl) fun s hS=>?_
 obtain⟨y5,hy5,hz3⟩:=bind_some hz3
 refine bE hS (wt hS rfl rfl rfl rfl) (vs:=[aa pA,vB 33]) (ws:=[aa pA,vB 33]) rfl rfl rfl rfl rfl 0 rfl (g_1b.ok hy5) fun s v S' F' hp6 hF hS=>?_
 obtain⟨rfl,rfl,rfl⟩:=hp6
 refine sg0 hS 1 [] [9] [.bool y5] [] (by kernel_rfl) fun s hS=>(KW.nil ?_)
 obtain rfl:=Option.some.inj hz3
 exact hS.subR rfl
 replace hS:=hS.kb 5 hc4 rfl
 replace hS:=hS.kb 6 hc4 rfl
 refine sg0 hS 3 [] [9] [.bool false] [] (by kernel_rfl) fun s hS=>(KW.nil ?_)
 obtain rfl:=Option.some.inj hz3
 exact hS.subR rfl
 refine sg0 hS 1 [] [10] [.bool z3] [] (by kernel_rfl) fun s hS=>?_
 obtain⟨z7,hz7,h⟩:=bind_some h
 refine aH 4 (fun s=>Stt EV s [(14,.bool z7),(2,.bool false)] [] F L F nx0) ?_ fun s hS=>?_
 refine bc hz7 (fun hc8 hz7=>?_) fun hc8 hz7=>?_
 replace hS:=hS.kb 9 hc8 rfl
 replace hS:=hS.kb 10 hc8 rfl
 refine sg0 hS 1 [] [11] [aa pA] [] (by kernel_rfl) fun s hS=>?_
 obtain⟨y9,hy9,hz7⟩:=bind_some hz7
 refine bE hS (wt hS rfl rfl rfl rfl) (vs:=[aa pA,vB 39]) (ws:=[aa pA,vB 39]) rfl rfl rfl rfl rfl 0 rfl (g_1n.ok hy9) fun s v S' F' hp10 hF hS=>?_
 obtain⟨rfl,rfl,rfl⟩:=hp10
 refine sg0 hS 2 [] [14] [.bool (decide (y9<0))] [] (by kernel_rfl) fun s hS=>(KW.nil ?_)
 obtain rfl:=Option.some.inj hz7
 exact hS.subR rfl
 replace hS:=hS.kb 9 hc8 rfl
 replace hS:=hS.kb 10 hc8 rfl
 refine sg0 hS 4 [] [14] [.bool false] [] (by kernel_rfl) fun s hS=>(KW.nil ?_)
 obtain rfl:=Option.some.inj hz7
 exact hS.subR rfl
 refine sg0 hS 1 [] [2] [.bool z7] [] (by kernel_rfl) fun s hS=>(KW.nil ?_)
 refine WW.ret ?_
 cases h
 exact aS hS (.inr rfl) 2 rfl rfl ⟨rfl,rfl,rfl⟩
noncomputable def g_1k.f (pA:Bool) (pB:Int):Option (Int) :=
  (if pA then some 0 else some pB)
theorem g_1k.ok {pA:Bool} {pB:Int} {F:FZ} {r:Int} (h:g_1k.f pA pB=some r) :
    Cl EV 50 [.bool pA,.int .i64 pB] [] F (fun v S' F'=>F=F'∧v= .int .i64 r∧S'= []):=by
 refine Cl.of Tryz.func50 rfl (fun _ _=>rfl) (by kernel_rfl) fun s L nx0 hS=>?_
 unfold g_1k.f at h
 refine WW.seq (WW.region ?_)
 refine sg0 hS 1 [] [4] [.int .i64 0] [] (by kernel_rfl) fun s hS=>(KW.nil ?_)
 refine WW.seq (WW.seq ?_)
 refine WW.region (sg0 hS 1 [] [5] [.bool pA] [] (by kernel_rfl) fun s hS=>?_)
 refine KW.nil (bc h (fun hc1 h=>?_) fun hc1 h=>?_)
 refine WW.condK hS rfl hc1 (WW.seq ?_)
 refine WW.region (sg0 hS 1 [] [4] [.int .i64 0] [] (by kernel_rfl) fun s hS=>?_)
 refine KW.nil (WW.ret ?_)
 cases h
 exact aS hS (.inr rfl) 4 rfl rfl ⟨rfl,rfl,rfl⟩
 refine WW.condF hS rfl hc1 (WW.skip ?_)
 refine WW.seq (WW.region ?_)
 refine sg0 hS 2 [] [4] [.int .i64 pB] [] (by kernel_rfl) fun s hS=>(KW.nil ?_)
 refine WW.ret ?_
 cases h
 exact aS hS (.inr rfl) 4 rfl rfl ⟨rfl,rfl,rfl⟩
noncomputable def g_t.b0 (pA:List Int) (x1:Int):Option ((Int)⊕((Int)⊕(Int))) :=
  (if(decide (x1<(pA.length:Int))) then(if 0≤x1∧x1<(pA.length:Int) then(if((gt pA x1) != 0) then some (.inr (.inr (gt pA x1))) else some (.inl (w64 (x1+1)))) else none) else some (.inr (.inl x1)))
noncomputable def g_t.f (pA:List Int):Option (Int) :=
  Option.bind (iter (g_t.b0 pA) 0) fun o2=>bj o2 fun y16=>some 0
theorem g_t.ok {aC:Option Addr} {zD:Nat} {pA:List Int} {F:FZ} {r:Int} (h:g_t.f pA=some r) (hE:Frz (elI .i64 24) F aC zD pA) :
    Cl EV 49 [.slice aC pA.length zD] [] F (fun v S' F'=>F=F'∧v= .int .i64 r∧S'= []):=by
 refine Cl.of Tryz.func49 rfl (fun _ _=>rfl) (by kernel_rfl) fun s L nx0 hS=>?_
 unfold g_t.f at h
 refine WW.seq (WW.region ?_)
 refine sg0 hS 1 [] [2] [.int .i64 0] [] (by kernel_rfl) fun s hS=>(KW.nil ?_)
 refine WW.seq (WW.seq ?_)
 refine WW.region (sg0 hS 3 [] [5,6,7] [.slice aC pA.length zD,.int .i64 (pA.length:Int),.int .i64 0] [] (by kernel_rfl) fun s hS=>?_)
 refine KW.nil (WW.block ?_)
 obtain⟨o2,ho2,h⟩:=bind_some h
 refine WW.loop (LW.iterS ho2 (fun(x1:Int) s=>Stt EV s [(2,.int .i64 0),(5,.slice aC pA.length zD),(6,.int .i64 (pA.length:Int)),(7,.int .i64 x1)] [] F L F nx0) 0 (fun r=>dq EV Tryz.f49 L F nx0 (fun v S' F'=>F=F'∧v= .int .i64 r∧S'= [])) (hS.subR rfl) ?_ ?_)
 clear hS
 rintro x1 s hS o2' h4
 unfold g_t.b0 at h4
 refine WW.seq (WW.region ?_)
 refine sg0 hS 1 [] [8] [.bool (decide (x1<(pA.length:Int)))] [] (by kernel_rfl) fun s hS=>(KW.nil ?_)
 refine WW.seq (bc h4 (fun hc5 h4=>?_) fun hc5 h4=>?_)
 refine WW.condK hS rfl hc5 (WW.skip ?_)
 refine WW.seq (WW.block ?_)
 refine WW.seq (WW.region ?_)
 obtain⟨hk6,h4⟩:=ac h4
 obtain⟨i12,of13,rfl⟩:=Frz.addr hE (by omega)
 obtain⟨_,_,_,_,c7,hF14,hR8,hN9,hN10,hT11⟩:=Frz.at hE hk6 (m:=1) rfl
 obtain rfl:=hR8
 refine am hS (wn rfl) rfl rfl rfl (v:= .pointer (some ⟨i12,of13+(x1).toNat*1,none⟩)) (aW (hS.lk rfl) (hS.lk rfl) te133 hk6) fun s hS=>(gG hS (wn rfl) rfl rfl rfl (hS.fat hF14) tg24 (v:= .int .i64 (gt pA x1)) hN9 fun s hS=>?_)
 refine sg0 hS 1 [] [4] [.int .i64 (gt pA x1)] [] (by kernel_rfl) fun s hS=>(KW.nil ?_)
 refine WW.seq (WW.region ?_)
 refine sg0 hS 2 [] [12] [.bool ((gt pA x1) != 0)] [] (by kernel_rfl) fun s hS=>(KW.nil ?_)
 refine bc h4 (fun hc15 h4=>?_) fun hc15 h4=>?_
 refine WW.condK hS rfl hc15 (WW.seq ?_)
 refine WW.region (sg0 hS 2 [] [2] [.int .i64 (gt pA x1)] [] (by kernel_rfl) fun s hS=>?_)
 refine KW.nil (WW.ret ?_)
 cases h4
 exact⟨_,rfl,rfl,aS hS (.inr rfl) 2 rfl rfl ⟨rfl,rfl,rfl⟩⟩
 refine WW.condF hS rfl hc15 (WW.skip ?_)
 refine WW.region (sg0 hS 2 [] [7] [.int .i64 (w64 (x1+1))] [] (by kernel_rfl) fun s hS=>?_)
 refine KW.nil ?_
 obtain rfl:=Option.some.inj h4
 exact⟨_,rfl,(hS.subR rfl)⟩
 refine WW.condF hS rfl hc5 (WW.exit ?_)
 refine af ?_
 obtain rfl:=Option.some.inj h4
 exact⟨_,rfl,rfl,(hS.subR rfl)⟩
 clear hS
 rcases o2 with y16 | y16
 rintro e s ⟨rfl,hS⟩
 replace h:=aB h
 refine ah (WW.seq ?_)
 refine WW.region (sg0 hS 1 [] [2] [.int .i64 0] [] (by kernel_rfl) fun s hS=>?_)
 refine KW.nil (WW.ret ?_)
 cases h
 exact aS hS (.inr rfl) 2 rfl rfl ⟨rfl,rfl,rfl⟩
 rintro e s ⟨rfl,hfin⟩
 replace h:=aj h
 obtain rfl:=Option.some.inj h
 exact hfin
noncomputable def g_p.b0 (pC:List (List UInt8)) (z16:Int) (x18:Int):Option ((Int)⊕((Int)⊕(Int×Int))) :=
  (if(decide (x18<(pC.length:Int))) then(if 0≤x18∧x18<(pC.length:Int) then Option.bind (g_1k.f (decide (((gt pC x18).length:Int)≤z16)) 8) fun y36=>Option.bind (g_1b.f (gt pC x18) 32) fun y38=>Option.bind (g_1k.f y38 3) fun y40=>Option.bind (g_t.f ([y36,y40]:List Int)) fun y47=>(if(y47 != 0) then some (.inr (.inr (x18,y47))) else some (.inl (w64 (x18+1)))) else none) else some (.inr (.inl x18)))
noncomputable def g_p.f (pA:List UInt8) (pB:Bool) (pC:List (List UInt8)):Option (Int×Int) :=
  Option.bind (g_19.f pA) fun y2=>Option.bind (g_1k.f y2 4) fun y4=>Option.bind (g_1k.f (decide ((pC.length:Int)≤400)) 8) fun y6=>Option.bind (g_t.f ([y4,y6]:List Int)) fun y13=>(if(y13 != 0) then some (0,y13) else Option.bind ((if pB then some 132 else some 80)) fun z16=>Option.bind (iter (g_p.b0 pC z16) 0) fun o21=>bj o21 fun y50=>some (0,0))
theorem g_p.ok {aE:Option Addr} {zH:Nat} {pA:List UInt8} {pB:Bool} {pC:List (List UInt8)} {F:FZ} {r:Int×Int} (h:g_p.f pA pB pC=some r) (hI:Frz (elS 9) F aE zH pC) :
    Cl EV 22 [.agg #[aa pA,.bool pB,.slice aE pC.length zH]] [] F (fun v S' F'=>FLe F F'∧v= .tuple #[.int .i64 r.1,.int .i64 r.2]∧S'= []):=by
 refine Cl.of Tryz.func22 rfl (fun _ _=>rfl) (by kernel_rfl) fun s L nx0 hS=>?_
 unfold g_p.f at h
 refine WW.seq (WW.region ?_)
 refine bf hS (wn rfl) rfl rfl rfl (v:=fun i=> .pointer (some ⟨i,0,none⟩)) (b:= .row [aa pA,.bool pB,.slice aE pC.length zH] 38 0 true) (br (hS.lk rfl) rfl [aa pA,.bool pB,.slice aE pC.length zH] rfl) fun s i1 hS=>(sg0 hS 2 [] [2,3] [.int .i64 0,.int .i64 0] [] (by kernel_rfl) fun s hS=>?_)
 refine KW.nil (WW.seq ?_)
 refine WW.seq (WW.regionD (i:=[[],[],[],[],[3,2,1,0],[3,2,1,0],[3,2,1,0],[3,2,1,0],[],[],[],[]]) (by kernel_rfl) ?_)
 have hq:=RS.start [i1]
 refine kg hS hq 1 [9] [.pointer (some ⟨i1,0,none⟩)] (by kernel_rfl) fun s rs hS hq=>(K.ld hS hq rfl (wn rfl) rfl rfl rfl (hS.at (k:=0) rfl) tg9 (v:=aa pA) rfl 0 rfl rfl fun s rs hS hq=>?_)
 obtain⟨y2,hy2,h⟩:=bind_some h
 refine K.cl hS hq rfl (wn rfl) (vs:=[aa pA]) (ws:=[aa pA]) rfl rfl rfl rfl rfl 0 rfl (g_19.ok hy2)  [0] rfl rfl (aZ rfl mm0 bv) fun s rs v S' F' hp3 hF hS hq=>?_
 obtain⟨rfl,rfl,rfl⟩:=hp3
 obtain⟨y4,hy4,h⟩:=bind_some h
 refine K.cl hS hq rfl (wn rfl) (vs:=[.bool y2,.int .i64 4]) (ws:=[.bool y2,.int .i64 4]) rfl rfl rfl rfl rfl 0 rfl (g_1k.ok hy4)  [0] rfl rfl (aZ rfl mm0 bv) fun s rs v S' F' hp5 hF hS hq=>?_
 obtain⟨rfl,rfl,rfl⟩:=hp5
 refine kg hS hq 1 [13] [.pointer (some ⟨i1,2,none⟩)] (by kernel_rfl) fun s rs hS hq=>(K.ld hS hq rfl (wn rfl) rfl rfl rfl (hS.at (k:=0) rfl) nV (v:= .slice aE pC.length zH) rfl 0 rfl rfl fun s rs hS hq=>?_)
 refine kg hS hq 2 [16] [.bool (decide ((pC.length:Int)≤400))] (by kernel_rfl) fun s rs hS hq=>?_
 obtain⟨y6,hy6,h⟩:=bind_some h
 refine K.cl hS hq rfl (wn rfl) (vs:=[.bool (decide ((pC.length:Int)≤400)),.int .i64 8]) (ws:=[.bool (decide ((pC.length:Int)≤400)),.int .i64 8]) rfl rfl rfl rfl rfl 0 rfl (g_1k.ok hy6)  [0] rfl rfl (aZ rfl mm0 bv) fun s rs v S' F' hp7 hF hS hq=>?_
 obtain⟨rfl,rfl,rfl⟩:=hp7
 refine K.nw hS hq rfl (wn rfl) rfl rfl rfl (v:=fun i=> .slice (some ⟨i,0,none⟩) 2 1) (b:= .row [.int .i64 y4,.int .i64 y6] 24 1 true) (be r8 tz24 rV rfl [(0,.int .i64 y4),(1,.int .i64 y6)] (ar hS rfl) rfl) [0] (aZ rfl mm0 bv) rfl rfl rfl fun s rs i8 hS hq=>?_
 have hC9:au (elI .i64 24) F ([y4,y6]:List Int) [.int .i64 y4,.int .i64 y6]:=⟨[.int .i64 y4],[.int .i64 y6],rfl,rfl,⟨[.int .i64 y6],[],rfl,rfl,rfl⟩⟩
 obtain⟨F10,hF11,hS,hz12⟩:=hS.frzO (Own.blk0 hC9)
 obtain⟨y13,hy13,h⟩:=bind_some h
 refine K.cl hS hq rfl (wn rfl) (vs:=[.slice (some ⟨i8,0,none⟩) ([y4,y6]:List Int).length 1]) (ws:=[.slice (some ⟨i8,0,none⟩) ([y4,y6]:List Int).length 1]) rfl rfl rfl rfl rfl 0 rfl (g_t.ok hy13 hz12)  [0] rfl rfl (aZ rfl mm0 bv) fun s rs v S' F' hp14 hF hS hq=>?_
 obtain⟨rfl,rfl,rfl⟩:=hp14
 refine kg hS hq 1 [4] [.int .i64 y13] (by kernel_rfl) fun s rs hS hq=>(KW.nil ?_)
 refine WW.seq (WW.region ?_)
 refine sg0 hS 2 [] [21] [.bool (y13 != 0)] [] (by kernel_rfl) fun s hS=>(KW.nil ?_)
 refine bc h (fun hc15 h=>?_) fun hc15 h=>?_
 refine WW.condK hS rfl hc15 (WW.seq ?_)
 refine WW.region (sg0 hS 3 [] [2,3] [.int .i64 0,.int .i64 y13] [] (by kernel_rfl) fun s hS=>?_)
 refine KW.nil (WW.ret ?_)
 replace hS:=hS.drop
 cases h
 exact eB hS (.inr rfl) 2 3 rfl rfl rfl ⟨(hF11),rfl,rfl⟩
 refine WW.condF hS rfl hc15 (WW.skip ?_)
 refine WW.seq (WW.region ?_)
 refine sg0 hS 1 [] [5] [.int .i64 80] [] (by kernel_rfl) fun s hS=>(KW.nil ?_)
 obtain⟨z16,hz16,h⟩:=bind_some h
 refine WW.seqJ (fun s=>Stt EV s [(1,.pointer (some ⟨i1,0,none⟩)),(2,.int .i64 0),(3,.int .i64 0),(5,.int .i64 z16)] [[(i1,.row [aa pA,.bool pB,.slice aE pC.length zH] 38 0 true)]] F10 L F nx0) ?_ ?_
 refine WW.seq (WW.region ?_)
 refine sg0 hS 2 [0] [24] [.bool pB] [i1] (by kernel_rfl) fun s hS=>(KW.nil ?_)
 refine bc hz16 (fun hc17 hz16=>?_) fun hc17 hz16=>?_
 refine WW.condK hS rfl hc17 (WW.region ?_)
 refine sg0 hS 1 [] [5] [.int .i64 132] [] (by kernel_rfl) fun s hS=>(KW.nil ?_)
 obtain rfl:=Option.some.inj hz16
 exact(hS.subR rfl)
 refine WW.condF hS rfl hc17 (WW.skip ?_)
 obtain rfl:=Option.some.inj hz16
 exact(hS.subR rfl)
 rintro s hS
 refine WW.seq (WW.seq ?_)
 refine WW.region (sg0 hS 4 [0] [26,27,28] [.slice aE pC.length zH,.int .i64 (pC.length:Int),.int .i64 0] [i1] (by kernel_rfl) fun s hS=>?_)
 refine KW.nil (WW.block ?_)
 obtain⟨o21,ho21,h⟩:=bind_some h
 refine WW.loop (LW.iterS ho21 (fun(x18:Int) s=> ∃(F19:FZ),Stt EV s [(2,.int .i64 0),(3,.int .i64 0),(5,.int .i64 z16),(26,.slice aE pC.length zH),(27,.int .i64 (pC.length:Int)),(28,.int .i64 x18)] [[(i1,.row [aa pA,.bool pB,.slice aE pC.length zH] 38 0 true)]] F19 L F nx0∧FLe F10 F19) 0 (fun r=>dq EV Tryz.f22 L F nx0 (fun v S' F'=>FLe F F'∧v= .tuple #[.int .i64 r.1,.int .i64 r.2]∧S'= [])) ⟨_,(hS.subR rfl),(FLe.refl _)⟩ ?_ ?_)
 clear hS
 rintro x18 s ⟨F19,hS,hF20⟩ o21' h25
 unfold g_p.b0 at h25
 refine WW.seq (WW.region ?_)
 refine sg0 hS 1 [] [29] [.bool (decide (x18<(pC.length:Int)))] [] (by kernel_rfl) fun s hS=>(KW.nil ?_)
 refine WW.seq (bc h25 (fun hc26 h25=>?_) fun hc26 h25=>?_)
 refine WW.condK hS rfl hc26 (WW.skip ?_)
 refine WW.seq (WW.block ?_)
 refine WW.seq (WW.region ?_)
 refine sg0 hS 1 [] [30] [.int .i64 x18] [] (by kernel_rfl) fun s hS=>?_
 obtain⟨hk27,h25⟩:=ac h25
 obtain⟨i33,of34,rfl⟩:=Frz.addr hI (by omega)
 obtain⟨_,_,_,_,c28,hF35,hR29,hN30,hN31,hT32⟩:=Frz.at (hI.mono (FLe.trans hF11 hF20)) hk27 (m:=1) rfl
 obtain rfl:=hR29
 refine am hS (wn rfl) rfl rfl rfl (v:= .pointer (some ⟨i33,of34+(x18).toNat*1,none⟩)) (aW (hS.lk rfl) (hS.lk rfl) ie hk27) fun s hS=>(gG hS (wn rfl) rfl rfl rfl (hS.fat hF35) tg9 (v:=aa (gt pC x18)) hN30 fun s hS=>?_)
 refine sg0 hS 2 [] [6,7] [.int .i64 x18,aa (gt pC x18)] [] (by kernel_rfl) fun s hS=>(KW.nil ?_)
 refine WW.seq (WW.region ?_)
 obtain⟨y36,hy36,h25⟩:=bind_some h25
 refine cR (g_1k.ok hy36) hS 4 37 0 rfl (by kernel_rfl) fun s hS=>?_
 obtain⟨y38,hy38,h25⟩:=bind_some h25
 refine cR (g_1b.ok hy38) hS 1 39 0 rfl (by kernel_rfl) fun s hS=>?_
 obtain⟨y40,hy40,h25⟩:=bind_some h25
 refine cR (g_1k.ok hy40) hS 0 40 0 rfl (by kernel_rfl) fun s hS=>(bf hS (wn rfl) rfl rfl rfl (v:=fun i=> .slice (some ⟨i,0,none⟩) 2 1) (b:= .row [.int .i64 y36,.int .i64 y40] 24 1 true) (be r8 tz24 rV rfl [(0,.int .i64 y36),(1,.int .i64 y40)] (ar hS rfl) rfl) fun s i42 hS=>?_)
 have hC43:au (elI .i64 24) F19 ([y36,y40]:List Int) [.int .i64 y36,.int .i64 y40]:=⟨[.int .i64 y36],[.int .i64 y40],rfl,rfl,⟨[.int .i64 y40],[],rfl,rfl,rfl⟩⟩
 obtain⟨F44,hF45,hS,hz46⟩:=hS.frzO (Own.blk0 hC43)
 obtain⟨y47,hy47,h25⟩:=bind_some h25
 refine cR (g_t.ok hy47 hz46) hS 0 42 0 rfl (by kernel_rfl) fun s hS=>(sg0 hS 1 [] [8] [.int .i64 y47] [] (by kernel_rfl) fun s hS=>?_)
 refine KW.nil (WW.seq ?_)
 refine WW.region (sg0 hS 2 [] [44] [.bool (y47 != 0)] [] (by kernel_rfl) fun s hS=>?_)
 refine KW.nil (bc h25 (fun hc49 h25=>?_) fun hc49 h25=>?_)
 refine WW.condK hS rfl hc49 (WW.seq ?_)
 refine WW.region (sg0 hS 4 [] [2,3] [.int .i64 x18,.int .i64 y47] [] (by kernel_rfl) fun s hS=>?_)
 refine KW.nil (WW.ret ?_)
 replace hS:=hS.drop
 cases h25
 exact⟨_,rfl,rfl,eB hS (.inr rfl) 2 3 rfl rfl rfl ⟨((FLe.trans hF11 (FLe.trans hF20 hF45))),rfl,rfl⟩⟩
 refine WW.condF hS rfl hc49 (WW.skip ?_)
 refine WW.region (sg0 hS 2 [] [28] [.int .i64 (w64 (x18+1))] [] (by kernel_rfl) fun s hS=>?_)
 refine KW.nil ?_
 obtain rfl:=Option.some.inj h25
 exact⟨_,rfl,_,(hS.subR rfl),(FLe.trans hF20 hF45)⟩
 refine WW.condF hS rfl hc26 (WW.exit ?_)
 refine af ?_
 obtain rfl:=Option.some.inj h25
 exact⟨_,rfl,rfl,_,(hS.subR rfl),hF20⟩
 clear hS
 rcases o21 with y50 | y50
 rintro e s ⟨rfl,F51,hS,hF52⟩
 replace h:=aB h
 refine ah (WW.seq ?_)
 refine WW.region (sg0 hS 2 [] [2,3] [.int .i64 0,.int .i64 0] [] (by kernel_rfl) fun s hS=>?_)
 refine KW.nil (WW.ret ?_)
 replace hS:=hS.drop
 cases h
 exact eB hS (.inr rfl) 2 3 rfl rfl rfl ⟨((FLe.trans hF11 hF52)),rfl,rfl⟩
 rintro e s ⟨rfl,hfin⟩
 replace h:=aj h
 obtain rfl:=Option.some.inj h
 exact hfin
noncomputable def g_1t.b0 (pB:UInt8) (x1:List UInt8):Option ((List UInt8)⊕(List UInt8)) :=
  Option.bind ((if(decide ((x1.length:Int)>0)) then(if 0≤(0:Int)∧(0:Int)<(x1.length:Int) then some (((gt x1 (0:Int)).toNat:Int)==(pB.toNat:Int)) else none) else some false)) fun z5=>(if z5 then(if 0≤(1:Int)∧(1:Int)≤(x1.length:Int)∧(x1.length:Int)≤(x1.length:Int) then some (.inl (mid x1 (1:Int) (x1.length:Int))) else none) else some (.inr x1))
noncomputable def g_1t.f (pA:List UInt8) (pB:UInt8):Option (List UInt8) :=
  Option.bind (iter (g_1t.b0 pB) pA) fun o2=>some o2
theorem g_1t.ok {pA:List UInt8} {pB:UInt8} {F:FZ} {r:List UInt8} (h:g_1t.f pA pB=some r) :
    Cl EV 103 [aa pA,vB pB] [] F (fun v S' F'=>F=F'∧v=aa r∧S'= []):=by
 refine Cl.of Tryz.func103 rfl (fun _ _=>rfl) (by kernel_rfl) fun s L nx0 hS=>?_
 unfold g_1t.f at h
 refine WW.seq (WW.region ?_)
 refine sg0 hS 1 [] [4] [aa ([])] [] (by kernel_rfl) fun s hS=>(KW.nil ?_)
 refine WW.seq (WW.block ?_)
 obtain⟨o2,ho2,h⟩:=bind_some h
 refine WW.loop (LW.iterE ho2 (fun(x1:List UInt8) s=>Stt EV s [(0,aa x1),(1,vB pB),(4,aa ([]))] [] F L F nx0) 0 (hS.subR rfl) ?_ ?_)
 clear hS
 rintro x1 s hS o2' h4
 unfold g_1t.b0 at h4
 refine WW.seq (WW.seq ?_)
 refine WW.region (sg0 hS 4 [] [8] [.bool (decide ((x1.length:Int)>0))] [] (by kernel_rfl) fun s hS=>?_)
 obtain⟨z5,hz5,h4⟩:=bind_some h4
 refine aH 5 (fun s=>Stt EV s [(13,.bool z5),(0,aa x1),(1,vB pB),(4,aa ([]))] [] F L F nx0) ?_ fun s hS=>?_
 refine bc hz5 (fun hc6 hz5=>?_) fun hc6 hz5=>?_
 replace hS:=hS.kb 8 hc6 rfl
 refine sg0 hS 1 [] [9] [aa x1] [] (by kernel_rfl) fun s hS=>?_
 obtain⟨hk7,hz5⟩:=ac hz5
 refine am hS (wt hS rfl rfl rfl rfl) rfl rfl rfl (v:=vB (gt x1 (0:Int))) (aA tu9 (hS.lk rfl) (hS.lk rfl) hk7) fun s hS=>(sg0 hS 3 [] [13] [.bool (((gt x1 (0:Int)).toNat:Int)==(pB.toNat:Int))] [] (by kernel_rfl) fun s hS=>?_)
 refine KW.nil ?_
 obtain rfl:=Option.some.inj hz5
 exact hS.subR rfl
 replace hS:=hS.kb 8 hc6 rfl
 refine sg0 hS 5 [] [13] [.bool false] [] (by kernel_rfl) fun s hS=>(KW.nil ?_)
 obtain rfl:=Option.some.inj hz5
 exact hS.subR rfl
 refine KW.nil (bc h4 (fun hc8 h4=>?_) fun hc8 h4=>?_)
 refine WW.condK hS rfl hc8 (WW.skip ?_)
 refine WW.block (WW.region ?_)
 refine sg0 hS 1 [] [14] [aa x1] [] (by kernel_rfl) fun s hS=>?_
 obtain⟨hk9,h4⟩:=ac h4
 refine am hS (wn rfl) rfl rfl rfl (v:=aa (mid x1 (1:Int) (x1.length:Int))) (cu tu9 (hS.lk rfl) (i:=(1:Int)) (j:=(x1.length:Int)) (bu hS rfl) rfl hk9) fun s hS=>(sg0 hS 1 [] [0] [aa (mid x1 (1:Int) (x1.length:Int))] [] (by kernel_rfl) fun s hS=>?_)
 refine KW.nil ?_
 obtain rfl:=Option.some.inj h4
 exact⟨_,rfl,(hS.subR rfl)⟩
 refine WW.condF hS rfl hc8 (WW.exit ?_)
 refine af ?_
 obtain rfl:=Option.some.inj h4
 exact⟨_,rfl,rfl,(hS.subR rfl)⟩
 clear hS
 rintro e s ⟨rfl,hS⟩
 refine ah (WW.seq ?_)
 refine WW.region (sg0 hS 2 [] [4] [aa o2] [] (by kernel_rfl) fun s hS=>?_)
 refine KW.nil (WW.ret ?_)
 cases h
 exact aS hS (.inr rfl) 4 rfl rfl ⟨rfl,rfl,rfl⟩
noncomputable def g_1q.f (pA:List UInt8) (pB:List UInt8):Option (List UInt8) :=
  (if((decide (pA= []))||(decide (pB= []))) then some pA else Option.bind ((if((pB.length:Int)==1) then(if 0≤(0:Int)∧(0:Int)<(pB.length:Int) then some (decide (((gt pB (0:Int)).toNat:Int)<((128:UInt8).toNat:Int))) else none) else some false)) fun z2=>(if z2 then(if 0≤(0:Int)∧(0:Int)<(pB.length:Int) then Option.bind (g_1t.f pA (gt pB (0:Int))) fun y7=>some y7 else none) else none))
theorem g_1q.ok {pA:List UInt8} {pB:List UInt8} {F:FZ} {r:List UInt8} (h:g_1q.f pA pB=some r) :
    Cl EV 69 [aa pA,aa pB] [] F (fun v S' F'=>F=F'∧v=aa r∧S'= []):=by
 refine Cl.of Tryz.func69 rfl (fun _ _=>rfl) (by kernel_rfl) fun s L nx0 hS=>?_
 unfold g_1q.f at h
 refine WW.seq (WW.region ?_)
 refine sg0 hS 1 [] [4] [aa ([])] [] (by kernel_rfl) fun s hS=>(KW.nil ?_)
 refine WW.seq (WW.seq ?_)
 refine WW.region (sg0 hS 1 [] [7] [aa pA] [] (by kernel_rfl) fun s hS=>?_)
 refine am hS (wn rfl) rfl rfl rfl (v:= .bool (decide (pA= []))) (fk (hS.lk rfl) (hS.lk rfl)) fun s hS=>(sg0 hS 1 [] [9] [.bool (decide (pA= []))] [] (by kernel_rfl) fun s hS=>?_)
 refine aH 3 (fun s=>Stt EV s [(12,.bool ((decide (pA= []))||(decide (pB= [])))),(0,aa pA),(1,aa pB),(4,aa ([]))] [] F L F nx0) ?_ fun s hS=>?_
 rcases ax ((decide (pA= []))) with hcj | hcj
 replace hS:=hS.know (t:=8) rfl (congrArg Value.bool hcj)
 replace hS:=hS.know (t:=9) rfl (congrArg Value.bool hcj)
 refine sg0 hS 3 [] [12] [.bool true] [] (by kernel_rfl) fun s hS=>(KW.nil ?_)
 exact(hS.know (t:=12) (u':= .bool ((decide (pA= []))||(decide (pB= [])))) rfl (cB hcj)).subR rfl
 replace hS:=hS.know (t:=8) rfl (congrArg Value.bool hcj)
 replace hS:=hS.know (t:=9) rfl (congrArg Value.bool hcj)
 refine sg0 hS 1 [] [10] [aa pB] [] (by kernel_rfl) fun s hS=>(am hS (wt hS rfl rfl rfl rfl) rfl rfl rfl (v:= .bool (decide (pB= []))) (fk (hS.lk rfl) (hS.lk rfl)) fun s hS=>?_)
 refine sg0 hS 1 [] [12] [.bool (decide (pB= []))] [] (by kernel_rfl) fun s hS=>(KW.nil ?_)
 exact(hS.know (t:=12) (u':= .bool ((decide (pA= []))||(decide (pB= [])))) rfl (cC hcj)).subR rfl
 refine KW.nil (bc h (fun hc1 h=>?_) fun hc1 h=>?_)
 refine WW.condK hS rfl hc1 (WW.seq ?_)
 refine WW.region (sg0 hS 2 [] [4] [aa pA] [] (by kernel_rfl) fun s hS=>?_)
 refine KW.nil (WW.ret ?_)
 cases h
 exact aS hS (.inr rfl) 4 rfl rfl ⟨rfl,rfl,rfl⟩
 refine WW.condF hS rfl hc1 (WW.skip ?_)
 refine WW.seq (WW.seq ?_)
 refine WW.region (sg0 hS 4 [] [17] [.bool ((pB.length:Int)==1)] [] (by kernel_rfl) fun s hS=>?_)
 obtain⟨z2,hz2,h⟩:=bind_some h
 refine aH 4 (fun s=>Stt EV s [(21,.bool z2),(0,aa pA),(1,aa pB),(4,aa ([]))] [] F L F nx0) ?_ fun s hS=>?_
 refine bc hz2 (fun hc3 hz2=>?_) fun hc3 hz2=>?_
 replace hS:=hS.kb 17 hc3 rfl
 refine sg0 hS 1 [] [18] [aa pB] [] (by kernel_rfl) fun s hS=>?_
 obtain⟨hk4,hz2⟩:=ac hz2
 refine am hS (wt hS rfl rfl rfl rfl) rfl rfl rfl (v:=vB (gt pB (0:Int))) (aA tu9 (hS.lk rfl) (hS.lk rfl) hk4) fun s hS=>(sg0 hS 2 [] [21] [.bool (decide (((gt pB (0:Int)).toNat:Int)<((128:UInt8).toNat:Int)))] [] (by kernel_rfl) fun s hS=>?_)
 refine KW.nil ?_
 obtain rfl:=Option.some.inj hz2
 exact hS.subR rfl
 replace hS:=hS.kb 17 hc3 rfl
 refine sg0 hS 4 [] [21] [.bool false] [] (by kernel_rfl) fun s hS=>(KW.nil ?_)
 obtain rfl:=Option.some.inj hz2
 exact hS.subR rfl
 refine KW.nil (bc h (fun hc5 h=>?_) fun hc5 h=>?_)
 refine WW.condK hS rfl hc5 (WW.seq ?_)
 refine WW.region (sg0 hS 2 [] [22,23] [aa pA,aa pB] [] (by kernel_rfl) fun s hS=>?_)
 obtain⟨hk6,h⟩:=ac h
 refine am hS (wn rfl) rfl rfl rfl (v:=vB (gt pB (0:Int))) (aA tu9 (hS.lk rfl) (hS.lk rfl) hk6) fun s hS=>?_
 obtain⟨y7,hy7,h⟩:=bind_some h
 refine cR (g_1t.ok hy7) hS 0 25 0 rfl (by kernel_rfl) fun s hS=>(sg0 hS 1 [] [4] [aa y7] [] (by kernel_rfl) fun s hS=>?_)
 refine KW.nil (WW.ret ?_)
 cases h
 exact aS hS (.inr rfl) 4 rfl rfl ⟨rfl,rfl,rfl⟩
 refine WW.condF hS rfl hc5 (WW.skip ?_)
 refine WW.seq (WW.seq ?_)
 refine WW.region ?_
 exact nomatch h
noncomputable def g_z.f (pA:Int):Option (Bool) :=
  some (pA != 32)
theorem g_z.ok {pA:Int} {F:FZ} {r:Bool} (h:g_z.f pA=some r) :
    Cl EV 164 [.int .i32 pA] [] F (fun v S' F'=>F=F'∧v= .bool r∧S'= []):=by
 refine Cl.of Tryz.func164 rfl (fun _ _=>rfl) (by kernel_rfl) fun s L nx0 hS=>?_
 unfold g_z.f at h
 refine WW.seq (WW.region ?_)
 refine sg0 hS 1 [] [2] [.bool false] [] (by kernel_rfl) fun s hS=>(KW.nil ?_)
 refine WW.seq (WW.region ?_)
 refine sg0 hS 3 [] [2] [.bool (pA != 32)] [] (by kernel_rfl) fun s hS=>(KW.nil ?_)
 refine WW.ret ?_
 cases h
 exact aS hS (.inr rfl) 2 rfl rfl ⟨rfl,rfl,rfl⟩
noncomputable def g_1s.b0 (pA:List UInt8) (pB:Bool) (x2:Nat):Option ((Nat)⊕((Nat)⊕(Int))) :=
  (if(decide (x2<pA.length)) then Option.bind (g_z.f ((dec pA x2).1:Int)) fun y7=>(if(y7==pB) then some (.inr (.inr (x2:Int))) else some (.inl (x2+(dec pA x2).2))) else some (.inr (.inl x2)))
noncomputable def g_1s.f (pA:List UInt8) (pB:Bool):Option (Int) :=
  Option.bind (iter (g_1s.b0 pA pB) 0) fun o3=>bj o3 fun y10=>some (-1)
theorem g_1s.ok {pA:List UInt8} {pB:Bool} {F:FZ} {r:Int} (h:g_1s.f pA pB=some r) :
    Cl EV 127 [aa pA,.func (.func 164) #[] #[],.bool pB] [] F (fun v S' F'=>F=F'∧v= .int .i64 r∧S'= []):=by
 refine Cl.of Tryz.func127 rfl (fun _ _=>rfl) (by kernel_rfl) fun s L nx0 hS=>?_
 unfold g_1s.f at h
 refine WW.seq (WW.region ?_)
 refine sg0 hS 1 [] [6] [.int .i64 0] [] (by kernel_rfl) fun s hS=>(KW.nil ?_)
 refine WW.seq (WW.seq ?_)
 refine WW.region (sg0 hS 1 [] [9] [aa pA] [] (by kernel_rfl) fun s hS=>?_)
 refine bf hS (wn rfl) rfl rfl rfl (v:=fun i=> .pointer (some ⟨i,0,none⟩)) (b:= .iter ⟨pA.toArray⟩ 0) (oM tu9 (hS.lk rfl)) fun s i1 hS=>(KW.nil ?_)
 refine WW.block ?_
 obtain⟨o3,ho3,h⟩:=bind_some h
 refine WW.loop (LW.iterS ho3 (fun(x2:Nat) s=>Stt EV s [(1,.func (.func 164) #[] #[]),(2,.bool pB),(6,.int .i64 0),(10,.pointer (some ⟨i1,0,none⟩))] [[(i1,.iter ⟨pA.toArray⟩ x2)]] F L F nx0) 0 (fun r=>dq EV Tryz.f127 L F nx0 (fun v S' F'=>F=F'∧v= .int .i64 r∧S'= [])) (hS.subR rfl) ?_ ?_)
 clear hS
 rintro x2 s hS o3' h5
 unfold g_1s.b0 at h5
 refine WW.seq (WW.region ?_)
 refine bc h5 (fun hc6 h5=>?_) fun hc6 h5=>?_
 refine q_up hS (wn rfl) rfl rfl (lU hS rfl) (p:=0) rfl (oN (hS.lk rfl) (of_decide_eq_true hc6)) fun s hS=>(sg0 hS 1 [] [12] [.bool true] [] (by kernel_rfl) fun s hS=>?_)
 refine KW.nil (WW.seq ?_)
 refine WW.condK hS rfl rfl (WW.skip ?_)
 refine WW.block (WW.seq ?_)
 refine WW.region (sg0 hS 4 [] [7,8] [.int .i64 (x2:Int),.int .i32 ((dec pA x2).1:Int)] [] (by kernel_rfl) fun s hS=>?_)
 refine KW.nil (WW.seq ?_)
 refine WW.region ?_
 obtain⟨y7,hy7,h5⟩:=bind_some h5
 refine cR (g_z.ok hy7) hS 2 17 0 rfl (by kernel_rfl) fun s hS=>(sg0 hS 1 [] [18] [.bool pB] [] (by kernel_rfl) fun s hS=>?_)
 refine am hS (wn rfl) rfl rfl rfl (v:= .bool (y7==pB)) (r7 (hS.lk rfl) (hS.lk rfl)) fun s hS=>(KW.nil ?_)
 refine bc h5 (fun hc9 h5=>?_) fun hc9 h5=>?_
 refine WW.condK hS rfl hc9 (WW.seq ?_)
 refine WW.region (sg0 hS 2 [] [6] [.int .i64 (x2:Int)] [] (by kernel_rfl) fun s hS=>?_)
 refine KW.nil (WW.ret ?_)
 replace hS:=hS.drop
 cases h5
 exact⟨_,rfl,rfl,aS hS (.inr rfl) 6 rfl rfl ⟨rfl,rfl,rfl⟩⟩
 refine WW.condF hS rfl hc9 (WW.skip ?_)
 obtain rfl:=Option.some.inj h5
 exact⟨_,rfl,(hS.subR rfl)⟩
 refine q_rd hS (wn rfl) rfl rfl (lU hS rfl) (hS.at (k:=0) rfl) (oO (hS.lk rfl) (of_decide_eq_false hc6)) fun s hS=>(sg0 hS 1 [] [12] [.bool false] [] (by kernel_rfl) fun s hS=>?_)
 refine KW.nil (WW.seq ?_)
 refine WW.condF hS rfl rfl (WW.exit ?_)
 refine af ?_
 obtain rfl:=Option.some.inj h5
 exact⟨_,rfl,rfl,(hS.subR rfl)⟩
 clear hS
 rcases o3 with y10 | y10
 rintro e s ⟨rfl,hS⟩
 replace h:=aB h
 refine ah (WW.seq ?_)
 refine WW.region (sg0 hS 1 [] [6] [.int .i64 (-1)] [] (by kernel_rfl) fun s hS=>?_)
 refine KW.nil (WW.ret ?_)
 replace hS:=hS.drop
 cases h
 exact aS hS (.inr rfl) 6 rfl rfl ⟨rfl,rfl,rfl⟩
 rintro e s ⟨rfl,hfin⟩
 replace h:=aj h
 obtain rfl:=Option.some.inj h
 exact hfin
noncomputable def g_1p.f (pA:List UInt8):Option (Int) :=
  Option.bind (g_1s.f pA true) fun y1=>some y1
theorem g_1p.ok {pA:List UInt8} {F:FZ} {r:Int} (h:g_1p.f pA=some r) :
    Cl EV 84 [aa pA,.func (.func 164) #[] #[]] [] F (fun v S' F'=>F=F'∧v= .int .i64 r∧S'= []):=by
 refine Cl.of Tryz.func84 rfl (fun _ _=>rfl) (by kernel_rfl) fun s L nx0 hS=>?_
 unfold g_1p.f at h
 refine WW.seq (WW.region ?_)
 refine sg0 hS 1 [] [4] [.int .i64 0] [] (by kernel_rfl) fun s hS=>(KW.nil ?_)
 refine WW.seq (WW.region ?_)
 obtain⟨y1,hy1,h⟩:=bind_some h
 refine cR (g_1s.ok hy1) hS 2 7 0 rfl (by kernel_rfl) fun s hS=>(sg0 hS 1 [] [4] [.int .i64 y1] [] (by kernel_rfl) fun s hS=>?_)
 refine KW.nil (WW.ret ?_)
 cases h
 exact aS hS (.inr rfl) 4 rfl rfl ⟨rfl,rfl,rfl⟩
noncomputable def g_15.f (pAH:Int) (pAI:Int) (pAJ:Int) (pAK:Int) (pAM:Int) (pAN:Int) (pAO:Int):Option (Int×Int×Int×Int×Int) :=
  (if 0≤pAN∧pAN<(5:Int) then(if(decide (pAN=0)) then(if(pAH==0) then(if 0≤pAN∧pAN<(5:Int) then(if(decide (pAN=0)) then some (pAO,pAI,pAJ,pAK,pAM) else(if(decide (pAN=1)) then some (pAH,pAO,pAJ,pAK,pAM) else(if(decide (pAN=2)) then some (pAH,pAI,pAO,pAK,pAM) else(if(decide (pAN=3)) then some (pAH,pAI,pAJ,pAO,pAM) else some (pAH,pAI,pAJ,pAK,pAO))))) else none) else some (pAH,pAI,pAJ,pAK,pAM)) else(if(decide (pAN=1)) then(if(pAI==0) then(if 0≤pAN∧pAN<(5:Int) then(if(decide (pAN=0)) then some (pAO,pAI,pAJ,pAK,pAM) else(if(decide (pAN=1)) then some (pAH,pAO,pAJ,pAK,pAM) else(if(decide (pAN=2)) then some (pAH,pAI,pAO,pAK,pAM) else(if(decide (pAN=3)) then some (pAH,pAI,pAJ,pAO,pAM) else some (pAH,pAI,pAJ,pAK,pAO))))) else none) else some (pAH,pAI,pAJ,pAK,pAM)) else(if(decide (pAN=2)) then(if(pAJ==0) then(if 0≤pAN∧pAN<(5:Int) then(if(decide (pAN=0)) then some (pAO,pAI,pAJ,pAK,pAM) else(if(decide (pAN=1)) then some (pAH,pAO,pAJ,pAK,pAM) else(if(decide (pAN=2)) then some (pAH,pAI,pAO,pAK,pAM) else(if(decide (pAN=3)) then some (pAH,pAI,pAJ,pAO,pAM) else some (pAH,pAI,pAJ,pAK,pAO))))) else none) else some (pAH,pAI,pAJ,pAK,pAM)) else(if(decide (pAN=3)) then(if(pAK==0) then(if 0≤pAN∧pAN<(5:Int) then(if(decide (pAN=0)) then some (pAO,pAI,pAJ,pAK,pAM) else(if(decide (pAN=1)) then some (pAH,pAO,pAJ,pAK,pAM) else(if(decide (pAN=2)) then some (pAH,pAI,pAO,pAK,pAM) else(if(decide (pAN=3)) then some (pAH,pAI,pAJ,pAO,pAM) else some (pAH,pAI,pAJ,pAK,pAO))))) else none) else some (pAH,pAI,pAJ,pAK,pAM)) else(if(pAM==0) then(if 0≤pAN∧pAN<(5:Int) then(if(decide (pAN=0)) then some (pAO,pAI,pAJ,pAK,pAM) else(if(decide (pAN=1)) then some (pAH,pAO,pAJ,pAK,pAM) else(if(decide (pAN=2)) then some (pAH,pAI,pAO,pAK,pAM) else(if(decide (pAN=3)) then some (pAH,pAI,pAJ,pAO,pAM) else some (pAH,pAI,pAJ,pAK,pAO))))) else none) else some (pAH,pAI,pAJ,pAK,pAM)))))) else none)
theorem g_15.ok {iB:Nat} {iC:Nat} {aE:Option Addr} {zH:Nat} {aK:Option Addr} {zM:Nat} {BO:Seg} {aT:Option Addr} {zU:Nat} {BW:Seg} {aY:Option Addr} {zZ:Nat} {BAB:Seg} {pC:List (List UInt8)} {pI:List Int} {pO:List (Int×List UInt8×(List (Int×Int×Int)))} {pW:List (UInt8×Int×Int×Int)} {pAB:UInt8} {pAC:Bool} {pAD:Int} {pAE:Bool} {pAH:Int} {pAI:Int} {pAJ:Int} {pAK:Int} {pAM:Int} {pAN:Int} {pAO:Int} {F:FZ} {r:Int×Int×Int×Int×Int} (h:g_15.f pAH pAI pAJ pAK pAM pAN pAO=some r) :
    Cl EV 148 [.pointer (some ⟨iB,0,none⟩),.int .i64 pAN,.int .i64 pAO] [[(iB,.row [.pointer (some ⟨iC,0,none⟩),.slice aY pW.length zZ,vB pAB,.bool pAC,.int .i64 pAD,.bool pAE,.int .i64 pAH,.int .i64 pAI,.int .i64 pAJ,.int .i64 pAK,.int .i64 pAM] 128 0 true)],[(iC,.row [.slice aE pC.length zH,.slice aK pI.length zM,.slice aT pO.length zU] 95 0 true)],BO,BW,BAB] F (fun v S' F'=>F=F'∧v= .tuple #[]∧S'= [[(iB,.row [.pointer (some ⟨iC,0,none⟩),.slice aY pW.length zZ,vB pAB,.bool pAC,.int .i64 pAD,.bool pAE,.int .i64 r.1,.int .i64 r.2.1,.int .i64 r.2.2.1,.int .i64 r.2.2.2.1,.int .i64 r.2.2.2.2] 128 0 true)],[(iC,.row [.slice aE pC.length zH,.slice aK pI.length zM,.slice aT pO.length zU] 95 0 true)],BO,BW,BAB]):=by
 refine Cl.of Tryz.func148 rfl (fun _ _=>rfl) (by kernel_rfl) fun s L nx0 hS=>?_
 unfold g_15.f at h
 refine WW.seq (WW.region ?_)
 refine sg0 hS 4 [] [7,9] [.int .i64 pAN,.pointer (some ⟨iB,6,none⟩)] [] (by kernel_rfl) fun s hS=>?_
 obtain⟨hk1,h⟩:=ac h
 refine bc h (fun hc2 h=>?_) fun hc2 h=>?_
 refine am hS (wn rfl) rfl rfl rfl (v:= .pointer (some ⟨iB,6,none⟩)) (aV (hS.lk rfl) (hS.lk rfl) bz hk1 (iaV (m:=0) (of_decide_eq_true hc2) rfl)) fun s hS=>(sg0 hS 2 [0] [12] [.bool (pAH==0)] [iB] (by kernel_rfl) fun s hS=>?_)
 refine KW.nil (bc h (fun hc3 h=>?_) fun hc3 h=>?_)
 refine WW.condK hS rfl hc3 (WW.region ?_)
 refine sg0 hS 5 [] [14,15,17] [.int .i64 pAN,.int .i64 pAO,.pointer (some ⟨iB,6,none⟩)] [] (by kernel_rfl) fun s hS=>?_
 obtain⟨hk4,h⟩:=ac h
 refine bc h (fun hc5 h=>?_) fun hc5 h=>?_
 refine am hS (wn rfl) rfl rfl rfl (v:= .pointer (some ⟨iB,6,none⟩)) (aV (hS.lk rfl) (hS.lk rfl) bz hk4 (iaV (m:=0) (of_decide_eq_true hc5) rfl)) fun s hS=>(sg hS 1 [0] [] [] [iB] [[(iB,.row [.pointer (some ⟨iC,0,none⟩),.slice aY pW.length zZ,vB pAB,.bool pAC,.int .i64 pAD,.bool pAE,.int .i64 pAO,.int .i64 pAI,.int .i64 pAJ,.int .i64 pAK,.int .i64 pAM] 128 0 true)],[(iC,.row [.slice aE pC.length zH,.slice aK pI.length zM,.slice aT pO.length zU] 95 0 true)],BO,BW,BAB] (by kernel_rfl) fun s hS=>?_)
 refine KW.nil ?_
 cases h
 exact bW hS (.inl rfl) rfl ⟨rfl,rfl,rfl⟩
 refine bc h (fun hc6 h=>?_) fun hc6 h=>?_
 refine am hS (wn rfl) rfl rfl rfl (v:= .pointer (some ⟨iB,7,none⟩)) (aV (hS.lk rfl) (hS.lk rfl) bz hk4 (iaV (m:=1) (of_decide_eq_true hc6) rfl)) fun s hS=>(sg hS 1 [0] [] [] [iB] [[(iB,.row [.pointer (some ⟨iC,0,none⟩),.slice aY pW.length zZ,vB pAB,.bool pAC,.int .i64 pAD,.bool pAE,.int .i64 pAH,.int .i64 pAO,.int .i64 pAJ,.int .i64 pAK,.int .i64 pAM] 128 0 true)],[(iC,.row [.slice aE pC.length zH,.slice aK pI.length zM,.slice aT pO.length zU] 95 0 true)],BO,BW,BAB] (by kernel_rfl) fun s hS=>?_)
 refine KW.nil ?_
 cases h
 exact bW hS (.inl rfl) rfl ⟨rfl,rfl,rfl⟩
 refine bc h (fun hc7 h=>?_) fun hc7 h=>?_
 refine am hS (wn rfl) rfl rfl rfl (v:= .pointer (some ⟨iB,8,none⟩)) (aV (hS.lk rfl) (hS.lk rfl) bz hk4 (iaV (m:=2) (of_decide_eq_true hc7) rfl)) fun s hS=>(sg hS 1 [0] [] [] [iB] [[(iB,.row [.pointer (some ⟨iC,0,none⟩),.slice aY pW.length zZ,vB pAB,.bool pAC,.int .i64 pAD,.bool pAE,.int .i64 pAH,.int .i64 pAI,.int .i64 pAO,.int .i64 pAK,.int .i64 pAM] 128 0 true)],[(iC,.row [.slice aE pC.length zH,.slice aK pI.length zM,.slice aT pO.length zU] 95 0 true)],BO,BW,BAB] (by kernel_rfl) fun s hS=>?_)
 refine KW.nil ?_
 cases h
 exact bW hS (.inl rfl) rfl ⟨rfl,rfl,rfl⟩
 refine bc h (fun hc8 h=>?_) fun hc8 h=>?_
 refine am hS (wn rfl) rfl rfl rfl (v:= .pointer (some ⟨iB,9,none⟩)) (aV (hS.lk rfl) (hS.lk rfl) bz hk4 (iaV (m:=3) (of_decide_eq_true hc8) rfl)) fun s hS=>(sg hS 1 [0] [] [] [iB] [[(iB,.row [.pointer (some ⟨iC,0,none⟩),.slice aY pW.length zZ,vB pAB,.bool pAC,.int .i64 pAD,.bool pAE,.int .i64 pAH,.int .i64 pAI,.int .i64 pAJ,.int .i64 pAO,.int .i64 pAM] 128 0 true)],[(iC,.row [.slice aE pC.length zH,.slice aK pI.length zM,.slice aT pO.length zU] 95 0 true)],BO,BW,BAB] (by kernel_rfl) fun s hS=>?_)
 refine KW.nil ?_
 cases h
 exact bW hS (.inl rfl) rfl ⟨rfl,rfl,rfl⟩
 have hj9:pAN=(4:Int):=by have q:=hk4; have r0:=of_decide_eq_false hc5; have r1:=of_decide_eq_false hc6; have r2:=of_decide_eq_false hc7; have r3:=of_decide_eq_false hc8; omega
 refine am hS (wn rfl) rfl rfl rfl (v:= .pointer (some ⟨iB,10,none⟩)) (aV (hS.lk rfl) (hS.lk rfl) bz hk4 (iaV (m:=4) hj9 rfl)) fun s hS=>(sg hS 1 [0] [] [] [iB] [[(iB,.row [.pointer (some ⟨iC,0,none⟩),.slice aY pW.length zZ,vB pAB,.bool pAC,.int .i64 pAD,.bool pAE,.int .i64 pAH,.int .i64 pAI,.int .i64 pAJ,.int .i64 pAK,.int .i64 pAO] 128 0 true)],[(iC,.row [.slice aE pC.length zH,.slice aK pI.length zM,.slice aT pO.length zU] 95 0 true)],BO,BW,BAB] (by kernel_rfl) fun s hS=>?_)
 refine KW.nil ?_
 cases h
 exact bW hS (.inl rfl) rfl ⟨rfl,rfl,rfl⟩
 refine WW.condF hS rfl hc3 (WW.skip ?_)
 cases h
 exact bW hS (.inl rfl) rfl ⟨rfl,rfl,rfl⟩
 refine bc h (fun hc10 h=>?_) fun hc10 h=>?_
 refine am hS (wn rfl) rfl rfl rfl (v:= .pointer (some ⟨iB,7,none⟩)) (aV (hS.lk rfl) (hS.lk rfl) bz hk1 (iaV (m:=1) (of_decide_eq_true hc10) rfl)) fun s hS=>(sg0 hS 2 [0] [12] [.bool (pAI==0)] [iB] (by kernel_rfl) fun s hS=>?_)
 refine KW.nil (bc h (fun hc11 h=>?_) fun hc11 h=>?_)
 refine WW.condK hS rfl hc11 (WW.region ?_)
 refine sg0 hS 5 [] [14,15,17] [.int .i64 pAN,.int .i64 pAO,.pointer (some ⟨iB,6,none⟩)] [] (by kernel_rfl) fun s hS=>?_
 obtain⟨hk12,h⟩:=ac h
 refine bc h (fun hc13 h=>?_) fun hc13 h=>?_
 refine am hS (wn rfl) rfl rfl rfl (v:= .pointer (some ⟨iB,6,none⟩)) (aV (hS.lk rfl) (hS.lk rfl) bz hk12 (iaV (m:=0) (of_decide_eq_true hc13) rfl)) fun s hS=>(sg hS 1 [0] [] [] [iB] [[(iB,.row [.pointer (some ⟨iC,0,none⟩),.slice aY pW.length zZ,vB pAB,.bool pAC,.int .i64 pAD,.bool pAE,.int .i64 pAO,.int .i64 pAI,.int .i64 pAJ,.int .i64 pAK,.int .i64 pAM] 128 0 true)],[(iC,.row [.slice aE pC.length zH,.slice aK pI.length zM,.slice aT pO.length zU] 95 0 true)],BO,BW,BAB] (by kernel_rfl) fun s hS=>?_)
 refine KW.nil ?_
 cases h
 exact bW hS (.inl rfl) rfl ⟨rfl,rfl,rfl⟩
 refine bc h (fun hc14 h=>?_) fun hc14 h=>?_
 refine am hS (wn rfl) rfl rfl rfl (v:= .pointer (some ⟨iB,7,none⟩)) (aV (hS.lk rfl) (hS.lk rfl) bz hk12 (iaV (m:=1) (of_decide_eq_true hc14) rfl)) fun s hS=>(sg hS 1 [0] [] [] [iB] [[(iB,.row [.pointer (some ⟨iC,0,none⟩),.slice aY pW.length zZ,vB pAB,.bool pAC,.int .i64 pAD,.bool pAE,.int .i64 pAH,.int .i64 pAO,.int .i64 pAJ,.int .i64 pAK,.int .i64 pAM] 128 0 true)],[(iC,.row [.slice aE pC.length zH,.slice aK pI.length zM,.slice aT pO.length zU] 95 0 true)],BO,BW,BAB] (by kernel_rfl) fun s hS=>?_)
 refine KW.nil ?_
 cases h
 exact bW hS (.inl rfl) rfl ⟨rfl,rfl,rfl⟩
 refine bc h (fun hc15 h=>?_) fun hc15 h=>?_
 refine am hS (wn rfl) rfl rfl rfl (v:= .pointer (some ⟨iB,8,none⟩)) (aV (hS.lk rfl) (hS.lk rfl) bz hk12 (iaV (m:=2) (of_decide_eq_true hc15) rfl)) fun s hS=>(sg hS 1 [0] [] [] [iB] [[(iB,.row [.pointer (some ⟨iC,0,none⟩),.slice aY pW.length zZ,vB pAB,.bool pAC,.int .i64 pAD,.bool pAE,.int .i64 pAH,.int .i64 pAI,.int .i64 pAO,.int .i64 pAK,.int .i64 pAM] 128 0 true)],[(iC,.row [.slice aE pC.length zH,.slice aK pI.length zM,.slice aT pO.length zU] 95 0 true)],BO,BW,BAB] (by kernel_rfl) fun s hS=>?_)
 refine KW.nil ?_
 cases h
 exact bW hS (.inl rfl) rfl ⟨rfl,rfl,rfl⟩
 refine bc h (fun hc16 h=>?_) fun hc16 h=>?_
 refine am hS (wn rfl) rfl rfl rfl (v:= .pointer (some ⟨iB,9,none⟩)) (aV (hS.lk rfl) (hS.lk rfl) bz hk12 (iaV (m:=3) (of_decide_eq_true hc16) rfl)) fun s hS=>(sg hS 1 [0] [] [] [iB] [[(iB,.row [.pointer (some ⟨iC,0,none⟩),.slice aY pW.length zZ,vB pAB,.bool pAC,.int .i64 pAD,.bool pAE,.int .i64 pAH,.int .i64 pAI,.int .i64 pAJ,.int .i64 pAO,.int .i64 pAM] 128 0 true)],[(iC,.row [.slice aE pC.length zH,.slice aK pI.length zM,.slice aT pO.length zU] 95 0 true)],BO,BW,BAB] (by kernel_rfl) fun s hS=>?_)
 refine KW.nil ?_
 cases h
 exact bW hS (.inl rfl) rfl ⟨rfl,rfl,rfl⟩
 have hj17:pAN=(4:Int):=by have q:=hk12; have r0:=of_decide_eq_false hc13; have r1:=of_decide_eq_false hc14; have r2:=of_decide_eq_false hc15; have r3:=of_decide_eq_false hc16; omega
 refine am hS (wn rfl) rfl rfl rfl (v:= .pointer (some ⟨iB,10,none⟩)) (aV (hS.lk rfl) (hS.lk rfl) bz hk12 (iaV (m:=4) hj17 rfl)) fun s hS=>(sg hS 1 [0] [] [] [iB] [[(iB,.row [.pointer (some ⟨iC,0,none⟩),.slice aY pW.length zZ,vB pAB,.bool pAC,.int .i64 pAD,.bool pAE,.int .i64 pAH,.int .i64 pAI,.int .i64 pAJ,.int .i64 pAK,.int .i64 pAO] 128 0 true)],[(iC,.row [.slice aE pC.length zH,.slice aK pI.length zM,.slice aT pO.length zU] 95 0 true)],BO,BW,BAB] (by kernel_rfl) fun s hS=>?_)
 refine KW.nil ?_
 cases h
 exact bW hS (.inl rfl) rfl ⟨rfl,rfl,rfl⟩
 refine WW.condF hS rfl hc11 (WW.skip ?_)
 cases h
 exact bW hS (.inl rfl) rfl ⟨rfl,rfl,rfl⟩
 refine bc h (fun hc18 h=>?_) fun hc18 h=>?_
 refine am hS (wn rfl) rfl rfl rfl (v:= .pointer (some ⟨iB,8,none⟩)) (aV (hS.lk rfl) (hS.lk rfl) bz hk1 (iaV (m:=2) (of_decide_eq_true hc18) rfl)) fun s hS=>(sg0 hS 2 [0] [12] [.bool (pAJ==0)] [iB] (by kernel_rfl) fun s hS=>?_)
 refine KW.nil (bc h (fun hc19 h=>?_) fun hc19 h=>?_)
 refine WW.condK hS rfl hc19 (WW.region ?_)
 refine sg0 hS 5 [] [14,15,17] [.int .i64 pAN,.int .i64 pAO,.pointer (some ⟨iB,6,none⟩)] [] (by kernel_rfl) fun s hS=>?_
 obtain⟨hk20,h⟩:=ac h
 refine bc h (fun hc21 h=>?_) fun hc21 h=>?_
 refine am hS (wn rfl) rfl rfl rfl (v:= .pointer (some ⟨iB,6,none⟩)) (aV (hS.lk rfl) (hS.lk rfl) bz hk20 (iaV (m:=0) (of_decide_eq_true hc21) rfl)) fun s hS=>(sg hS 1 [0] [] [] [iB] [[(iB,.row [.pointer (some ⟨iC,0,none⟩),.slice aY pW.length zZ,vB pAB,.bool pAC,.int .i64 pAD,.bool pAE,.int .i64 pAO,.int .i64 pAI,.int .i64 pAJ,.int .i64 pAK,.int .i64 pAM] 128 0 true)],[(iC,.row [.slice aE pC.length zH,.slice aK pI.length zM,.slice aT pO.length zU] 95 0 true)],BO,BW,BAB] (by kernel_rfl) fun s hS=>?_)
 refine KW.nil ?_
 cases h
 exact bW hS (.inl rfl) rfl ⟨rfl,rfl,rfl⟩
 refine bc h (fun hc22 h=>?_) fun hc22 h=>?_
 refine am hS (wn rfl) rfl rfl rfl (v:= .pointer (some ⟨iB,7,none⟩)) (aV (hS.lk rfl) (hS.lk rfl) bz hk20 (iaV (m:=1) (of_decide_eq_true hc22) rfl)) fun s hS=>(sg hS 1 [0] [] [] [iB] [[(iB,.row [.pointer (some ⟨iC,0,none⟩),.slice aY pW.length zZ,vB pAB,.bool pAC,.int .i64 pAD,.bool pAE,.int .i64 pAH,.int .i64 pAO,.int .i64 pAJ,.int .i64 pAK,.int .i64 pAM] 128 0 true)],[(iC,.row [.slice aE pC.length zH,.slice aK pI.length zM,.slice aT pO.length zU] 95 0 true)],BO,BW,BAB] (by kernel_rfl) fun s hS=>?_)
 refine KW.nil ?_
 cases h
 exact bW hS (.inl rfl) rfl ⟨rfl,rfl,rfl⟩
 refine bc h (fun hc23 h=>?_) fun hc23 h=>?_
 refine am hS (wn rfl) rfl rfl rfl (v:= .pointer (some ⟨iB,8,none⟩)) (aV (hS.lk rfl) (hS.lk rfl) bz hk20 (iaV (m:=2) (of_decide_eq_true hc23) rfl)) fun s hS=>(sg hS 1 [0] [] [] [iB] [[(iB,.row [.pointer (some ⟨iC,0,none⟩),.slice aY pW.length zZ,vB pAB,.bool pAC,.int .i64 pAD,.bool pAE,.int .i64 pAH,.int .i64 pAI,.int .i64 pAO,.int .i64 pAK,.int .i64 pAM] 128 0 true)],[(iC,.row [.slice aE pC.length zH,.slice aK pI.length zM,.slice aT pO.length zU] 95 0 true)],BO,BW,BAB] (by kernel_rfl) fun s hS=>?_)
 refine KW.nil ?_
 cases h
 exact bW hS (.inl rfl) rfl ⟨rfl,rfl,rfl⟩
 refine bc h (fun hc24 h=>?_) fun hc24 h=>?_
 refine am hS (wn rfl) rfl rfl rfl (v:= .pointer (some ⟨iB,9,none⟩)) (aV (hS.lk rfl) (hS.lk rfl) bz hk20 (iaV (m:=3) (of_decide_eq_true hc24) rfl)) fun s hS=>(sg hS 1 [0] [] [] [iB] [[(iB,.row [.pointer (some ⟨iC,0,none⟩),.slice aY pW.length zZ,vB pAB,.bool pAC,.int .i64 pAD,.bool pAE,.int .i64 pAH,.int .i64 pAI,.int .i64 pAJ,.int .i64 pAO,.int .i64 pAM] 128 0 true)],[(iC,.row [.slice aE pC.length zH,.slice aK pI.length zM,.slice aT pO.length zU] 95 0 true)],BO,BW,BAB] (by kernel_rfl) fun s hS=>?_)
 refine KW.nil ?_
 cases h
 exact bW hS (.inl rfl) rfl ⟨rfl,rfl,rfl⟩
 have hj25:pAN=(4:Int):=by have q:=hk20; have r0:=of_decide_eq_false hc21; have r1:=of_decide_eq_false hc22; have r2:=of_decide_eq_false hc23; have r3:=of_decide_eq_false hc24; omega
 refine am hS (wn rfl) rfl rfl rfl (v:= .pointer (some ⟨iB,10,none⟩)) (aV (hS.lk rfl) (hS.lk rfl) bz hk20 (iaV (m:=4) hj25 rfl)) fun s hS=>(sg hS 1 [0] [] [] [iB] [[(iB,.row [.pointer (some ⟨iC,0,none⟩),.slice aY pW.length zZ,vB pAB,.bool pAC,.int .i64 pAD,.bool pAE,.int .i64 pAH,.int .i64 pAI,.int .i64 pAJ,.int .i64 pAK,.int .i64 pAO] 128 0 true)],[(iC,.row [.slice aE pC.length zH,.slice aK pI.length zM,.slice aT pO.length zU] 95 0 true)],BO,BW,BAB] (by kernel_rfl) fun s hS=>?_)
 refine KW.nil ?_
 cases h
 exact bW hS (.inl rfl) rfl ⟨rfl,rfl,rfl⟩
 refine WW.condF hS rfl hc19 (WW.skip ?_)
 cases h
 exact bW hS (.inl rfl) rfl ⟨rfl,rfl,rfl⟩
 refine bc h (fun hc26 h=>?_) fun hc26 h=>?_
 refine am hS (wn rfl) rfl rfl rfl (v:= .pointer (some ⟨iB,9,none⟩)) (aV (hS.lk rfl) (hS.lk rfl) bz hk1 (iaV (m:=3) (of_decide_eq_true hc26) rfl)) fun s hS=>(sg0 hS 2 [0] [12] [.bool (pAK==0)] [iB] (by kernel_rfl) fun s hS=>?_)
 refine KW.nil (bc h (fun hc27 h=>?_) fun hc27 h=>?_)
 refine WW.condK hS rfl hc27 (WW.region ?_)
 refine sg0 hS 5 [] [14,15,17] [.int .i64 pAN,.int .i64 pAO,.pointer (some ⟨iB,6,none⟩)] [] (by kernel_rfl) fun s hS=>?_
 obtain⟨hk28,h⟩:=ac h
 refine bc h (fun hc29 h=>?_) fun hc29 h=>?_
 refine am hS (wn rfl) rfl rfl rfl (v:= .pointer (some ⟨iB,6,none⟩)) (aV (hS.lk rfl) (hS.lk rfl) bz hk28 (iaV (m:=0) (of_decide_eq_true hc29) rfl)) fun s hS=>(sg hS 1 [0] [] [] [iB] [[(iB,.row [.pointer (some ⟨iC,0,none⟩),.slice aY pW.length zZ,vB pAB,.bool pAC,.int .i64 pAD,.bool pAE,.int .i64 pAO,.int .i64 pAI,.int .i64 pAJ,.int .i64 pAK,.int .i64 pAM] 128 0 true)],[(iC,.row [.slice aE pC.length zH,.slice aK pI.length zM,.slice aT pO.length zU] 95 0 true)],BO,BW,BAB] (by kernel_rfl) fun s hS=>?_)
 refine KW.nil ?_
 cases h
 exact bW hS (.inl rfl) rfl ⟨rfl,rfl,rfl⟩
 refine bc h (fun hc30 h=>?_) fun hc30 h=>?_
 refine am hS (wn rfl) rfl rfl rfl (v:= .pointer (some ⟨iB,7,none⟩)) (aV (hS.lk rfl) (hS.lk rfl) bz hk28 (iaV (m:=1) (of_decide_eq_true hc30) rfl)) fun s hS=>(sg hS 1 [0] [] [] [iB] [[(iB,.row [.pointer (some ⟨iC,0,none⟩),.slice aY pW.length zZ,vB pAB,.bool pAC,.int .i64 pAD,.bool pAE,.int .i64 pAH,.int .i64 pAO,.int .i64 pAJ,.int .i64 pAK,.int .i64 pAM] 128 0 true)],[(iC,.row [.slice aE pC.length zH,.slice aK pI.length zM,.slice aT pO.length zU] 95 0 true)],BO,BW,BAB] (by kernel_rfl) fun s hS=>?_)
 refine KW.nil ?_
 cases h
 exact bW hS (.inl rfl) rfl ⟨rfl,rfl,rfl⟩
 refine bc h (fun hc31 h=>?_) fun hc31 h=>?_
 refine am hS (wn rfl) rfl rfl rfl (v:= .pointer (some ⟨iB,8,none⟩)) (aV (hS.lk rfl) (hS.lk rfl) bz hk28 (iaV (m:=2) (of_decide_eq_true hc31) rfl)) fun s hS=>(sg hS 1 [0] [] [] [iB] [[(iB,.row [.pointer (some ⟨iC,0,none⟩),.slice aY pW.length zZ,vB pAB,.bool pAC,.int .i64 pAD,.bool pAE,.int .i64 pAH,.int .i64 pAI,.int .i64 pAO,.int .i64 pAK,.int .i64 pAM] 128 0 true)],[(iC,.row [.slice aE pC.length zH,.slice aK pI.length zM,.slice aT pO.length zU] 95 0 true)],BO,BW,BAB] (by kernel_rfl) fun s hS=>?_)
 refine KW.nil ?_
 cases h
 exact bW hS (.inl rfl) rfl ⟨rfl,rfl,rfl⟩
 refine bc h (fun hc32 h=>?_) fun hc32 h=>?_
 refine am hS (wn rfl) rfl rfl rfl (v:= .pointer (some ⟨iB,9,none⟩)) (aV (hS.lk rfl) (hS.lk rfl) bz hk28 (iaV (m:=3) (of_decide_eq_true hc32) rfl)) fun s hS=>(sg hS 1 [0] [] [] [iB] [[(iB,.row [.pointer (some ⟨iC,0,none⟩),.slice aY pW.length zZ,vB pAB,.bool pAC,.int .i64 pAD,.bool pAE,.int .i64 pAH,.int .i64 pAI,.int .i64 pAJ,.int .i64 pAO,.int .i64 pAM] 128 0 true)],[(iC,.row [.slice aE pC.length zH,.slice aK pI.length zM,.slice aT pO.length zU] 95 0 true)],BO,BW,BAB] (by kernel_rfl) fun s hS=>?_)
 refine KW.nil ?_
 cases h
 exact bW hS (.inl rfl) rfl ⟨rfl,rfl,rfl⟩
 have hj33:pAN=(4:Int):=by have q:=hk28; have r0:=of_decide_eq_false hc29; have r1:=of_decide_eq_false hc30; have r2:=of_decide_eq_false hc31; have r3:=of_decide_eq_false hc32; omega
 refine am hS (wn rfl) rfl rfl rfl (v:= .pointer (some ⟨iB,10,none⟩)) (aV (hS.lk rfl) (hS.lk rfl) bz hk28 (iaV (m:=4) hj33 rfl)) fun s hS=>(sg hS 1 [0] [] [] [iB] [[(iB,.row [.pointer (some ⟨iC,0,none⟩),.slice aY pW.length zZ,vB pAB,.bool pAC,.int .i64 pAD,.bool pAE,.int .i64 pAH,.int .i64 pAI,.int .i64 pAJ,.int .i64 pAK,.int .i64 pAO] 128 0 true)],[(iC,.row [.slice aE pC.length zH,.slice aK pI.length zM,.slice aT pO.length zU] 95 0 true)],BO,BW,BAB] (by kernel_rfl) fun s hS=>?_)
 refine KW.nil ?_
 cases h
 exact bW hS (.inl rfl) rfl ⟨rfl,rfl,rfl⟩
 refine WW.condF hS rfl hc27 (WW.skip ?_)
 cases h
 exact bW hS (.inl rfl) rfl ⟨rfl,rfl,rfl⟩
 have hj34:pAN=(4:Int):=by have q:=hk1; have r0:=of_decide_eq_false hc2; have r1:=of_decide_eq_false hc10; have r2:=of_decide_eq_false hc18; have r3:=of_decide_eq_false hc26; omega
 refine am hS (wn rfl) rfl rfl rfl (v:= .pointer (some ⟨iB,10,none⟩)) (aV (hS.lk rfl) (hS.lk rfl) bz hk1 (iaV (m:=4) hj34 rfl)) fun s hS=>(sg0 hS 2 [0] [12] [.bool (pAM==0)] [iB] (by kernel_rfl) fun s hS=>?_)
 refine KW.nil (bc h (fun hc35 h=>?_) fun hc35 h=>?_)
 refine WW.condK hS rfl hc35 (WW.region ?_)
 refine sg0 hS 5 [] [14,15,17] [.int .i64 pAN,.int .i64 pAO,.pointer (some ⟨iB,6,none⟩)] [] (by kernel_rfl) fun s hS=>?_
 obtain⟨hk36,h⟩:=ac h
 refine bc h (fun hc37 h=>?_) fun hc37 h=>?_
 refine am hS (wn rfl) rfl rfl rfl (v:= .pointer (some ⟨iB,6,none⟩)) (aV (hS.lk rfl) (hS.lk rfl) bz hk36 (iaV (m:=0) (of_decide_eq_true hc37) rfl)) fun s hS=>(sg hS 1 [0] [] [] [iB] [[(iB,.row [.pointer (some ⟨iC,0,none⟩),.slice aY pW.length zZ,vB pAB,.bool pAC,.int .i64 pAD,.bool pAE,.int .i64 pAO,.int .i64 pAI,.int .i64 pAJ,.int .i64 pAK,.int .i64 pAM] 128 0 true)],[(iC,.row [.slice aE pC.length zH,.slice aK pI.length zM,.slice aT pO.length zU] 95 0 true)],BO,BW,BAB] (by kernel_rfl) fun s hS=>?_)
 refine KW.nil ?_
 cases h
 exact bW hS (.inl rfl) rfl ⟨rfl,rfl,rfl⟩
 refine bc h (fun hc38 h=>?_) fun hc38 h=>?_
 refine am hS (wn rfl) rfl rfl rfl (v:= .pointer (some ⟨iB,7,none⟩)) (aV (hS.lk rfl) (hS.lk rfl) bz hk36 (iaV (m:=1) (of_decide_eq_true hc38) rfl)) fun s hS=>(sg hS 1 [0] [] [] [iB] [[(iB,.row [.pointer (some ⟨iC,0,none⟩),.slice aY pW.length zZ,vB pAB,.bool pAC,.int .i64 pAD,.bool pAE,.int .i64 pAH,.int .i64 pAO,.int .i64 pAJ,.int .i64 pAK,.int .i64 pAM] 128 0 true)],[(iC,.row [.slice aE pC.length zH,.slice aK pI.length zM,.slice aT pO.length zU] 95 0 true)],BO,BW,BAB] (by kernel_rfl) fun s hS=>?_)
 refine KW.nil ?_
 cases h
 exact bW hS (.inl rfl) rfl ⟨rfl,rfl,rfl⟩
 refine bc h (fun hc39 h=>?_) fun hc39 h=>?_
 refine am hS (wn rfl) rfl rfl rfl (v:= .pointer (some ⟨iB,8,none⟩)) (aV (hS.lk rfl) (hS.lk rfl) bz hk36 (iaV (m:=2) (of_decide_eq_true hc39) rfl)) fun s hS=>(sg hS 1 [0] [] [] [iB] [[(iB,.row [.pointer (some ⟨iC,0,none⟩),.slice aY pW.length zZ,vB pAB,.bool pAC,.int .i64 pAD,.bool pAE,.int .i64 pAH,.int .i64 pAI,.int .i64 pAO,.int .i64 pAK,.int .i64 pAM] 128 0 true)],[(iC,.row [.slice aE pC.length zH,.slice aK pI.length zM,.slice aT pO.length zU] 95 0 true)],BO,BW,BAB] (by kernel_rfl) fun s hS=>?_)
 refine KW.nil ?_
 cases h
 exact bW hS (.inl rfl) rfl ⟨rfl,rfl,rfl⟩
 refine bc h (fun hc40 h=>?_) fun hc40 h=>?_
 refine am hS (wn rfl) rfl rfl rfl (v:= .pointer (some ⟨iB,9,none⟩)) (aV (hS.lk rfl) (hS.lk rfl) bz hk36 (iaV (m:=3) (of_decide_eq_true hc40) rfl)) fun s hS=>(sg hS 1 [0] [] [] [iB] [[(iB,.row [.pointer (some ⟨iC,0,none⟩),.slice aY pW.length zZ,vB pAB,.bool pAC,.int .i64 pAD,.bool pAE,.int .i64 pAH,.int .i64 pAI,.int .i64 pAJ,.int .i64 pAO,.int .i64 pAM] 128 0 true)],[(iC,.row [.slice aE pC.length zH,.slice aK pI.length zM,.slice aT pO.length zU] 95 0 true)],BO,BW,BAB] (by kernel_rfl) fun s hS=>?_)
 refine KW.nil ?_
 cases h
 exact bW hS (.inl rfl) rfl ⟨rfl,rfl,rfl⟩
 have hj41:pAN=(4:Int):=by have q:=hk36; have r0:=of_decide_eq_false hc37; have r1:=of_decide_eq_false hc38; have r2:=of_decide_eq_false hc39; have r3:=of_decide_eq_false hc40; omega
 refine am hS (wn rfl) rfl rfl rfl (v:= .pointer (some ⟨iB,10,none⟩)) (aV (hS.lk rfl) (hS.lk rfl) bz hk36 (iaV (m:=4) hj41 rfl)) fun s hS=>(sg hS 1 [0] [] [] [iB] [[(iB,.row [.pointer (some ⟨iC,0,none⟩),.slice aY pW.length zZ,vB pAB,.bool pAC,.int .i64 pAD,.bool pAE,.int .i64 pAH,.int .i64 pAI,.int .i64 pAJ,.int .i64 pAK,.int .i64 pAO] 128 0 true)],[(iC,.row [.slice aE pC.length zH,.slice aK pI.length zM,.slice aT pO.length zU] 95 0 true)],BO,BW,BAB] (by kernel_rfl) fun s hS=>?_)
 refine KW.nil ?_
 cases h
 exact bW hS (.inl rfl) rfl ⟨rfl,rfl,rfl⟩
 refine WW.condF hS rfl hc35 (WW.skip ?_)
 cases h
 exact bW hS (.inl rfl) rfl ⟨rfl,rfl,rfl⟩
noncomputable def g_16.f (pA:List UInt8):Option (Bool) :=
  Option.bind (g_Trim.f pA ([32])) fun y1=>some (decide (y1= []))
theorem g_16.ok {pA:List UInt8} {F:FZ} {r:Bool} (h:g_16.f pA=some r) :
    Cl EV 151 [aa pA] [] F (fun v S' F'=>F=F'∧v= .bool r∧S'= []):=by
 refine Cl.of Tryz.func151 rfl (fun _ _=>rfl) (by kernel_rfl) fun s L nx0 hS=>?_
 unfold g_16.f at h
 refine WW.seq (WW.region ?_)
 refine sg0 hS 1 [] [2] [.bool false] [] (by kernel_rfl) fun s hS=>(KW.nil ?_)
 refine WW.seq (WW.region ?_)
 obtain⟨y1,hy1,h⟩:=bind_some h
 refine cR (g_Trim.ok hy1) hS 1 4 0 rfl (by kernel_rfl) fun s hS=>(am hS (wn rfl) rfl rfl rfl (v:= .bool (decide (y1= []))) (fk (hS.lk rfl) (hS.lk rfl)) fun s hS=>?_)
 refine sg0 hS 1 [] [2] [.bool (decide (y1= []))] [] (by kernel_rfl) fun s hS=>(KW.nil ?_)
 refine WW.ret ?_
 cases h
 exact aS hS (.inr rfl) 2 rfl rfl ⟨rfl,rfl,rfl⟩
noncomputable def g_y.f (pAB:UInt8) (pAH:Int) (pAI:Int) (pAJ:Int) (pAK:Int) (pAM:Int) (pAN:List UInt8):Option (Int×Int×Int×Int×Int×Int) :=
  Option.bind (g_1p.f pAN) fun y1=>Option.bind ((if(decide (y1<0)) then some true else(if 0≤y1∧y1<(pAN.length:Int) then some (((gt pAN y1).toNat:Int) != ((38:UInt8).toNat:Int)) else none))) fun z3=>(if z3 then(if((pAB.toNat:Int) != ((0:UInt8).toNat:Int)) then Option.bind (g_15.f pAH pAI pAJ pAK pAM 0 3) fun y8=>some (0,y8.1,y8.2.1,y8.2.2.1,y8.2.2.2.1,y8.2.2.2.2) else some (0,pAH,pAI,pAJ,pAK,pAM)) else Option.bind ((if 0≤(w64 (y1+1))∧(w64 (y1+1))≤(pAN.length:Int)∧(pAN.length:Int)≤(pAN.length:Int) then Option.bind (g_16.f (mid pAN (w64 (y1+1)) (pAN.length:Int))) fun y12=>(if y12 then Option.bind (g_15.f pAH pAI pAJ pAK pAM 0 3) fun y15=>some (y15.1,y15.2.1,y15.2.2.1,y15.2.2.2.1,y15.2.2.2.2) else some (pAH,pAI,pAJ,pAK,pAM)) else none)) fun z10=>some ((w64 (y1+1)),z10.1,z10.2.1,z10.2.2.1,z10.2.2.2.1,z10.2.2.2.2))
theorem g_y.ok {iB:Nat} {iC:Nat} {aE:Option Addr} {zH:Nat} {aK:Option Addr} {zM:Nat} {BO:Seg} {aT:Option Addr} {zU:Nat} {BW:Seg} {aY:Option Addr} {zZ:Nat} {BAB:Seg} {pC:List (List UInt8)} {pI:List Int} {pO:List (Int×List UInt8×(List (Int×Int×Int)))} {pW:List (UInt8×Int×Int×Int)} {pAB:UInt8} {pAC:Bool} {pAD:Int} {pAE:Bool} {pAH:Int} {pAI:Int} {pAJ:Int} {pAK:Int} {pAM:Int} {pAN:List UInt8} {F:FZ} {r:Int×Int×Int×Int×Int×Int} (h:g_y.f pAB pAH pAI pAJ pAK pAM pAN=some r) :
    Cl EV 147 [.pointer (some ⟨iB,0,none⟩),aa pAN] [[(iB,.row [.pointer (some ⟨iC,0,none⟩),.slice aY pW.length zZ,vB pAB,.bool pAC,.int .i64 pAD,.bool pAE,.int .i64 pAH,.int .i64 pAI,.int .i64 pAJ,.int .i64 pAK,.int .i64 pAM] 128 0 true)],[(iC,.row [.slice aE pC.length zH,.slice aK pI.length zM,.slice aT pO.length zU] 95 0 true)],BO,BW,BAB] F (fun v S' F'=>F=F'∧v= .int .i64 r.1∧S'= [[(iB,.row [.pointer (some ⟨iC,0,none⟩),.slice aY pW.length zZ,vB pAB,.bool pAC,.int .i64 pAD,.bool pAE,.int .i64 r.2.1,.int .i64 r.2.2.1,.int .i64 r.2.2.2.1,.int .i64 r.2.2.2.2.1,.int .i64 r.2.2.2.2.2] 128 0 true)],[(iC,.row [.slice aE pC.length zH,.slice aK pI.length zM,.slice aT pO.length zU] 95 0 true)],BO,BW,BAB]):=by
 refine Cl.of Tryz.func147 rfl (fun _ _=>rfl) (by kernel_rfl) fun s L nx0 hS=>?_
 unfold g_y.f at h
 refine WW.seq (WW.region ?_)
 refine sg0 hS 1 [] [4] [.int .i64 0] [] (by kernel_rfl) fun s hS=>(KW.nil ?_)
 refine WW.seq (WW.region ?_)
 obtain⟨y1,hy1,h⟩:=bind_some h
 refine cR (g_1p.ok hy1) hS 1 7 0 rfl (by kernel_rfl) fun s hS=>(sg0 hS 1 [] [5] [.int .i64 y1] [] (by kernel_rfl) fun s hS=>?_)
 refine KW.nil (WW.seq ?_)
 refine WW.seq (WW.region ?_)
 refine sg0 hS 3 [] [10] [.bool (decide (y1<0))] [] (by kernel_rfl) fun s hS=>?_
 obtain⟨z3,hz3,h⟩:=bind_some h
 refine aH 5 (fun s=>Stt EV s [(15,.bool z3),(0,.pointer (some ⟨iB,0,none⟩)),(1,aa pAN),(4,.int .i64 0),(5,.int .i64 y1)] [[(iB,.row [.pointer (some ⟨iC,0,none⟩),.slice aY pW.length zZ,vB pAB,.bool pAC,.int .i64 pAD,.bool pAE,.int .i64 pAH,.int .i64 pAI,.int .i64 pAJ,.int .i64 pAK,.int .i64 pAM] 128 0 true)],[(iC,.row [.slice aE pC.length zH,.slice aK pI.length zM,.slice aT pO.length zU] 95 0 true)],BO,BW,BAB] F L F nx0) ?_ fun s hS=>?_
 refine bc hz3 (fun hc4 hz3=>?_) fun hc4 hz3=>?_
 replace hS:=hS.kb 10 hc4 rfl
 refine sg0 hS 5 [] [15] [.bool true] [] (by kernel_rfl) fun s hS=>(KW.nil ?_)
 obtain rfl:=Option.some.inj hz3
 exact hS.subR rfl
 replace hS:=hS.kb 10 hc4 rfl
 refine sg0 hS 2 [] [11,12] [aa pAN,.int .i64 y1] [] (by kernel_rfl) fun s hS=>?_
 obtain⟨hk5,hz3⟩:=ac hz3
 refine am hS (wt hS rfl rfl rfl rfl) rfl rfl rfl (v:=vB (gt pAN y1)) (aA tu9 (hS.lk rfl) (hS.lk rfl) hk5) fun s hS=>(sg0 hS 2 [] [15] [.bool (((gt pAN y1).toNat:Int) != ((38:UInt8).toNat:Int))] [] (by kernel_rfl) fun s hS=>?_)
 refine KW.nil ?_
 obtain rfl:=Option.some.inj hz3
 exact hS.subR rfl
 refine KW.nil (bc h (fun hc6 h=>?_) fun hc6 h=>?_)
 refine WW.condK hS rfl hc6 (WW.seq ?_)
 refine WW.seq (WW.region ?_)
 refine sg0 hS 5 [0] [20] [.bool ((pAB.toNat:Int) != ((0:UInt8).toNat:Int))] [iB] (by kernel_rfl) fun s hS=>(KW.nil ?_)
 refine bc h (fun hc7 h=>?_) fun hc7 h=>?_
 refine WW.condK hS rfl hc7 (WW.region ?_)
 obtain⟨y8,hy8,h⟩:=bind_some h
 refine cR (g_15.ok hy8) hS 1 22 5 rfl (by kernel_rfl) fun s hS=>(KW.nil ?_)
 refine WW.seq (WW.region ?_)
 refine sg0 hS 1 [] [4] [.int .i64 0] [] (by kernel_rfl) fun s hS=>(KW.nil ?_)
 refine WW.ret ?_
 cases h
 exact aS hS (.inr rfl) 4 rfl rfl ⟨rfl,rfl,rfl⟩
 refine WW.condF hS rfl hc7 (WW.skip ?_)
 refine WW.seq (WW.region ?_)
 refine sg0 hS 1 [] [4] [.int .i64 0] [] (by kernel_rfl) fun s hS=>(KW.nil ?_)
 refine WW.ret ?_
 cases h
 exact aS hS (.inr rfl) 4 rfl rfl ⟨rfl,rfl,rfl⟩
 refine WW.condF hS rfl hc6 (WW.skip ?_)
 obtain⟨z10,hz10,h⟩:=bind_some h
 refine WW.seqJ (fun s=>Stt EV s [(4,.int .i64 0),(5,.int .i64 y1)] [[(iB,.row [.pointer (some ⟨iC,0,none⟩),.slice aY pW.length zZ,vB pAB,.bool pAC,.int .i64 pAD,.bool pAE,.int .i64 z10.1,.int .i64 z10.2.1,.int .i64 z10.2.2.1,.int .i64 z10.2.2.2.1,.int .i64 z10.2.2.2.2] 128 0 true)],[(iC,.row [.slice aE pC.length zH,.slice aK pI.length zM,.slice aT pO.length zU] 95 0 true)],BO,BW,BAB] F L F nx0) ?_ ?_
 refine WW.seq (WW.region ?_)
 refine sg0 hS 3 [] [23,25] [aa pAN,.int .i64 (w64 (y1+1))] [] (by kernel_rfl) fun s hS=>?_
 obtain⟨hk11,hz10⟩:=ac hz10
 refine am hS (wn rfl) rfl rfl rfl (v:=aa (mid pAN (w64 (y1+1)) (pAN.length:Int))) (cu tu9 (hS.lk rfl) (i:=(w64 (y1+1))) (j:=(pAN.length:Int)) (bu hS rfl) rfl hk11) fun s hS=>?_
 obtain⟨y12,hy12,hz10⟩:=bind_some hz10
 refine cR (g_16.ok hy12) hS 0 27 0 rfl (by kernel_rfl) fun s hS=>(KW.nil ?_)
 refine bc hz10 (fun hc14 hz10=>?_) fun hc14 hz10=>?_
 refine WW.condK hS rfl hc14 (WW.region ?_)
 obtain⟨y15,hy15,hz10⟩:=bind_some hz10
 refine cR (g_15.ok hy15) hS 1 29 5 rfl (by kernel_rfl) fun s hS=>(KW.nil ?_)
 obtain rfl:=Option.some.inj hz10
 exact(hS.subR rfl)
 refine WW.condF hS rfl hc14 (WW.skip ?_)
 obtain rfl:=Option.some.inj hz10
 exact(hS.subR rfl)
 rintro s hS
 refine WW.seq (WW.region ?_)
 refine sg0 hS 3 [] [4] [.int .i64 (w64 (y1+1))] [] (by kernel_rfl) fun s hS=>(KW.nil ?_)
 refine WW.ret ?_
 cases h
 exact aS hS (.inr rfl) 4 rfl rfl ⟨rfl,rfl,rfl⟩
noncomputable def g_1e.b0 (x1:(List (UInt8×Int×Int×Int))):Option (((List (UInt8×Int×Int×Int)))⊕((List (UInt8×Int×Int×Int)))) :=
  Option.bind ((if(decide ((x1.length:Int)>0)) then(if 0≤(0:Int)∧(0:Int)<(x1.length:Int) then some ((((gt x1 (0:Int)).1).toNat:Int)==((32:UInt8).toNat:Int)) else none) else some false)) fun z11=>(if z11 then(if 0≤(1:Int)∧(1:Int)≤(x1.length:Int)∧(x1.length:Int)≤(x1.length:Int) then some (.inl (mid x1 (1:Int) (x1.length:Int))) else none) else some (.inr x1))
noncomputable def g_1e.f (pA:List (UInt8×Int×Int×Int)):Option ((List (UInt8×Int×Int×Int))) :=
  Option.bind (iter (g_1e.b0) pA) fun o5=>some o5
theorem g_1e.ok {aC:Option Addr} {zD:Nat} {pA:List (UInt8×Int×Int×Int)} {F:FZ} {r:(List (UInt8×Int×Int×Int))} (h:g_1e.f pA=some r) (hE:Frz bb F aC zD pA) :
    Cl EV 166 [.slice aC pA.length zD] [] F (fun v S' F'=> ∃(ra1:Option Addr) (rz2:Nat),F=F'∧v= .slice ra1 r.length rz2∧S'= []∧Frz bb F' ra1 rz2 r):=by
 refine Cl.of Tryz.func166 rfl (fun _ _=>rfl) (by kernel_rfl) fun s L nx0 hS=>?_
 unfold g_1e.f at h
 refine WW.seq (WW.region ?_)
 refine sg0 hS 1 [] [2] [.slice none 0 0] [] (by kernel_rfl) fun s hS=>(KW.nil ?_)
 refine WW.seq (WW.block ?_)
 obtain⟨o5,ho5,h⟩:=bind_some h
 refine WW.loop (LW.iterE ho5 (fun(x1:(List (UInt8×Int×Int×Int))) s=> ∃(a2:Option Addr) (z3:Nat),Stt EV s [(0,.slice a2 x1.length z3),(2,.slice none 0 0)] [] F L F nx0∧Frz bb F a2 z3 x1) 0 ⟨_,_,(hS.subR rfl),hE⟩ ?_ ?_)
 clear hS
 rintro x1 s ⟨a2,z3,hS,h4⟩ o5' h10
 unfold g_1e.b0 at h10
 refine WW.seq (WW.seq ?_)
 refine WW.region (sg0 hS 4 [] [6] [.bool (decide ((x1.length:Int)>0))] [] (by kernel_rfl) fun s hS=>?_)
 obtain⟨z11,hz11,h10⟩:=bind_some h10
 refine aH 6 (fun s=>Stt EV s [(12,.bool z11),(0,.slice a2 x1.length z3),(2,.slice none 0 0)] [] F L F nx0) ?_ fun s hS=>?_
 refine bc hz11 (fun hc12 hz11=>?_) fun hc12 hz11=>?_
 replace hS:=hS.kb 6 hc12 rfl
 refine sg0 hS 1 [] [7] [.slice a2 x1.length z3] [] (by kernel_rfl) fun s hS=>?_
 obtain⟨hk13,hz11⟩:=ac hz11
 obtain⟨i19,of20,rfl⟩:=Frz.addr h4 (by omega)
 obtain⟨_,_,_,_,c14,hF21,hR15,hN16,hN17,hT18⟩:=Frz.at h4 hk13 (m:=4) rfl
 obtain rfl:=hR15
 refine am hS (wt hS rfl rfl rfl rfl) rfl rfl rfl (v:= .pointer (some ⟨i19,of20+((0:Int)).toNat*4,none⟩)) (aW (hS.lk rfl) (hS.lk rfl) eV hk13) fun s hS=>(am hS (wt hS rfl rfl rfl rfl) rfl rfl rfl (v:= .pointer (some ⟨i19,of20+((0:Int)).toNat*4+0,none⟩)) (cn (hS.lk rfl) iP rfl rfl) fun s hS=>?_)
 refine gG hS (wt hS rfl rfl rfl rfl) rfl rfl rfl (hS.fat hF21) tg5 (v:=vB ((gt x1 (0:Int)).1)) (hN17 0 (by decide)) fun s hS=>(sg0 hS 2 [] [12] [.bool ((((gt x1 (0:Int)).1).toNat:Int)==((32:UInt8).toNat:Int))] [] (by kernel_rfl) fun s hS=>?_)
 refine KW.nil ?_
 obtain rfl:=Option.some.inj hz11
 exact hS.subR rfl
 replace hS:=hS.kb 6 hc12 rfl
 refine sg0 hS 6 [] [12] [.bool false] [] (by kernel_rfl) fun s hS=>(KW.nil ?_)
 obtain rfl:=Option.some.inj hz11
 exact hS.subR rfl
 refine KW.nil (bc h10 (fun hc22 h10=>?_) fun hc22 h10=>?_)
 refine WW.condK hS rfl hc22 (WW.skip ?_)
 refine WW.block (WW.region ?_)
 refine sg0 hS 1 [] [13] [.slice a2 x1.length z3] [] (by kernel_rfl) fun s hS=>?_
 obtain⟨hk23,h10⟩:=ac h10
 obtain⟨a24,he25,hz26⟩:=Frz.slice h4 hk23 (m:=4) rfl
 refine am hS (wn rfl) rfl rfl rfl (v:= .slice a24 (mid x1 (1:Int) (x1.length:Int)).length z3) (di eV (hS.lk rfl) (i:=(1:Int)) (h:=(x1.length:Int)) (bu hS rfl) rfl he25) fun s hS=>(sg0 hS 1 [] [0] [.slice a24 (mid x1 (1:Int) (x1.length:Int)).length z3] [] (by kernel_rfl) fun s hS=>?_)
 refine KW.nil ?_
 obtain rfl:=Option.some.inj h10
 exact⟨_,rfl,_,_,(hS.subR rfl),hz26⟩
 refine WW.condF hS rfl hc22 (WW.exit ?_)
 refine af ?_
 obtain rfl:=Option.some.inj h10
 exact⟨_,rfl,rfl,_,_,(hS.subR rfl),h4⟩
 clear hS
 rintro e s ⟨rfl,a27,z28,hS,h29⟩
 refine ah (WW.seq ?_)
 refine WW.region (sg0 hS 2 [] [2] [.slice a27 o5.length z28] [] (by kernel_rfl) fun s hS=>?_)
 refine KW.nil (WW.ret ?_)
 cases h
 exact aS hS (.inr rfl) 2 rfl rfl ⟨_,_,rfl,rfl,rfl,h29⟩
noncomputable def g_13.f (pC:List (List UInt8)) (pW:List (UInt8×Int×Int×Int)) (pAE:Bool) (pAN:Int) (pAO:Int):Option ((List (UInt8×Int×Int×Int))×Bool) :=
  (if 0≤pAN∧pAN<(pC.length:Int) then(if 0≤pAO∧pAO<((gt pC pAN).length:Int) then Option.bind ((if(((gt (gt pC pAN) pAO).toNat:Int) != ((32:UInt8).toNat:Int)) then Option.bind (g_1e.f pW) fun y18=>(if((y18.length:Int)==0) then some (([]:List (UInt8×Int×Int×Int)),true) else some (pW,pAE)) else some (pW,pAE))) fun z11=>(if z11.1.length+([((gt (gt pC pAN) pAO),0,pAN,(w64 (pAO+1)))]:List (UInt8×Int×Int×Int)).length<1000000000 then some ((z11.1++([((gt (gt pC pAN) pAO),0,pAN,(w64 (pAO+1)))]:List (UInt8×Int×Int×Int))),z11.2) else none) else none) else none)
theorem g_13.ok {iB:Nat} {iC:Nat} {aE:Option Addr} {zH:Nat} {aK:Option Addr} {zM:Nat} {BO:Seg} {aT:Option Addr} {zU:Nat} {BW:Seg} {aY:Option Addr} {zZ:Nat} {BAB:Seg} {pC:List (List UInt8)} {pI:List Int} {pO:List (Int×List UInt8×(List (Int×Int×Int)))} {pW:List (UInt8×Int×Int×Int)} {pAB:UInt8} {pAC:Bool} {pAD:Int} {pAE:Bool} {pAH:Int} {pAI:Int} {pAJ:Int} {pAK:Int} {pAM:Int} {pAN:Int} {pAO:Int} {F:FZ} {r:(List (UInt8×Int×Int×Int))×Bool} (h:g_13.f pC pW pAE pAN pAO=some r) (hI:Frz (elS 9) F aE zH pC) (hAA:Own bb F aY zZ pW BAB) :
    Cl EV 165 [.pointer (some ⟨iB,0,none⟩),.int .i64 pAN,.int .i64 pAO] [[(iB,.row [.pointer (some ⟨iC,0,none⟩),.slice aY pW.length zZ,vB pAB,.bool pAC,.int .i64 pAD,.bool pAE,.int .i64 pAH,.int .i64 pAI,.int .i64 pAJ,.int .i64 pAK,.int .i64 pAM] 128 0 true)],[(iC,.row [.slice aE pC.length zH,.slice aK pI.length zM,.slice aT pO.length zU] 95 0 true)],BO,BW,BAB] F (fun v S' F'=> ∃(ra1:Option Addr) (rz2:Nat) (rB4:Seg),F=F'∧v= .tuple #[]∧S'= [[(iB,.row [.pointer (some ⟨iC,0,none⟩),.slice ra1 r.1.length rz2,vB pAB,.bool pAC,.int .i64 pAD,.bool r.2,.int .i64 pAH,.int .i64 pAI,.int .i64 pAJ,.int .i64 pAK,.int .i64 pAM] 128 0 true)],[(iC,.row [.slice aE pC.length zH,.slice aK pI.length zM,.slice aT pO.length zU] 95 0 true)],BO,BW,rB4]∧Own bb F' ra1 rz2 r.1 rB4):=by
 refine Cl.of Tryz.func165 rfl (fun _ _=>rfl) (by kernel_rfl) fun s L nx0 hS=>?_
 unfold g_13.f at h
 refine WW.seq (WW.region ?_)
 refine sg0 hS 8 [0,1] [13,14] [.slice aE pC.length zH,.int .i64 pAN] [iB,iC] (by kernel_rfl) fun s hS=>?_
 obtain⟨hk1,h⟩:=ac h
 obtain⟨i7,of8,rfl⟩:=Frz.addr hI (by omega)
 obtain⟨_,_,_,_,c2,hF9,hR3,hN4,hN5,hT6⟩:=Frz.at hI hk1 (m:=1) rfl
 obtain rfl:=hR3
 refine am hS (wn rfl) rfl rfl rfl (v:= .pointer (some ⟨i7,of8+(pAN).toNat*1,none⟩)) (aW (hS.lk rfl) (hS.lk rfl) ie hk1) fun s hS=>(gG hS (wn rfl) rfl rfl rfl (hS.fat hF9) tg9 (v:=aa (gt pC pAN)) hN4 fun s hS=>?_)
 refine sg0 hS 1 [] [17] [.int .i64 pAO] [] (by kernel_rfl) fun s hS=>?_
 obtain⟨hk10,h⟩:=ac h
 refine am hS (wn rfl) rfl rfl rfl (v:=vB (gt (gt pC pAN) pAO)) (aA tu9 (hS.lk rfl) (hS.lk rfl) hk10) fun s hS=>(sg0 hS 1 [] [6] [vB (gt (gt pC pAN) pAO)] [] (by kernel_rfl) fun s hS=>?_)
 refine KW.nil ?_
 obtain⟨z11,hz11,h⟩:=bind_some h
 refine WW.seqJ (fun s=> ∃(a12:Option Addr) (z13:Nat) (B15:Seg),Stt EV s [(0,.pointer (some ⟨iB,0,none⟩)),(1,.int .i64 pAN),(2,.int .i64 pAO),(6,vB (gt (gt pC pAN) pAO))] [[(iB,.row [.pointer (some ⟨iC,0,none⟩),.slice a12 z11.1.length z13,vB pAB,.bool pAC,.int .i64 pAD,.bool z11.2,.int .i64 pAH,.int .i64 pAI,.int .i64 pAJ,.int .i64 pAK,.int .i64 pAM] 128 0 true)],[(iC,.row [.slice (some ⟨i7,of8,none⟩) pC.length zH,.slice aK pI.length zM,.slice aT pO.length zU] 95 0 true)],BO,BW,B15] F L F nx0∧Own bb F a12 z13 z11.1 B15) ?_ ?_
 refine WW.seq (WW.region ?_)
 refine sg0 hS 3 [] [21] [.bool (((gt (gt pC pAN) pAO).toNat:Int) != ((32:UInt8).toNat:Int))] [] (by kernel_rfl) fun s hS=>(bc hz11 (fun hc16 hz11=>?_) fun hc16 hz11=>?_)
 replace hS:=hS.kb 21 hc16 rfl
 refine sg0 hS 4 [0] [25] [.slice aY pW.length zZ] [iB] (by kernel_rfl) fun s hS=>?_
 obtain⟨y18,hy18,hz11⟩:=bind_some hz11
 replace hS:=hS.pull 4
 refine bE hS (wt hS rfl rfl rfl rfl) (vs:=[.slice aY pW.length zZ]) (ws:=[.slice aY pW.length zZ]) rfl rfl rfl rfl rfl 1 rfl (Cl.borrow hAA (fun _ hFb hz17=>g_1e.ok hy18 hz17) (by rintro _ _ _ _ ⟨_,_,rfl,_⟩; rfl)) fun s v S' F' hp19 hF hS=>?_
 obtain⟨rfl,_,_,_,rfl,⟨a20,z21,_,rfl,rfl,h22⟩⟩:=hp19
 refine sg0 hS 3 [] [29] [.bool ((y18.length:Int)==0)] [] (by kernel_rfl) fun s hS=>(KW.nil ?_)
 refine bc hz11 (fun hc23 hz11=>?_) fun hc23 hz11=>?_
 refine WW.condK hS rfl hc23 (WW.region ?_)
 refine sg hS 8 [1,1] [] [] [iB,iB] [BAB,[(iB,.row [.pointer (some ⟨iC,0,none⟩),.slice none 0 0,vB pAB,.bool pAC,.int .i64 pAD,.bool true,.int .i64 pAH,.int .i64 pAI,.int .i64 pAJ,.int .i64 pAK,.int .i64 pAM] 128 0 true)],[(iC,.row [.slice (some ⟨i7,of8,none⟩) pC.length zH,.slice aK pI.length zM,.slice aT pO.length zU] 95 0 true)],BO,BW] (by kernel_rfl) fun s hS=>(KW.nil ?_)
 replace hS:=hS.gap0
 replace hS:=(hS.pull 1).drop
 replace hS:=hS.pull 4
 replace hS:=hS.pull 4
 replace hS:=hS.pull 4
 replace hS:=hS.pull 4
 obtain rfl:=Option.some.inj hz11
 exact⟨_,_,_,(hS.subR rfl),Own.nil⟩
 refine WW.condF hS rfl hc23 (WW.skip ?_)
 replace hS:=hS.pull 4
 replace hS:=hS.pull 4
 replace hS:=hS.pull 4
 replace hS:=hS.pull 4
 obtain rfl:=Option.some.inj hz11
 exact⟨_,_,_,(hS.subR rfl),hAA⟩
 replace hS:=hS.kb 21 hc16 rfl
 refine sg0 hS 8 [] [29] [.bool false] [] (by kernel_rfl) fun s hS=>(KW.nil ?_)
 refine WW.condF hS rfl rfl (WW.skip ?_)
 obtain rfl:=Option.some.inj hz11
 exact⟨_,_,_,(hS.subR rfl),hAA⟩
 rintro s ⟨a12,z13,B15,hS,h14⟩
 refine WW.region (sg0 hS 9 [0] [36,40,41,42,44] [.pointer (some ⟨iB,0,none⟩),.slice a12 z11.1.length z13,vB (gt (gt pC pAN) pAO),.int .i64 pAN,.int .i64 (w64 (pAO+1))] [iB] (by kernel_rfl) fun s hS=>?_)
 refine am hS (wn rfl) rfl rfl rfl (v:= .agg #[.int .i64 0,.int .i64 pAN,.int .i64 (w64 (pAO+1))]) (bp jR tp58 [(1,.int .i64 pAN),(2,.int .i64 (w64 (pAO+1)))] (ar hS rfl) (cs:=[.int .i64 0,.int .i64 pAN,.int .i64 (w64 (pAO+1))]) rfl) fun s hS=>(am hS (wn rfl) rfl rfl rfl (v:= .agg #[vB (gt (gt pC pAN) pAO),.int .i64 0,.int .i64 pAN,.int .i64 (w64 (pAO+1))]) (bp f9 tp210 [(0,vB (gt (gt pC pAN) pAO)),(1,.agg #[.int .i64 0,.int .i64 pAN,.int .i64 (w64 (pAO+1))])] (ar hS rfl) (cs:=[vB (gt (gt pC pAN) pAO),.int .i64 0,.int .i64 pAN,.int .i64 (w64 (pAO+1))]) rfl) fun s hS=>?_)
 refine bf hS (wn rfl) rfl rfl rfl (v:=fun i=> .slice (some ⟨i,0,none⟩) 1 4) (b:= .row [vB (gt (gt pC pAN) pAO),.int .i64 0,.int .i64 pAN,.int .i64 (w64 (pAO+1))] 210 4 true) (be tu125 mN f9 rfl [(0,.agg #[vB (gt (gt pC pAN) pAO),.int .i64 0,.int .i64 pAN,.int .i64 (w64 (pAO+1))])] (ar hS rfl) rfl) fun s i24 hS=>?_
 have hC25:au bb F ([((gt (gt pC pAN) pAO),0,pAN,(w64 (pAO+1)))]:List (UInt8×Int×Int×Int)) [vB (gt (gt pC pAN) pAO),.int .i64 0,.int .i64 pAN,.int .i64 (w64 (pAO+1))]:=⟨[vB (gt (gt pC pAN) pAO),.int .i64 0,.int .i64 pAN,.int .i64 (w64 (pAO+1))],[],rfl,rfl,rfl⟩
 obtain⟨hk29,h⟩:=ac h
 replace hS:=hS.pull 5
 replace hS:=hS.pull 1
 refine eb hS (wn rfl) (dd:=bb) (lst:=z11.1) (m:=([((gt (gt pC pAN) pAO),0,pAN,(w64 (pAO+1)))]:List (UInt8×Int×Int×Int))) rfl rfl kV rfl rfl h14 (Nat.succ_pos _) hC25 hk29 fun s i26 cs27 hC28 hS=>(sg hS 3 [1] [] [] [iB] [[(i26,.row cs27 210 4 true)],[(iB,.row [.pointer (some ⟨iC,0,none⟩),.slice (some ⟨i26,0,none⟩) (z11.1++([((gt (gt pC pAN) pAO),0,pAN,(w64 (pAO+1)))]:List (UInt8×Int×Int×Int))).length 4,vB pAB,.bool pAC,.int .i64 pAD,.bool z11.2,.int .i64 pAH,.int .i64 pAI,.int .i64 pAJ,.int .i64 pAK,.int .i64 pAM] 128 0 true)],[(iC,.row [.slice (some ⟨i7,of8,none⟩) pC.length zH,.slice aK pI.length zM,.slice aT pO.length zU] 95 0 true)],BO,BW] (by kernel_rfl) fun s hS=>?_)
 refine KW.nil ?_
 replace hS:=hS.pull 4
 replace hS:=hS.pull 4
 replace hS:=hS.pull 4
 replace hS:=hS.pull 4
 cases h
 exact bW hS (.inl rfl) rfl ⟨_,_,_,rfl,rfl,rfl,(Own.blk0 hC28)⟩
noncomputable def g_1g.b0 (x1:(List (UInt8×Int×Int×Int))):Option (((List (UInt8×Int×Int×Int)))⊕((List (UInt8×Int×Int×Int)))) :=
  Option.bind ((if(decide ((x1.length:Int)>0)) then(if 0≤(w64 ((x1.length:Int)-1))∧(w64 ((x1.length:Int)-1))<(x1.length:Int) then some ((((gt x1 (w64 ((x1.length:Int)-1))).1).toNat:Int)==((32:UInt8).toNat:Int)) else none) else some false)) fun z11=>(if z11 then(if 0≤(0:Int)∧(0:Int)≤(w64 ((x1.length:Int)-1))∧(w64 ((x1.length:Int)-1))≤(x1.length:Int) then some (.inl (mid x1 (0:Int) (w64 ((x1.length:Int)-1)))) else none) else some (.inr x1))
noncomputable def g_1g.f (pA:List (UInt8×Int×Int×Int)):Option ((List (UInt8×Int×Int×Int))) :=
  Option.bind (iter (g_1g.b0) pA) fun o5=>some o5
theorem g_1g.ok {aC:Option Addr} {zD:Nat} {pA:List (UInt8×Int×Int×Int)} {F:FZ} {r:(List (UInt8×Int×Int×Int))} (h:g_1g.f pA=some r) (hE:Frz bb F aC zD pA) :
    Cl EV 152 [.slice aC pA.length zD] [] F (fun v S' F'=> ∃(ra1:Option Addr) (rz2:Nat),F=F'∧v= .slice ra1 r.length rz2∧S'= []∧Frz bb F' ra1 rz2 r):=by
 refine Cl.of Tryz.func152 rfl (fun _ _=>rfl) (by kernel_rfl) fun s L nx0 hS=>?_
 unfold g_1g.f at h
 refine WW.seq (WW.region ?_)
 refine sg0 hS 1 [] [2] [.slice none 0 0] [] (by kernel_rfl) fun s hS=>(KW.nil ?_)
 refine WW.seq (WW.block ?_)
 obtain⟨o5,ho5,h⟩:=bind_some h
 refine WW.loop (LW.iterE ho5 (fun(x1:(List (UInt8×Int×Int×Int))) s=> ∃(a2:Option Addr) (z3:Nat),Stt EV s [(0,.slice a2 x1.length z3),(2,.slice none 0 0)] [] F L F nx0∧Frz bb F a2 z3 x1) 0 ⟨_,_,(hS.subR rfl),hE⟩ ?_ ?_)
 clear hS
 rintro x1 s ⟨a2,z3,hS,h4⟩ o5' h10
 unfold g_1g.b0 at h10
 refine WW.seq (WW.seq ?_)
 refine WW.region (sg0 hS 4 [] [6] [.bool (decide ((x1.length:Int)>0))] [] (by kernel_rfl) fun s hS=>?_)
 obtain⟨z11,hz11,h10⟩:=bind_some h10
 refine aH 9 (fun s=>Stt EV s [(15,.bool z11),(0,.slice a2 x1.length z3),(2,.slice none 0 0)] [] F L F nx0) ?_ fun s hS=>?_
 refine bc hz11 (fun hc12 hz11=>?_) fun hc12 hz11=>?_
 replace hS:=hS.kb 6 hc12 rfl
 refine sg0 hS 4 [] [7,10] [.slice a2 x1.length z3,.int .i64 (w64 ((x1.length:Int)-1))] [] (by kernel_rfl) fun s hS=>?_
 obtain⟨hk13,hz11⟩:=ac hz11
 obtain⟨i19,of20,rfl⟩:=Frz.addr h4 (by omega)
 obtain⟨_,_,_,_,c14,hF21,hR15,hN16,hN17,hT18⟩:=Frz.at h4 hk13 (m:=4) rfl
 obtain rfl:=hR15
 refine am hS (wt hS rfl rfl rfl rfl) rfl rfl rfl (v:= .pointer (some ⟨i19,of20+((w64 ((x1.length:Int)-1))).toNat*4,none⟩)) (aW (hS.lk rfl) (hS.lk rfl) eV hk13) fun s hS=>(am hS (wt hS rfl rfl rfl rfl) rfl rfl rfl (v:= .pointer (some ⟨i19,of20+((w64 ((x1.length:Int)-1))).toNat*4+0,none⟩)) (cn (hS.lk rfl) iP rfl rfl) fun s hS=>?_)
 refine gG hS (wt hS rfl rfl rfl rfl) rfl rfl rfl (hS.fat hF21) tg5 (v:=vB ((gt x1 (w64 ((x1.length:Int)-1))).1)) (hN17 0 (by decide)) fun s hS=>(sg0 hS 2 [] [15] [.bool ((((gt x1 (w64 ((x1.length:Int)-1))).1).toNat:Int)==((32:UInt8).toNat:Int))] [] (by kernel_rfl) fun s hS=>?_)
 refine KW.nil ?_
 obtain rfl:=Option.some.inj hz11
 exact hS.subR rfl
 replace hS:=hS.kb 6 hc12 rfl
 refine sg0 hS 9 [] [15] [.bool false] [] (by kernel_rfl) fun s hS=>(KW.nil ?_)
 obtain rfl:=Option.some.inj hz11
 exact hS.subR rfl
 refine KW.nil (bc h10 (fun hc22 h10=>?_) fun hc22 h10=>?_)
 refine WW.condK hS rfl hc22 (WW.skip ?_)
 refine WW.block (WW.region ?_)
 refine sg0 hS 4 [] [16,19] [.slice a2 x1.length z3,.int .i64 (w64 ((x1.length:Int)-1))] [] (by kernel_rfl) fun s hS=>?_
 obtain⟨hk23,h10⟩:=ac h10
 obtain⟨a24,he25,hz26⟩:=Frz.slice h4 hk23 (m:=4) rfl
 refine am hS (wn rfl) rfl rfl rfl (v:= .slice a24 (mid x1 (0:Int) (w64 ((x1.length:Int)-1))).length z3) (di eV (hS.lk rfl) (i:=(0:Int)) (h:=(w64 ((x1.length:Int)-1))) rfl (bu hS rfl) he25) fun s hS=>(sg0 hS 1 [] [0] [.slice a24 (mid x1 (0:Int) (w64 ((x1.length:Int)-1))).length z3] [] (by kernel_rfl) fun s hS=>?_)
 refine KW.nil ?_
 obtain rfl:=Option.some.inj h10
 exact⟨_,rfl,_,_,(hS.subR rfl),hz26⟩
 refine WW.condF hS rfl hc22 (WW.exit ?_)
 refine af ?_
 obtain rfl:=Option.some.inj h10
 exact⟨_,rfl,rfl,_,_,(hS.subR rfl),h4⟩
 clear hS
 rintro e s ⟨rfl,a27,z28,hS,h29⟩
 refine ah (WW.seq ?_)
 refine WW.region (sg0 hS 2 [] [2] [.slice a27 o5.length z28] [] (by kernel_rfl) fun s hS=>?_)
 refine KW.nil (WW.ret ?_)
 cases h
 exact aS hS (.inr rfl) 2 rfl rfl ⟨_,_,rfl,rfl,rfl,h29⟩
noncomputable def g_18.f (pA:UInt8):Option (Bool) :=
  some ((decide (((48:UInt8).toNat:Int)≤(pA.toNat:Int)))&&(decide ((pA.toNat:Int)≤((57:UInt8).toNat:Int))))
theorem g_18.ok {pA:UInt8} {F:FZ} {r:Bool} (h:g_18.f pA=some r) :
    Cl EV 101 [vB pA] [] F (fun v S' F'=>F=F'∧v= .bool r∧S'= []):=by
 refine Cl.of Tryz.func101 rfl (fun _ _=>rfl) (by kernel_rfl) fun s L nx0 hS=>?_
 unfold g_18.f at h
 refine WW.seq (WW.region ?_)
 refine sg0 hS 1 [] [2] [.bool false] [] (by kernel_rfl) fun s hS=>(KW.nil ?_)
 refine WW.seq (WW.region ?_)
 refine sg0 hS 3 [] [5] [.bool (decide (((48:UInt8).toNat:Int)≤(pA.toNat:Int)))] [] (by kernel_rfl) fun s hS=>(aH 3 (fun s=>Stt EV s [(8,.bool ((decide (((48:UInt8).toNat:Int)≤(pA.toNat:Int)))&&(decide ((pA.toNat:Int)≤((57:UInt8).toNat:Int))))),(2,.bool false)] [] F L F nx0) ?_ fun s hS=>?_)
 rcases ax ((decide (((48:UInt8).toNat:Int)≤(pA.toNat:Int)))) with hcj | hcj
 replace hS:=hS.know (t:=5) rfl (congrArg Value.bool hcj)
 refine sg0 hS 3 [] [8] [.bool (decide ((pA.toNat:Int)≤((57:UInt8).toNat:Int)))] [] (by kernel_rfl) fun s hS=>(KW.nil ?_)
 exact(hS.know (t:=8) (u':= .bool ((decide (((48:UInt8).toNat:Int)≤(pA.toNat:Int)))&&(decide ((pA.toNat:Int)≤((57:UInt8).toNat:Int))))) rfl (bw hcj)).subR rfl
 replace hS:=hS.know (t:=5) rfl (congrArg Value.bool hcj)
 refine sg0 hS 3 [] [8] [.bool false] [] (by kernel_rfl) fun s hS=>(KW.nil ?_)
 exact(hS.know (t:=8) (u':= .bool ((decide (((48:UInt8).toNat:Int)≤(pA.toNat:Int)))&&(decide ((pA.toNat:Int)≤((57:UInt8).toNat:Int))))) rfl (bx hcj)).subR rfl
 refine sg0 hS 1 [] [2] [.bool ((decide (((48:UInt8).toNat:Int)≤(pA.toNat:Int)))&&(decide ((pA.toNat:Int)≤((57:UInt8).toNat:Int))))] [] (by kernel_rfl) fun s hS=>(KW.nil ?_)
 refine WW.ret ?_
 cases h
 exact aS hS (.inr rfl) 2 rfl rfl ⟨rfl,rfl,rfl⟩
noncomputable def g_1m.f (pB:Bool) (pC:List UInt8) (pK:UInt8):Option (Bool×List UInt8) :=
  Option.bind (g_copyCheck.f pB) fun y1=>(if pC.length+([pK]:List UInt8).length<1000000000 then some (y1,(pC++([pK]:List UInt8))) else none)
theorem g_1m.ok {iB:Nat} {aE:Option Addr} {zH:Nat} {BJ:Seg} {pB:Bool} {pC:List UInt8} {pK:UInt8} {F:FZ} {r:Bool×List UInt8} (h:g_1m.f pB pC pK=some r) (hI:Own (elB 5) F aE zH pC BJ) :
    Cl EV 182 [.pointer (some ⟨iB,0,none⟩),vB pK] [[(iB,.row [ir iB pB,.slice aE pC.length zH] 153 0 true)],BJ] F (fun v S' F'=> ∃(ra1:Option Addr) (rz2:Nat) (rB4:Seg),F=F'∧v= .nilIface∧S'= [[(iB,.row [ir iB r.1,.slice ra1 r.2.length rz2] 153 0 true)],rB4]∧Own (elB 5) F' ra1 rz2 r.2 rB4∧(r.2= []→ra1=none)):=by
 refine Cl.of Tryz.func182 rfl (fun _ _=>rfl) (by kernel_rfl) fun s L nx0 hS=>?_
 unfold g_1m.f at h
 refine WW.seq (WW.region ?_)
 refine sg0 hS 1 [] [4] [.nilIface] [] (by kernel_rfl) fun s hS=>(KW.nil ?_)
 refine WW.seq (WW.region ?_)
 obtain⟨y1,hy1,h⟩:=bind_some h
 refine cR (g_copyCheck.ok hy1) hS 1 6 2 rfl (by kernel_rfl) fun s hS=>(KW.nil ?_)
 refine WW.seq (WW.region ?_)
 refine sg0 hS 6 [0] [7,11,12] [.pointer (some ⟨iB,0,none⟩),.slice aE pC.length zH,vB pK] [iB] (by kernel_rfl) fun s hS=>(bf hS (wn rfl) rfl rfl rfl (v:=fun i=> .slice (some ⟨i,0,none⟩) 1 1) (b:= .row [vB pK] 5 1 true) (be tu83 tz5 t0_5 rfl [(0,vB pK)] (ar hS rfl) rfl) fun s i3 hS=>?_)
 have hC4:au (elB 5) F ([pK]:List UInt8) [vB pK]:=⟨[vB pK],[],rfl,rfl,rfl⟩
 obtain⟨hk8,h⟩:=ac h
 replace hS:=hS.pull 2
 replace hS:=hS.pull 1
 refine eb hS (wn rfl) (dd:=(elB 5)) (lst:=pC) (m:=([pK]:List UInt8)) rfl rfl ta83_83 rfl rfl hI (Nat.succ_pos _) hC4 hk8 fun s i5 cs6 hC7 hS=>(sg hS 3 [1] [] [] [iB] [[(i5,.row cs6 5 1 true)],[(iB,.row [ir iB y1,.slice (some ⟨i5,0,none⟩) (pC++([pK]:List UInt8)).length 1] 153 0 true)]] (by kernel_rfl) fun s hS=>?_)
 refine KW.nil (WW.seq ?_)
 refine WW.region (sg0 hS 1 [] [4] [.nilIface] [] (by kernel_rfl) fun s hS=>?_)
 refine KW.nil (WW.ret ?_)
 replace hS:=hS.pull 1
 cases h
 exact aS hS (.inr rfl) 4 rfl rfl ⟨_,_,_,rfl,rfl,rfl,(Own.blk0 hC7),(fun e=>absurd e (by simp))⟩
noncomputable def g_1h.b0 (pA:List (UInt8×Int×Int×Int)) (x2:Int×Bool×List UInt8):Option ((Int×Bool×List UInt8)⊕(Int×Bool×List UInt8)) :=
  (if(decide (x2.1<(pA.length:Int))) then(if 0≤x2.1∧x2.1<(pA.length:Int) then Option.bind (g_1m.f x2.2.1 x2.2.2 ((gt pA x2.1).1)) fun y27=>some (.inl ((w64 (x2.1+1)),y27.1,y27.2)) else none) else some (.inr (x2.1,x2.2.1,x2.2.2)))
noncomputable def g_1h.f (pA:List (UInt8×Int×Int×Int)):Option (List UInt8) :=
  Option.bind (iter (g_1h.b0 pA) (0,false,([]:List UInt8))) fun o8=>Option.bind (g_BString.f o8.2.2) fun y39=>some y39
theorem g_1h.ok {aC:Option Addr} {zD:Nat} {pA:List (UInt8×Int×Int×Int)} {F:FZ} {r:List UInt8} (h:g_1h.f pA=some r) (hE:Frz bb F aC zD pA) :
    Cl EV 167 [.slice aC pA.length zD] [] F (fun v S' F'=>F=F'∧v=aa r∧S'= []):=by
 refine Cl.of Tryz.func167 rfl (fun _ _=>rfl) (by kernel_rfl) fun s L nx0 hS=>?_
 unfold g_1h.f at h
 refine WW.seq (WW.region ?_)
 refine sg0 hS 1 [] [2] [aa ([])] [] (by kernel_rfl) fun s hS=>(KW.nil ?_)
 refine WW.seq (WW.region ?_)
 refine bf hS (wn rfl) rfl rfl rfl (v:=fun i=> .pointer (some ⟨i,0,none⟩)) (b:= .row [.pointer none,.slice none 0 0] 153 0 true) (aU t0_153) fun s i1 hS=>(KW.nil ?_)
 refine WW.seq (WW.seq ?_)
 refine WW.region (sg0 hS 3 [] [6,7,8] [.slice aC pA.length zD,.int .i64 (pA.length:Int),.int .i64 0] [] (by kernel_rfl) fun s hS=>?_)
 refine KW.nil (WW.block ?_)
 replace hS:=hS.gap0
 obtain⟨o8,ho8,h⟩:=bind_some h
 refine WW.loop (LW.iterE ho8 (fun(x2:Int×Bool×List UInt8) s=> ∃(a3:Option Addr) (z4:Nat) (B6:Seg),Stt EV s [(2,aa ([])),(3,.pointer (some ⟨i1,0,none⟩)),(6,.slice aC pA.length zD),(7,.int .i64 (pA.length:Int)),(8,.int .i64 x2.1)] [B6,[(i1,.row [ir i1 x2.2.1,.slice a3 x2.2.2.length z4] 153 0 true)]] F L F nx0∧Own (elB 5) F a3 z4 x2.2.2 B6∧(x2.2.2= []→a3=none)) 0 ⟨_,_,_,(hS.subR rfl),Own.nil,(fun _=>rfl)⟩ ?_ ?_)
 clear hS
 rintro x2 s ⟨a3,z4,B6,hS,h5,hn7⟩ o8' h15
 unfold g_1h.b0 at h15
 refine WW.seq (WW.region ?_)
 refine sg0 hS 1 [] [9] [.bool (decide (x2.1<(pA.length:Int)))] [] (by kernel_rfl) fun s hS=>(KW.nil ?_)
 refine WW.seq (bc h15 (fun hc16 h15=>?_) fun hc16 h15=>?_)
 refine WW.condK hS rfl hc16 (WW.skip ?_)
 refine WW.seq (WW.block ?_)
 refine WW.seq (WW.region ?_)
 obtain⟨hk17,h15⟩:=ac h15
 obtain⟨i23,of24,rfl⟩:=Frz.addr hE (by omega)
 obtain⟨_,_,_,_,c18,hF25,hR19,hN20,hN21,hT22⟩:=Frz.at hE hk17 (m:=4) rfl
 obtain rfl:=hR19
 refine am hS (wn rfl) rfl rfl rfl (v:= .pointer (some ⟨i23,of24+(x2.1).toNat*4,none⟩)) (aW (hS.lk rfl) (hS.lk rfl) eV hk17) fun s hS=>(oL hS (wn rfl) rfl rfl rfl (hS.fat hF25) rZ mN (vs:=[vB ((gt pA x2.1).1),.int .i64 ((gt pA x2.1).2.1),.int .i64 ((gt pA x2.1).2.2.1),.int .i64 ((gt pA x2.1).2.2.2)]) hT22 fun s hS=>?_)
 refine bf hS (wn rfl) rfl rfl rfl (v:=fun i=> .pointer (some ⟨i,0,none⟩)) (b:= .row [vB 0,.int .i64 0,.int .i64 0,.int .i64 0] 210 0 true) (aU f9) fun s i26 hS=>(sg hS 1 [0] [] [] [i26] [[(i26,.row [vB ((gt pA x2.1).1),.int .i64 ((gt pA x2.1).2.1),.int .i64 ((gt pA x2.1).2.2.1),.int .i64 ((gt pA x2.1).2.2.2)] 210 0 true)],B6,[(i1,.row [ir i1 x2.2.1,.slice a3 x2.2.2.length z4] 153 0 true)]] (by kernel_rfl) fun s hS=>?_)
 refine KW.nil (WW.region ?_)
 refine sg0 hS 2 [0] [13] [vB ((gt pA x2.1).1)] [i26] (by kernel_rfl) fun s hS=>?_
 obtain⟨y27,hy27,h15⟩:=bind_some h15
 replace hS:=hS.pull 1
 replace hS:=hS.pull 2
 refine bE hS (wn rfl) (vs:=[.pointer (some ⟨i1,0,none⟩),vB ((gt pA x2.1).1)]) (ws:=[.pointer (some ⟨i1,0,none⟩),vB ((gt pA x2.1).1)]) rfl rfl rfl rfl rfl 2 rfl (g_1m.ok hy27 h5) fun s v S' F' hp28 hF hS=>?_
 obtain⟨a29,z30,B32,rfl,rfl,rfl,h31,hn33⟩:=hp28
 refine KW.nil (WW.region ?_)
 refine sg0 hS 2 [] [8] [.int .i64 (w64 (x2.1+1))] [] (by kernel_rfl) fun s hS=>(KW.nil ?_)
 replace hS:=(hS.pull 2).drop
 replace hS:=hS.pull 1
 obtain rfl:=Option.some.inj h15
 exact⟨_,rfl,_,_,_,(hS.subR rfl),h31,hn33⟩
 refine WW.condF hS rfl hc16 (WW.exit ?_)
 refine af ?_
 obtain rfl:=Option.some.inj h15
 exact⟨_,rfl,rfl,_,_,_,(hS.subR rfl),h5,hn7⟩
 clear hS
 rintro e s ⟨rfl,a34,z35,B37,hS,h36,hn38⟩
 refine ah (WW.seq ?_)
 refine WW.region ?_
 obtain⟨y39,hy39,h⟩:=bind_some h
 replace hS:=hS.pull 1
 refine cR (g_BString.ok hy39 h36 hn38) hS 0 16 2 rfl (by kernel_rfl) fun s hS=>(sg0 hS 1 [] [2] [aa y39] [] (by kernel_rfl) fun s hS=>?_)
 refine KW.nil (WW.ret ?_)
 cases h
 exact aS hS (.inr rfl) 2 rfl rfl ⟨rfl,rfl,rfl⟩
noncomputable def g_1f.b0 (pA:List (UInt8×Int×Int×Int)) (x1:(List (Int×Int×Int))×Int):Option (((List (Int×Int×Int))×Int)⊕((List (Int×Int×Int))×Int)) :=
  (if(decide (x1.2<(pA.length:Int))) then(if 0≤x1.2∧x1.2<(pA.length:Int) then(if x1.1.length+([(((gt pA x1.2).2.1),((gt pA x1.2).2.2.1),((gt pA x1.2).2.2.2))]:List (Int×Int×Int)).length<1000000000 then some (.inl ((x1.1++([(((gt pA x1.2).2.1),((gt pA x1.2).2.2.1),((gt pA x1.2).2.2.2))]:List (Int×Int×Int))),(w64 (x1.2+1)))) else none) else none) else some (.inr (x1.1,x1.2)))
noncomputable def g_1f.f (pA:List (UInt8×Int×Int×Int)):Option ((List (Int×Int×Int))) :=
  Option.bind (iter (g_1f.b0 pA) (([]:List (Int×Int×Int)),0)) fun o6=>some o6.1
theorem g_1f.ok {aC:Option Addr} {zD:Nat} {pA:List (UInt8×Int×Int×Int)} {F:FZ} {r:(List (Int×Int×Int))} (h:g_1f.f pA=some r) (hE:Frz bb F aC zD pA) :
    Cl EV 168 [.slice aC pA.length zD] [] F (fun v S' F'=> ∃(ra1:Option Addr) (rz2:Nat) (rB4:Seg),F=F'∧v= .slice ra1 r.length rz2∧S'= [rB4]∧Own dj F' ra1 rz2 r rB4):=by
 refine Cl.of Tryz.func168 rfl (fun _ _=>rfl) (by kernel_rfl) fun s L nx0 hS=>?_
 unfold g_1f.f at h
 refine WW.seq (WW.region ?_)
 refine sg0 hS 1 [] [2] [.slice none 0 0] [] (by kernel_rfl) fun s hS=>(KW.nil ?_)
 refine WW.seq (WW.region ?_)
 refine sg0 hS 1 [] [3] [.slice none 0 0] [] (by kernel_rfl) fun s hS=>(KW.nil ?_)
 refine WW.seq (WW.seq ?_)
 refine WW.region (sg0 hS 3 [] [6,7,8] [.slice aC pA.length zD,.int .i64 (pA.length:Int),.int .i64 0] [] (by kernel_rfl) fun s hS=>?_)
 refine KW.nil (WW.block ?_)
 replace hS:=hS.gap0
 obtain⟨o6,ho6,h⟩:=bind_some h
 refine WW.loop (LW.iterE ho6 (fun(x1:(List (Int×Int×Int))×Int) s=> ∃(a2:Option Addr) (z3:Nat) (B5:Seg),Stt EV s [(2,.slice none 0 0),(3,.slice a2 x1.1.length z3),(6,.slice aC pA.length zD),(7,.int .i64 (pA.length:Int)),(8,.int .i64 x1.2)] [B5] F L F nx0∧Own dj F a2 z3 x1.1 B5) 0 ⟨_,_,_,(hS.subR rfl),Own.nil⟩ ?_ ?_)
 clear hS
 rintro x1 s ⟨a2,z3,B5,hS,h4⟩ o6' h12
 unfold g_1f.b0 at h12
 refine WW.seq (WW.region ?_)
 refine sg0 hS 1 [] [9] [.bool (decide (x1.2<(pA.length:Int)))] [] (by kernel_rfl) fun s hS=>(KW.nil ?_)
 refine WW.seq (bc h12 (fun hc13 h12=>?_) fun hc13 h12=>?_)
 refine WW.condK hS rfl hc13 (WW.skip ?_)
 refine WW.seq (WW.block ?_)
 refine WW.seq (WW.region ?_)
 obtain⟨hk14,h12⟩:=ac h12
 obtain⟨i20,of21,rfl⟩:=Frz.addr hE (by omega)
 obtain⟨_,_,_,_,c15,hF22,hR16,hN17,hN18,hT19⟩:=Frz.at hE hk14 (m:=4) rfl
 obtain rfl:=hR16
 refine am hS (wn rfl) rfl rfl rfl (v:= .pointer (some ⟨i20,of21+(x1.2).toNat*4,none⟩)) (aW (hS.lk rfl) (hS.lk rfl) eV hk14) fun s hS=>(oL hS (wn rfl) rfl rfl rfl (hS.fat hF22) rZ mN (vs:=[vB ((gt pA x1.2).1),.int .i64 ((gt pA x1.2).2.1),.int .i64 ((gt pA x1.2).2.2.1),.int .i64 ((gt pA x1.2).2.2.2)]) hT19 fun s hS=>?_)
 refine bf hS (wn rfl) rfl rfl rfl (v:=fun i=> .pointer (some ⟨i,0,none⟩)) (b:= .row [vB 0,.int .i64 0,.int .i64 0,.int .i64 0] 210 0 true) (aU f9) fun s i23 hS=>(sg hS 1 [0] [] [] [i23] [[(i23,.row [vB ((gt pA x1.2).1),.int .i64 ((gt pA x1.2).2.1),.int .i64 ((gt pA x1.2).2.2.1),.int .i64 ((gt pA x1.2).2.2.2)] 210 0 true)],B5] (by kernel_rfl) fun s hS=>?_)
 refine KW.nil (WW.region ?_)
 refine sg0 hS 3 [0] [12,14] [.slice a2 x1.1.length z3,.agg #[.int .i64 ((gt pA x1.2).2.1),.int .i64 ((gt pA x1.2).2.2.1),.int .i64 ((gt pA x1.2).2.2.2)]] [i23] (by kernel_rfl) fun s hS=>(bf hS (wn rfl) rfl rfl rfl (v:=fun i=> .slice (some ⟨i,0,none⟩) 1 3) (b:= .row [.int .i64 ((gt pA x1.2).2.1),.int .i64 ((gt pA x1.2).2.2.1),.int .i64 ((gt pA x1.2).2.2.2)] 58 3 true) (be tu59 sb jR rfl [(0,.agg #[.int .i64 ((gt pA x1.2).2.1),.int .i64 ((gt pA x1.2).2.2.1),.int .i64 ((gt pA x1.2).2.2.2)])] (ar hS rfl) rfl) fun s i24 hS=>?_)
 have hC25:au dj F ([(((gt pA x1.2).2.1),((gt pA x1.2).2.2.1),((gt pA x1.2).2.2.2))]:List (Int×Int×Int)) [.int .i64 ((gt pA x1.2).2.1),.int .i64 ((gt pA x1.2).2.2.1),.int .i64 ((gt pA x1.2).2.2.2)]:=⟨[.int .i64 ((gt pA x1.2).2.1),.int .i64 ((gt pA x1.2).2.2.1),.int .i64 ((gt pA x1.2).2.2.2)],[],rfl,rfl,rfl⟩
 obtain⟨hk29,h12⟩:=ac h12
 replace hS:=hS.pull 2
 replace hS:=hS.pull 1
 refine eb hS (wn rfl) (dd:=dj) (lst:=x1.1) (m:=([(((gt pA x1.2).2.1),((gt pA x1.2).2.2.1),((gt pA x1.2).2.2.2))]:List (Int×Int×Int))) rfl rfl lZ rfl rfl h4 (Nat.succ_pos _) hC25 hk29 fun s i26 cs27 hC28 hS=>(sg0 hS 1 [] [3] [.slice (some ⟨i26,0,none⟩) (x1.1++([(((gt pA x1.2).2.1),((gt pA x1.2).2.2.1),((gt pA x1.2).2.2.2))]:List (Int×Int×Int))).length 3] [] (by kernel_rfl) fun s hS=>?_)
 refine KW.nil (WW.region ?_)
 refine sg0 hS 2 [] [8] [.int .i64 (w64 (x1.2+1))] [] (by kernel_rfl) fun s hS=>(KW.nil ?_)
 replace hS:=(hS.pull 1).drop
 obtain rfl:=Option.some.inj h12
 exact⟨_,rfl,_,_,_,(hS.subR rfl),(Own.blk0 hC28)⟩
 refine WW.condF hS rfl hc13 (WW.exit ?_)
 refine af ?_
 obtain rfl:=Option.some.inj h12
 exact⟨_,rfl,rfl,_,_,_,(hS.subR rfl),h4⟩
 clear hS
 rintro e s ⟨rfl,a30,z31,B33,hS,h32⟩
 refine ah (WW.seq ?_)
 refine WW.region (sg0 hS 2 [] [2] [.slice a30 o6.1.length z31] [] (by kernel_rfl) fun s hS=>?_)
 refine KW.nil (WW.ret ?_)
 cases h
 exact aS hS (.inr rfl) 2 rfl rfl ⟨_,_,_,rfl,rfl,rfl,h32⟩
noncomputable def g_1j.f (pN:List (Int×List UInt8×(List (Int×Int×Int)))) (pV:Int) (pW:List (UInt8×Int×Int×Int)):Option ((List (Int×List UInt8×(List (Int×Int×Int))))) :=
  Option.bind (g_1h.f pW) fun y1=>Option.bind (g_1f.f pW) fun y3=>(if pN.length+([(pV,y1,y3)]:List (Int×List UInt8×(List (Int×Int×Int)))).length<1000000000 then some (pN++([(pV,y1,y3)]:List (Int×List UInt8×(List (Int×Int×Int))))) else none)
theorem g_1j.ok {iB:Nat} {aD:Option Addr} {zE:Nat} {aJ:Option Addr} {zK:Nat} {BN:Seg} {aP:Option Addr} {zT:Nat} {BV:Seg} {aY:Option Addr} {zZ:Nat} {pB:List (List UInt8)} {pH:List Int} {pN:List (Int×List UInt8×(List (Int×Int×Int)))} {pV:Int} {pW:List (UInt8×Int×Int×Int)} {F:FZ} {r:(List (Int×List UInt8×(List (Int×Int×Int))))} (h:g_1j.f pN pV pW=some r) (hU:Own bs F aP zT pN BV) (hAA:Frz bb F aY zZ pW) :
    Cl EV 153 [.pointer (some ⟨iB,0,none⟩),.int .i64 pV,.slice aY pW.length zZ] [[(iB,.row [.slice aD pB.length zE,.slice aJ pH.length zK,.slice aP pN.length zT] 95 0 true)],BN,BV] F (fun v S' F'=> ∃(ra1:Option Addr) (rz2:Nat) (rB4:Seg),FLe F F'∧v= .tuple #[]∧S'= [[(iB,.row [.slice aD pB.length zE,.slice aJ pH.length zK,.slice ra1 r.length rz2] 95 0 true)],BN,rB4]∧Own bs F' ra1 rz2 r rB4):=by
 refine Cl.of Tryz.func153 rfl (fun _ _=>rfl) (by kernel_rfl) fun s L nx0 hS=>?_
 unfold g_1j.f at h
 refine WW.regionD (i:=[[],[0],[0],[0],[0],[4,3,2,1,0],[5,4,3,2,1,0],[5,4,3,2,1,0],[7,6,5,4,3,2,1,0],[5,4,3,2,1,0],[4,3,2,1,0],[4,3,2,1,0],[0],[],[],[]]) (by kernel_rfl) ?_
 have hq:=RS.start [iB]
 refine kg hS hq 4 [6,9] [.pointer (some ⟨iB,0,none⟩),.pointer (some ⟨iB,2,none⟩)] (by kernel_rfl) fun s rs hS hq=>(K.ld hS hq rfl (wn rfl) rfl rfl rfl (hS.at (k:=0) rfl) tg40 (v:= .slice aP pN.length zT) rfl 0 rfl rfl fun s rs hS hq=>?_)
 refine kg hS hq 2 [11,12] [.int .i64 pV,.slice aY pW.length zZ] (by kernel_rfl) fun s rs hS hq=>?_
 obtain⟨y1,hy1,h⟩:=bind_some h
 refine K.cl hS hq rfl (wn rfl) (vs:=[.slice aY pW.length zZ]) (ws:=[.slice aY pW.length zZ]) rfl rfl rfl rfl rfl 0 rfl (g_1h.ok hy1 hAA)  [0] rfl rfl (aZ rfl mm0 bv) fun s rs v S' F' hp2 hF hS hq=>?_
 obtain⟨rfl,rfl,rfl⟩:=hp2
 refine kg hS hq 1 [14] [.slice aY pW.length zZ] (by kernel_rfl) fun s rs hS hq=>?_
 obtain⟨y3,hy3,h⟩:=bind_some h
 refine K.cl hS hq rfl (wn rfl) (vs:=[.slice aY pW.length zZ]) (ws:=[.slice aY pW.length zZ]) rfl rfl rfl rfl rfl 0 rfl (g_1f.ok hy3 hAA)  [0] rfl rfl (aZ rfl mm0 bv) fun s rs v S' F' hp4 hF hS hq=>?_
 obtain⟨a5,z6,B8,rfl,rfl,rfl,h7⟩:=hp4
 refine K.pu hS hq rfl (wn rfl) rfl rfl rfl (v:= .agg #[.int .i64 pV,aa y1,.slice a5 y3.length z6]) (bp ed tp61 [(0,.int .i64 pV),(1,aa y1),(2,.slice a5 y3.length z6)] (ar hS rfl) (cs:=[.int .i64 pV,aa y1,.slice a5 y3.length z6]) rfl) fun s rs hS hq=>?_
 obtain⟨F9,hF10,hS,hz11⟩:=hS.frzO h7
 refine K.nw hS hq rfl (wn rfl) rfl rfl rfl (v:=fun i=> .slice (some ⟨i,0,none⟩) 1 3) (b:= .row [.int .i64 pV,aa y1,.slice a5 y3.length z6] 61 3 true) (be tu40 kp ed rfl [(0,.agg #[.int .i64 pV,aa y1,.slice a5 y3.length z6])] (ar hS rfl) rfl) [0] (aZ rfl mm0 bv) rfl rfl rfl fun s rs i12 hS hq=>?_
 have hC13:au bs F9 ([(pV,y1,y3)]:List (Int×List UInt8×(List (Int×Int×Int)))) [.int .i64 pV,aa y1,.slice a5 y3.length z6]:=⟨[.int .i64 pV,aa y1,.slice a5 y3.length z6],[],rfl,⟨_,_,rfl,hz11⟩,rfl⟩
 obtain⟨hk17,h⟩:=ac h
 replace hS:=hS.pull 3
 replace hS:=hS.pull 1
 refine K.app [] hS hq rfl (wn rfl) (dd:=bs) (lst:=pN) (m:=([(pV,y1,y3)]:List (Int×List UInt8×(List (Int×Int×Int))))) rfl rfl iO rfl rfl (hU.mono hF10) (Nat.succ_pos _) hC13 hk17 [0] rfl rfl (aZ rfl mm0 bv) fun s rs i14 cs15 hC16 hS hq=>(kg hS hq 2 [20] [.pointer (some ⟨iB,2,none⟩)] (by kernel_rfl) fun s rs hS hq=>?_)
 refine K.sto hS hq rfl (wn rfl) rfl rfl rfl rfl (p:=1) rfl tz40 rfl [.slice aD pB.length zE,.slice aJ pH.length zK,.slice (some ⟨i14,0,none⟩) (pN++([(pV,y1,y3)]:List (Int×List UInt8×(List (Int×Int×Int))))).length 3] rfl [] rfl bv fun s rs hS hq=>(KW.nil ?_)
 replace hS:=hS.pull 2
 replace hS:=hS.pull 2
 cases h
 exact bW hS (.inl rfl) rfl ⟨_,_,_,(hF10),rfl,rfl,(Own.blk0 hC16)⟩
noncomputable def g_11.b0 (y9:(List (UInt8×Int×Int×Int))) (x14:Int):Option ((Int)⊕(Int)) :=
  Option.bind ((if(decide (x14<(y9.length:Int))) then(if 0≤x14∧x14<(y9.length:Int) then Option.bind (g_18.f ((gt y9 x14).1)) fun y29=>some y29 else none) else some false)) fun z18=>(if z18 then some (.inl (w64 (x14+1))) else some (.inr x14))
noncomputable def g_11.b1 (y9:(List (UInt8×Int×Int×Int))) (o15:Int) (x58:Int×Int):Option ((Int×Int)⊕(Int×Int)) :=
  (if(decide (x58.2<((mid y9 (0:Int) o15).length:Int))) then(if 0≤x58.2∧x58.2<((mid y9 (0:Int) o15).length:Int) then some (.inl ((w64 ((w64 (10*x58.1))+(IntKind.i64.wrap ((((gt (mid y9 (0:Int) o15) x58.2).1)-48).toNat:Int)))),(w64 (x58.2+1)))) else none) else some (.inr (x58.1,x58.2)))
noncomputable def g_11.f (pO:List (Int×List UInt8×(List (Int×Int×Int)))) (pW:List (UInt8×Int×Int×Int)) (pAH:Int) (pAI:Int) (pAJ:Int) (pAK:Int) (pAM:Int):Option ((List (UInt8×Int×Int×Int))×Int×Int×Int×Int×Int×Int×(List (Int×List UInt8×(List (Int×Int×Int))))) :=
  Option.bind (g_1e.f pW) fun y4=>Option.bind (g_1g.f y4) fun y9=>Option.bind (iter (g_11.b0 y9) 0) fun o15=>Option.bind (Option.bind (g_1l.f o15 1 5) fun y40=>Option.bind ((if(y40&&(decide (o15<(y9.length:Int)))) then(if 0≤o15∧o15<(y9.length:Int) then some ((((gt y9 o15).1).toNat:Int)==((32:UInt8).toNat:Int)) else none) else some false)) fun z42=>(if z42 then(if 0≤(0:Int)∧(0:Int)≤o15∧o15≤(y9.length:Int) then Option.bind (iter (g_11.b1 y9 o15) (0,0)) fun o59=>Option.bind ((if(o59.1==0) then Option.bind (g_15.f pAH pAI pAJ pAK pAM 4 2) fun y79=>some (([]:List (UInt8×Int×Int×Int)),y79.1,y79.2.1,y79.2.2.1,y79.2.2.2.1,y79.2.2.2.2) else some (([]:List (UInt8×Int×Int×Int)),pAH,pAI,pAJ,pAK,pAM))) fun z73=>(if 0≤o15∧o15≤(y9.length:Int)∧(y9.length:Int)≤(y9.length:Int) then Option.bind (g_1e.f (mid y9 o15 (y9.length:Int))) fun y85=>some (y85,o59.1,z73.1,z73.2.1,z73.2.2.1,z73.2.2.2.1,z73.2.2.2.2.1,z73.2.2.2.2.2) else none) else none) else some (y9,0,([]:List (UInt8×Int×Int×Int)),pAH,pAI,pAJ,pAK,pAM))) fun z32=>(if((z32.1.length:Int)==0) then some (z32.2.2.1,0,z32.2.2.2.1,z32.2.2.2.2.1,z32.2.2.2.2.2.1,z32.2.2.2.2.2.2.1,z32.2.2.2.2.2.2.2,pO) else Option.bind ((if(decide ((z32.1.length:Int)>1320)) then Option.bind (g_15.f z32.2.2.2.1 z32.2.2.2.2.1 z32.2.2.2.2.2.1 z32.2.2.2.2.2.2.1 z32.2.2.2.2.2.2.2 4 8) fun y93=>some (y93.1,y93.2.1,y93.2.2.1,y93.2.2.2.1,y93.2.2.2.2) else some (z32.2.2.2.1,z32.2.2.2.2.1,z32.2.2.2.2.2.1,z32.2.2.2.2.2.2.1,z32.2.2.2.2.2.2.2))) fun z91=>Option.bind (g_1j.f pO z32.2.1 z32.1) fun y95=>some (z32.2.2.1,0,z91.1,z91.2.1,z91.2.2.1,z91.2.2.2.1,z91.2.2.2.2,y95))
theorem g_11.ok {iB:Nat} {iC:Nat} {aE:Option Addr} {zH:Nat} {aK:Option Addr} {zM:Nat} {BO:Seg} {aT:Option Addr} {zU:Nat} {BW:Seg} {aY:Option Addr} {zZ:Nat} {BAB:Seg} {pC:List (List UInt8)} {pI:List Int} {pO:List (Int×List UInt8×(List (Int×Int×Int)))} {pW:List (UInt8×Int×Int×Int)} {pAB:UInt8} {pAC:Bool} {pAD:Int} {pAE:Bool} {pAH:Int} {pAI:Int} {pAJ:Int} {pAK:Int} {pAM:Int} {F:FZ} {r:(List (UInt8×Int×Int×Int))×Int×Int×Int×Int×Int×Int×(List (Int×List UInt8×(List (Int×Int×Int))))} (h:g_11.f pO pW pAH pAI pAJ pAK pAM=some r) (hV:Own bs F aT zU pO BW) (hAA:Own bb F aY zZ pW BAB) :
    Cl EV 150 [.pointer (some ⟨iB,0,none⟩)] [[(iB,.row [.pointer (some ⟨iC,0,none⟩),.slice aY pW.length zZ,vB pAB,.bool pAC,.int .i64 pAD,.bool pAE,.int .i64 pAH,.int .i64 pAI,.int .i64 pAJ,.int .i64 pAK,.int .i64 pAM] 128 0 true)],[(iC,.row [.slice aE pC.length zH,.slice aK pI.length zM,.slice aT pO.length zU] 95 0 true)],BO,BW,BAB] F (fun v S' F'=> ∃(ra1:Option Addr) (rz2:Nat) (rB4:Seg) (ra5:Option Addr) (rz6:Nat) (rB8:Seg),FLe F F'∧v= .tuple #[]∧S'= [[(iB,.row [.pointer (some ⟨iC,0,none⟩),.slice ra1 r.1.length rz2,vB pAB,.bool pAC,.int .i64 r.2.1,.bool pAE,.int .i64 r.2.2.1,.int .i64 r.2.2.2.1,.int .i64 r.2.2.2.2.1,.int .i64 r.2.2.2.2.2.1,.int .i64 r.2.2.2.2.2.2.1] 128 0 true)],[(iC,.row [.slice aE pC.length zH,.slice aK pI.length zM,.slice ra5 r.2.2.2.2.2.2.2.length rz6] 95 0 true)],BO,rB8,rB4]∧Own bb F' ra1 rz2 r.1 rB4∧Own bs F' ra5 rz6 r.2.2.2.2.2.2.2 rB8):=by
 refine Cl.of Tryz.func150 rfl (fun _ _=>rfl) (by kernel_rfl) fun s L nx0 hS=>?_
 unfold g_11.f at h
 refine WW.seq (WW.region ?_)
 refine sg0 hS 4 [0] [10] [.slice aY pW.length zZ] [iB] (by kernel_rfl) fun s hS=>?_
 replace hS:=hS.pull 4
 obtain⟨F1,hF2,hS,hz3⟩:=hS.frzO hAA
 obtain⟨y4,hy4,h⟩:=bind_some h
 refine bE hS (wn rfl) (vs:=[.slice aY pW.length zZ]) (ws:=[.slice aY pW.length zZ]) rfl rfl rfl rfl rfl 0 rfl (g_1e.ok hy4 hz3) fun s v S' F' hp5 hF hS=>?_
 obtain⟨a6,z7,rfl,rfl,rfl,h8⟩:=hp5
 obtain⟨y9,hy9,h⟩:=bind_some h
 refine cK (g_1g.ok hy9 h8) hS 0 12 0 rfl (by kernel_rfl) fun s v S' F' hp10 hF hS=>?_
 obtain⟨a11,z12,rfl,rfl,rfl,h13⟩:=hp10
 refine sg0 hS 1 [] [2] [.slice a11 y9.length z12] [] (by kernel_rfl) fun s hS=>(KW.nil ?_)
 refine WW.seq (WW.region ?_)
 refine sg hS 8 [0,0] [] [] [iB,iB] [[(iB,.row [.pointer (some ⟨iC,0,none⟩),.slice none 0 0,vB pAB,.bool pAC,.int .i64 0,.bool pAE,.int .i64 pAH,.int .i64 pAI,.int .i64 pAJ,.int .i64 pAK,.int .i64 pAM] 128 0 true)],[(iC,.row [.slice aE pC.length zH,.slice aK pI.length zM,.slice aT pO.length zU] 95 0 true)],BO,BW] (by kernel_rfl) fun s hS=>(KW.nil ?_)
 refine WW.seq (WW.region ?_)
 refine sg0 hS 1 [] [3] [.int .i64 0] [] (by kernel_rfl) fun s hS=>(KW.nil ?_)
 refine WW.seq (WW.block ?_)
 obtain⟨o15,ho15,h⟩:=bind_some h
 refine WW.loop (LW.iterE ho15 (fun(x14:Int) s=>Stt EV s [(0,.pointer (some ⟨iB,0,none⟩)),(2,.slice a11 y9.length z12),(3,.int .i64 x14)] [[(iB,.row [.pointer (some ⟨iC,0,none⟩),.slice none 0 0,vB pAB,.bool pAC,.int .i64 0,.bool pAE,.int .i64 pAH,.int .i64 pAI,.int .i64 pAJ,.int .i64 pAK,.int .i64 pAM] 128 0 true)],[(iC,.row [.slice aE pC.length zH,.slice aK pI.length zM,.slice aT pO.length zU] 95 0 true)],BO,BW] F1 L F nx0) 0 (hS.subR rfl) ?_ ?_)
 clear hS
 rintro x14 s hS o15' h17
 unfold g_11.b0 at h17
 refine WW.seq (WW.seq ?_)
 refine WW.region (sg0 hS 5 [] [23] [.bool (decide (x14<(y9.length:Int)))] [] (by kernel_rfl) fun s hS=>?_)
 obtain⟨z18,hz18,h17⟩:=bind_some h17
 refine aH 7 (fun s=>Stt EV s [(30,.bool z18),(0,.pointer (some ⟨iB,0,none⟩)),(2,.slice a11 y9.length z12),(3,.int .i64 x14)] [[(iB,.row [.pointer (some ⟨iC,0,none⟩),.slice none 0 0,vB pAB,.bool pAC,.int .i64 0,.bool pAE,.int .i64 pAH,.int .i64 pAI,.int .i64 pAJ,.int .i64 pAK,.int .i64 pAM] 128 0 true)],[(iC,.row [.slice aE pC.length zH,.slice aK pI.length zM,.slice aT pO.length zU] 95 0 true)],BO,BW] F1 L F nx0) ?_ fun s hS=>?_
 refine bc hz18 (fun hc19 hz18=>?_) fun hc19 hz18=>?_
 replace hS:=hS.kb 23 hc19 rfl
 refine sg0 hS 2 [] [24,25] [.slice a11 y9.length z12,.int .i64 x14] [] (by kernel_rfl) fun s hS=>?_
 obtain⟨hk20,hz18⟩:=ac hz18
 obtain⟨i26,of27,rfl⟩:=Frz.addr h13 (by omega)
 obtain⟨_,_,_,_,c21,hF28,hR22,hN23,hN24,hT25⟩:=Frz.at h13 hk20 (m:=4) rfl
 obtain rfl:=hR22
 refine am hS (wt hS rfl rfl rfl rfl) rfl rfl rfl (v:= .pointer (some ⟨i26,of27+(x14).toNat*4,none⟩)) (aW (hS.lk rfl) (hS.lk rfl) eV hk20) fun s hS=>(am hS (wt hS rfl rfl rfl rfl) rfl rfl rfl (v:= .pointer (some ⟨i26,of27+(x14).toNat*4+0,none⟩)) (cn (hS.lk rfl) iP rfl rfl) fun s hS=>?_)
 refine gG hS (wt hS rfl rfl rfl rfl) rfl rfl rfl (hS.fat hF28) tg5 (v:=vB ((gt y9 x14).1)) (hN24 0 (by decide)) fun s hS=>?_
 obtain⟨y29,hy29,hz18⟩:=bind_some hz18
 refine bE hS (wt hS rfl rfl rfl rfl) (vs:=[vB ((gt y9 x14).1)]) (ws:=[vB ((gt y9 x14).1)]) rfl rfl rfl rfl rfl 0 rfl (g_18.ok hy29) fun s v S' F' hp30 hF hS=>?_
 obtain⟨rfl,rfl,rfl⟩:=hp30
 refine sg0 hS 1 [] [30] [.bool y29] [] (by kernel_rfl) fun s hS=>(KW.nil ?_)
 obtain rfl:=Option.some.inj hz18
 exact hS.subR rfl
 replace hS:=hS.kb 23 hc19 rfl
 refine sg0 hS 7 [] [30] [.bool false] [] (by kernel_rfl) fun s hS=>(KW.nil ?_)
 obtain rfl:=Option.some.inj hz18
 exact hS.subR rfl
 refine KW.nil (bc h17 (fun hc31 h17=>?_) fun hc31 h17=>?_)
 refine WW.condK hS rfl hc31 (WW.skip ?_)
 refine WW.block (WW.region ?_)
 refine sg0 hS 3 [] [3] [.int .i64 (w64 (x14+1))] [] (by kernel_rfl) fun s hS=>(KW.nil ?_)
 obtain rfl:=Option.some.inj h17
 exact⟨_,rfl,(hS.subR rfl)⟩
 refine WW.condF hS rfl hc31 (WW.exit ?_)
 refine af ?_
 obtain rfl:=Option.some.inj h17
 exact⟨_,rfl,rfl,(hS.subR rfl)⟩
 clear hS
 rintro e s ⟨rfl,hS⟩
 refine ah (WW.seq ?_)
 refine WW.region (sg0 hS 1 [] [4] [.int .i64 0] [] (by kernel_rfl) fun s hS=>?_)
 refine KW.nil ?_
 obtain⟨z32,hz32,h⟩:=bind_some h
 refine WW.seqJ (fun s=> ∃(a33:Option Addr) (z34:Nat) (a36:Option Addr) (z37:Nat) (B39:Seg),Stt EV s [(0,.pointer (some ⟨iB,0,none⟩)),(2,.slice a33 z32.1.length z34),(4,.int .i64 z32.2.1)] [B39,[(iB,.row [.pointer (some ⟨iC,0,none⟩),.slice a36 z32.2.2.1.length z37,vB pAB,.bool pAC,.int .i64 0,.bool pAE,.int .i64 z32.2.2.2.1,.int .i64 z32.2.2.2.2.1,.int .i64 z32.2.2.2.2.2.1,.int .i64 z32.2.2.2.2.2.2.1,.int .i64 z32.2.2.2.2.2.2.2] 128 0 true)],[(iC,.row [.slice aE pC.length zH,.slice aK pI.length zM,.slice aT pO.length zU] 95 0 true)],BO,BW] F1 L F nx0∧Frz bb F1 a33 z34 z32.1∧Own bb F1 a36 z37 z32.2.2.1 B39) ?_ ?_
 refine WW.seq (WW.region ?_)
 obtain⟨y40,hy40,hz32⟩:=bind_some hz32
 refine cR (g_1l.ok hy40) hS 1 34 0 rfl (by kernel_rfl) fun s hS=>(sg0 hS 1 [] [35] [.bool y40] [] (by kernel_rfl) fun s hS=>?_)
 refine aH 5 (fun s=>Stt EV s [(40,.bool (y40&&(decide (o15<(y9.length:Int))))),(0,.pointer (some ⟨iB,0,none⟩)),(2,.slice a11 y9.length z12),(3,.int .i64 o15),(4,.int .i64 0)] [[(iB,.row [.pointer (some ⟨iC,0,none⟩),.slice none 0 0,vB pAB,.bool pAC,.int .i64 0,.bool pAE,.int .i64 pAH,.int .i64 pAI,.int .i64 pAJ,.int .i64 pAK,.int .i64 pAM] 128 0 true)],[(iC,.row [.slice aE pC.length zH,.slice aK pI.length zM,.slice aT pO.length zU] 95 0 true)],BO,BW] F1 L F nx0) ?_ fun s hS=>?_
 rcases ax (y40) with hcj | hcj
 replace hS:=hS.know (t:=34) rfl (congrArg Value.bool hcj)
 replace hS:=hS.know (t:=35) rfl (congrArg Value.bool hcj)
 refine sg0 hS 5 [] [40] [.bool (decide (o15<(y9.length:Int)))] [] (by kernel_rfl) fun s hS=>(KW.nil ?_)
 exact(hS.know (t:=40) (u':= .bool (y40&&(decide (o15<(y9.length:Int))))) rfl (bw hcj)).subR rfl
 replace hS:=hS.know (t:=34) rfl (congrArg Value.bool hcj)
 replace hS:=hS.know (t:=35) rfl (congrArg Value.bool hcj)
 refine sg0 hS 5 [] [40] [.bool false] [] (by kernel_rfl) fun s hS=>(KW.nil ?_)
 exact(hS.know (t:=40) (u':= .bool (y40&&(decide (o15<(y9.length:Int))))) rfl (bx hcj)).subR rfl
 refine sg0 hS 1 [] [41] [.bool (y40&&(decide (o15<(y9.length:Int))))] [] (by kernel_rfl) fun s hS=>?_
 obtain⟨z42,hz42,hz32⟩:=bind_some hz32
 refine aH 7 (fun s=>Stt EV s [(48,.bool z42),(0,.pointer (some ⟨iB,0,none⟩)),(2,.slice a11 y9.length z12),(3,.int .i64 o15),(4,.int .i64 0)] [[(iB,.row [.pointer (some ⟨iC,0,none⟩),.slice none 0 0,vB pAB,.bool pAC,.int .i64 0,.bool pAE,.int .i64 pAH,.int .i64 pAI,.int .i64 pAJ,.int .i64 pAK,.int .i64 pAM] 128 0 true)],[(iC,.row [.slice aE pC.length zH,.slice aK pI.length zM,.slice aT pO.length zU] 95 0 true)],BO,BW] F1 L F nx0) ?_ fun s hS=>?_
 refine bc hz42 (fun hc43 hz42=>?_) fun hc43 hz42=>?_
 replace hS:=hS.kb 40 hc43 rfl
 replace hS:=hS.kb 41 hc43 rfl
 refine sg0 hS 2 [] [42,43] [.slice a11 y9.length z12,.int .i64 o15] [] (by kernel_rfl) fun s hS=>?_
 obtain⟨hk44,hz42⟩:=ac hz42
 obtain⟨i50,of51,rfl⟩:=Frz.addr h13 (by omega)
 obtain⟨_,_,_,_,c45,hF52,hR46,hN47,hN48,hT49⟩:=Frz.at h13 hk44 (m:=4) rfl
 obtain rfl:=hR46
 refine am hS (wt hS rfl rfl rfl rfl) rfl rfl rfl (v:= .pointer (some ⟨i50,of51+(o15).toNat*4,none⟩)) (aW (hS.lk rfl) (hS.lk rfl) eV hk44) fun s hS=>(am hS (wt hS rfl rfl rfl rfl) rfl rfl rfl (v:= .pointer (some ⟨i50,of51+(o15).toNat*4+0,none⟩)) (cn (hS.lk rfl) iP rfl rfl) fun s hS=>?_)
 refine gG hS (wt hS rfl rfl rfl rfl) rfl rfl rfl (hS.fat hF52) tg5 (v:=vB ((gt y9 o15).1)) (hN48 0 (by decide)) fun s hS=>(sg0 hS 2 [] [48] [.bool ((((gt y9 o15).1).toNat:Int)==((32:UInt8).toNat:Int))] [] (by kernel_rfl) fun s hS=>?_)
 refine KW.nil ?_
 obtain rfl:=Option.some.inj hz42
 exact hS.subR rfl
 replace hS:=hS.kb 40 hc43 rfl
 replace hS:=hS.kb 41 hc43 rfl
 refine sg0 hS 7 [] [48] [.bool false] [] (by kernel_rfl) fun s hS=>(KW.nil ?_)
 obtain rfl:=Option.some.inj hz42
 exact hS.subR rfl
 refine KW.nil (bc hz32 (fun hc53 hz32=>?_) fun hc53 hz32=>?_)
 refine WW.condK hS rfl hc53 (WW.seq ?_)
 refine WW.seq (WW.region ?_)
 refine sg0 hS 2 [] [49,50] [.slice a11 y9.length z12,.int .i64 o15] [] (by kernel_rfl) fun s hS=>?_
 obtain⟨hk54,hz32⟩:=ac hz32
 obtain⟨a55,he56,hz57⟩:=Frz.slice h13 hk54 (m:=4) rfl
 refine am hS (wn rfl) rfl rfl rfl (v:= .slice a55 (mid y9 (0:Int) o15).length z12) (di eV (hS.lk rfl) (i:=(0:Int)) (h:=o15) rfl (bu hS rfl) he56) fun s hS=>(sg0 hS 2 [] [52,53] [.int .i64 ((mid y9 (0:Int) o15).length:Int),.int .i64 0] [] (by kernel_rfl) fun s hS=>?_)
 refine KW.nil (WW.block ?_)
 obtain⟨o59,ho59,hz32⟩:=bind_some hz32
 refine WW.loop (LW.iterE ho59 (fun(x58:Int×Int) s=>Stt EV s [(0,.pointer (some ⟨iB,0,none⟩)),(2,.slice a11 y9.length z12),(3,.int .i64 o15),(4,.int .i64 x58.1),(51,.slice a55 (mid y9 (0:Int) o15).length z12),(52,.int .i64 ((mid y9 (0:Int) o15).length:Int)),(53,.int .i64 x58.2)] [[(iB,.row [.pointer (some ⟨iC,0,none⟩),.slice none 0 0,vB pAB,.bool pAC,.int .i64 0,.bool pAE,.int .i64 pAH,.int .i64 pAI,.int .i64 pAJ,.int .i64 pAK,.int .i64 pAM] 128 0 true)],[(iC,.row [.slice aE pC.length zH,.slice aK pI.length zM,.slice aT pO.length zU] 95 0 true)],BO,BW] F1 L F nx0) 2 (hS.subR rfl) ?_ ?_)
 clear hS
 rintro x58 s hS o59' h61
 unfold g_11.b1 at h61
 refine WW.seq (WW.region ?_)
 refine sg0 hS 1 [] [54] [.bool (decide (x58.2<((mid y9 (0:Int) o15).length:Int)))] [] (by kernel_rfl) fun s hS=>(KW.nil ?_)
 refine WW.seq (bc h61 (fun hc62 h61=>?_) fun hc62 h61=>?_)
 refine WW.condK hS rfl hc62 (WW.skip ?_)
 refine WW.seq (WW.block ?_)
 refine WW.seq (WW.region ?_)
 obtain⟨hk63,h61⟩:=ac h61
 obtain⟨i69,of70,rfl⟩:=Frz.addr hz57 (by omega)
 obtain⟨_,_,_,_,c64,hF71,hR65,hN66,hN67,hT68⟩:=Frz.at hz57 hk63 (m:=4) rfl
 obtain rfl:=hR65
 refine am hS (wn rfl) rfl rfl rfl (v:= .pointer (some ⟨i69,of70+(x58.2).toNat*4,none⟩)) (aW (hS.lk rfl) (hS.lk rfl) eV hk63) fun s hS=>(oL hS (wn rfl) rfl rfl rfl (hS.fat hF71) rZ mN (vs:=[vB ((gt (mid y9 (0:Int) o15) x58.2).1),.int .i64 ((gt (mid y9 (0:Int) o15) x58.2).2.1),.int .i64 ((gt (mid y9 (0:Int) o15) x58.2).2.2.1),.int .i64 ((gt (mid y9 (0:Int) o15) x58.2).2.2.2)]) hT68 fun s hS=>?_)
 refine bf hS (wn rfl) rfl rfl rfl (v:=fun i=> .pointer (some ⟨i,0,none⟩)) (b:= .row [vB 0,.int .i64 0,.int .i64 0,.int .i64 0] 210 0 true) (aU f9) fun s i72 hS=>(sg hS 1 [0] [] [] [i72] [[(i72,.row [vB ((gt (mid y9 (0:Int) o15) x58.2).1),.int .i64 ((gt (mid y9 (0:Int) o15) x58.2).2.1),.int .i64 ((gt (mid y9 (0:Int) o15) x58.2).2.2.1),.int .i64 ((gt (mid y9 (0:Int) o15) x58.2).2.2.2)] 210 0 true)],[(iB,.row [.pointer (some ⟨iC,0,none⟩),.slice none 0 0,vB pAB,.bool pAC,.int .i64 0,.bool pAE,.int .i64 pAH,.int .i64 pAI,.int .i64 pAJ,.int .i64 pAK,.int .i64 pAM] 128 0 true)],[(iC,.row [.slice aE pC.length zH,.slice aK pI.length zM,.slice aT pO.length zU] 95 0 true)],BO,BW] (by kernel_rfl) fun s hS=>?_)
 refine KW.nil (WW.region ?_)
 refine sg0 hS 4 [0] [58,60] [.int .i64 (w64 (10*x58.1)),vB ((gt (mid y9 (0:Int) o15) x58.2).1)] [i72] (by kernel_rfl) fun s hS=>(am hS (wn rfl) rfl rfl rfl (v:=vB (((gt (mid y9 (0:Int) o15) x58.2).1)-48)) (fi (hS.lk rfl) (hS.lk rfl)) fun s hS=>?_)
 refine am hS (wn rfl) rfl rfl (ic hS rfl rfl) (v:= .int .i64 (IntKind.i64.wrap ((((gt (mid y9 (0:Int) o15) x58.2).1)-48).toNat:Int))) (fj (hS.lk rfl) tu5 tu3) fun s hS=>(sg0 hS 2 [] [4] [.int .i64 (w64 ((w64 (10*x58.1))+(IntKind.i64.wrap ((((gt (mid y9 (0:Int) o15) x58.2).1)-48).toNat:Int))))] [] (by kernel_rfl) fun s hS=>?_)
 refine KW.nil (WW.region ?_)
 refine sg0 hS 2 [] [53] [.int .i64 (w64 (x58.2+1))] [] (by kernel_rfl) fun s hS=>(KW.nil ?_)
 replace hS:=hS.drop
 obtain rfl:=Option.some.inj h61
 exact⟨_,rfl,(hS.subR rfl)⟩
 refine WW.condF hS rfl hc62 (WW.exit ?_)
 refine af ?_
 obtain rfl:=Option.some.inj h61
 exact⟨_,rfl,rfl,(hS.subR rfl)⟩
 clear hS
 rintro e s ⟨rfl,hS⟩
 refine ah ?_
 obtain⟨z73,hz73,hz32⟩:=bind_some hz32
 refine WW.seqJ (fun s=> ∃(a74:Option Addr) (z75:Nat) (B77:Seg),Stt EV s [(0,.pointer (some ⟨iB,0,none⟩)),(2,.slice a11 y9.length z12),(3,.int .i64 o15),(4,.int .i64 o59.1)] [B77,[(iB,.row [.pointer (some ⟨iC,0,none⟩),.slice a74 z73.1.length z75,vB pAB,.bool pAC,.int .i64 0,.bool pAE,.int .i64 z73.2.1,.int .i64 z73.2.2.1,.int .i64 z73.2.2.2.1,.int .i64 z73.2.2.2.2.1,.int .i64 z73.2.2.2.2.2] 128 0 true)],[(iC,.row [.slice aE pC.length zH,.slice aK pI.length zM,.slice aT pO.length zU] 95 0 true)],BO,BW] F1 L F nx0∧Own bb F1 a74 z75 z73.1 B77) ?_ ?_
 refine WW.seq (WW.region ?_)
 refine sg0 hS 2 [] [66] [.bool (o59.1==0)] [] (by kernel_rfl) fun s hS=>(KW.nil ?_)
 refine bc hz73 (fun hc78 hz73=>?_) fun hc78 hz73=>?_
 refine WW.condK hS rfl hc78 (WW.region ?_)
 replace hS:=hS.gap0
 obtain⟨y79,hy79,hz73⟩:=bind_some hz73
 replace hS:=hS.pull 4
 replace hS:=hS.pull 4
 replace hS:=hS.pull 4
 replace hS:=hS.pull 4
 replace hS:Stt EV s _ [[(iB,.row [.pointer (some ⟨iC,0,none⟩),.slice none ([]:List (UInt8×Int×Int×Int)).length 0,vB pAB,.bool pAC,.int .i64 0,.bool pAE,.int .i64 pAH,.int .i64 pAI,.int .i64 pAJ,.int .i64 pAK,.int .i64 pAM] 128 0 true)],[(iC,.row [.slice aE pC.length zH,.slice aK pI.length zM,.slice aT pO.length zU] 95 0 true)],BO,BW,[]] _ L _ _:=hS
 refine cR (g_15.ok hy79) hS 1 68 5 rfl (by kernel_rfl) fun s hS=>(KW.nil ?_)
 replace hS:=hS.pull 3
 replace hS:=hS.pull 3
 replace hS:=hS.pull 3
 replace hS:=hS.pull 3
 replace hS:=hS.pull 4
 obtain rfl:=Option.some.inj hz73
 exact⟨_,_,_,(hS.subR rfl),Own.nil⟩
 refine WW.condF hS rfl hc78 (WW.skip ?_)
 replace hS:=hS.gap0
 obtain rfl:=Option.some.inj hz73
 exact⟨_,_,_,(hS.subR rfl),Own.nil⟩
 rintro s ⟨a74,z75,B77,hS,h76⟩
 refine WW.region (sg0 hS 2 [] [69,70] [.slice a11 y9.length z12,.int .i64 o15] [] (by kernel_rfl) fun s hS=>?_)
 obtain⟨hk81,hz32⟩:=ac hz32
 obtain⟨a82,he83,hz84⟩:=Frz.slice h13 hk81 (m:=4) rfl
 refine am hS (wn rfl) rfl rfl rfl (v:= .slice a82 (mid y9 o15 (y9.length:Int)).length z12) (di eV (hS.lk rfl) (i:=o15) (h:=(y9.length:Int)) (bu hS rfl) rfl he83) fun s hS=>?_
 obtain⟨y85,hy85,hz32⟩:=bind_some hz32
 refine cK (g_1e.ok hy85 hz84) hS 0 72 0 rfl (by kernel_rfl) fun s v S' F' hp86 hF hS=>?_
 obtain⟨a87,z88,rfl,rfl,rfl,h89⟩:=hp86
 refine sg0 hS 1 [] [2] [.slice a87 y85.length z88] [] (by kernel_rfl) fun s hS=>(KW.nil ?_)
 obtain rfl:=Option.some.inj hz32
 exact⟨_,_,_,_,_,(hS.subR rfl),h89,h76⟩
 refine WW.condF hS rfl hc53 (WW.skip ?_)
 replace hS:=hS.gap0
 obtain rfl:=Option.some.inj hz32
 exact⟨_,_,_,_,_,(hS.subR rfl),h13,Own.nil⟩
 rintro s ⟨a33,z34,a36,z37,B39,hS,h35,h38⟩
 refine WW.seq (WW.seq ?_)
 refine WW.region (sg0 hS 3 [] [75] [.bool ((z32.1.length:Int)==0)] [] (by kernel_rfl) fun s hS=>?_)
 refine KW.nil (bc h (fun hc90 h=>?_) fun hc90 h=>?_)
 refine WW.condK hS rfl hc90 (WW.ret ?_)
 replace hS:=hS.pull 4
 replace hS:=hS.pull 4
 replace hS:=hS.pull 4
 replace hS:=hS.pull 4
 cases h
 exact bW hS (.inr rfl) rfl ⟨_,_,_,_,_,_,(hF2),rfl,rfl,h38,(hV.mono hF2)⟩
 refine WW.condF hS rfl hc90 (WW.skip ?_)
 obtain⟨z91,hz91,h⟩:=bind_some h
 refine WW.seqJ (fun s=>Stt EV s [(0,.pointer (some ⟨iB,0,none⟩)),(2,.slice a33 z32.1.length z34),(4,.int .i64 z32.2.1)] [B39,[(iB,.row [.pointer (some ⟨iC,0,none⟩),.slice a36 z32.2.2.1.length z37,vB pAB,.bool pAC,.int .i64 0,.bool pAE,.int .i64 z91.1,.int .i64 z91.2.1,.int .i64 z91.2.2.1,.int .i64 z91.2.2.2.1,.int .i64 z91.2.2.2.2] 128 0 true)],[(iC,.row [.slice aE pC.length zH,.slice aK pI.length zM,.slice aT pO.length zU] 95 0 true)],BO,BW] F1 L F nx0) ?_ ?_
 refine WW.seq (WW.region ?_)
 refine sg0 hS 3 [] [78] [.bool (decide ((z32.1.length:Int)>1320))] [] (by kernel_rfl) fun s hS=>(KW.nil ?_)
 refine bc hz91 (fun hc92 hz91=>?_) fun hc92 hz91=>?_
 refine WW.condK hS rfl hc92 (WW.region ?_)
 obtain⟨y93,hy93,hz91⟩:=bind_some hz91
 replace hS:=hS.pull 4
 replace hS:=hS.pull 4
 replace hS:=hS.pull 4
 replace hS:=hS.pull 4
 refine cR (g_15.ok hy93) hS 1 80 5 rfl (by kernel_rfl) fun s hS=>(KW.nil ?_)
 replace hS:=hS.pull 3
 replace hS:=hS.pull 3
 replace hS:=hS.pull 3
 replace hS:=hS.pull 3
 replace hS:=hS.pull 4
 obtain rfl:=Option.some.inj hz91
 exact(hS.subR rfl)
 refine WW.condF hS rfl hc92 (WW.skip ?_)
 obtain rfl:=Option.some.inj hz91
 exact(hS.subR rfl)
 rintro s hS
 refine WW.region (sg0 hS 6 [1] [84,85,86] [.pointer (some ⟨iC,0,none⟩),.int .i64 z32.2.1,.slice a33 z32.1.length z34] [iB] (by kernel_rfl) fun s hS=>?_)
 obtain⟨y95,hy95,h⟩:=bind_some h
 replace hS:=hS.pull 4
 replace hS:=hS.pull 4
 replace hS:=hS.pull 4
 refine bE hS (wn rfl) (vs:=[.pointer (some ⟨iC,0,none⟩),.int .i64 z32.2.1,.slice a33 z32.1.length z34]) (ws:=[.pointer (some ⟨iC,0,none⟩),.int .i64 z32.2.1,.slice a33 z32.1.length z34]) rfl rfl rfl rfl rfl 3 rfl (g_1j.ok hy95 (hV.mono hF2) h35) fun s v S' F97 hp96 hF hS=>?_
 obtain⟨a98,z99,B101,hF102,rfl,rfl,h100⟩:=hp96
 refine KW.nil ?_
 replace hS:=hS.pull 3
 replace hS:=hS.pull 3
 replace hS:=hS.pull 3
 replace hS:=hS.pull 3
 replace hS:=hS.pull 4
 cases h
 exact bW hS (.inl rfl) rfl ⟨_,_,_,_,_,_,((FLe.trans hF2 hF102)),rfl,rfl,(h38.mono hF102),h100⟩
noncomputable def g_1a.f (pA:UInt8):Option (Bool) :=
  some (((pA.toNat:Int)==((39:UInt8).toNat:Int))||((pA.toNat:Int)==((34:UInt8).toNat:Int)))
theorem g_1a.ok {pA:UInt8} {F:FZ} {r:Bool} (h:g_1a.f pA=some r) :
    Cl EV 102 [vB pA] [] F (fun v S' F'=>F=F'∧v= .bool r∧S'= []):=by
 refine Cl.of Tryz.func102 rfl (fun _ _=>rfl) (by kernel_rfl) fun s L nx0 hS=>?_
 unfold g_1a.f at h
 refine WW.seq (WW.region ?_)
 refine sg0 hS 1 [] [2] [.bool false] [] (by kernel_rfl) fun s hS=>(KW.nil ?_)
 refine WW.seq (WW.region ?_)
 refine sg0 hS 3 [] [5] [.bool ((pA.toNat:Int)==((39:UInt8).toNat:Int))] [] (by kernel_rfl) fun s hS=>(aH 3 (fun s=>Stt EV s [(8,.bool (((pA.toNat:Int)==((39:UInt8).toNat:Int))||((pA.toNat:Int)==((34:UInt8).toNat:Int)))),(2,.bool false)] [] F L F nx0) ?_ fun s hS=>?_)
 rcases ax (((pA.toNat:Int)==((39:UInt8).toNat:Int))) with hcj | hcj
 replace hS:=hS.know (t:=5) rfl (congrArg Value.bool hcj)
 refine sg0 hS 3 [] [8] [.bool true] [] (by kernel_rfl) fun s hS=>(KW.nil ?_)
 exact(hS.know (t:=8) (u':= .bool (((pA.toNat:Int)==((39:UInt8).toNat:Int))||((pA.toNat:Int)==((34:UInt8).toNat:Int)))) rfl (cB hcj)).subR rfl
 replace hS:=hS.know (t:=5) rfl (congrArg Value.bool hcj)
 refine sg0 hS 3 [] [8] [.bool ((pA.toNat:Int)==((34:UInt8).toNat:Int))] [] (by kernel_rfl) fun s hS=>(KW.nil ?_)
 exact(hS.know (t:=8) (u':= .bool (((pA.toNat:Int)==((39:UInt8).toNat:Int))||((pA.toNat:Int)==((34:UInt8).toNat:Int)))) rfl (cC hcj)).subR rfl
 refine sg0 hS 1 [] [2] [.bool (((pA.toNat:Int)==((39:UInt8).toNat:Int))||((pA.toNat:Int)==((34:UInt8).toNat:Int)))] [] (by kernel_rfl) fun s hS=>(KW.nil ?_)
 refine WW.ret ?_
 cases h
 exact aS hS (.inr rfl) 2 rfl rfl ⟨rfl,rfl,rfl⟩
noncomputable def g_10.f (pC:List (List UInt8)) (pO:List (Int×List UInt8×(List (Int×Int×Int)))) (pW:List (UInt8×Int×Int×Int)) (pAB:UInt8) (pAC:Bool) (pAD:Int) (pAE:Bool) (pAH:Int) (pAI:Int) (pAJ:Int) (pAK:Int) (pAM:Int) (pAN:Int) (pAO:Int):Option (Bool×(List (UInt8×Int×Int×Int))×UInt8×Bool×Int×Bool×Int×Int×Int×Int×Int×(List (Int×List UInt8×(List (Int×Int×Int))))) :=
  (if 0≤pAN∧pAN<(pC.length:Int) then(if 0≤pAO∧pAO<((gt pC pAN).length:Int) then(if 0≤(w64 (pAO+1))∧(w64 (pAO+1))≤((gt pC pAN).length:Int)∧((gt pC pAN).length:Int)≤((gt pC pAN).length:Int) then(if((pAB.toNat:Int) != ((0:UInt8).toNat:Int)) then Option.bind ((if(((gt (gt pC pAN) pAO).toNat:Int)==((38:UInt8).toNat:Int)) then Option.bind (g_16.f (mid (gt pC pAN) (w64 (pAO+1)) ((gt pC pAN).length:Int))) fun y15=>some y15 else some false)) fun z13=>(if z13 then some (false,pW,pAB,true,pAD,pAE,pAH,pAI,pAJ,pAK,pAM,pO) else Option.bind (g_13.f pC pW pAE pAN pAO) fun y18=>(if(((gt (gt pC pAN) pAO).toNat:Int)==(pAB.toNat:Int)) then some (true,y18.1,0,pAC,pAD,y18.2,pAH,pAI,pAJ,pAK,pAM,pO) else some (true,y18.1,pAB,pAC,pAD,y18.2,pAH,pAI,pAJ,pAK,pAM,pO))) else(if(((gt (gt pC pAN) pAO).toNat:Int)==((33:UInt8).toNat:Int)) then some (false,pW,pAB,pAC,pAD,pAE,pAH,pAI,pAJ,pAK,pAM,pO) else(if(((gt (gt pC pAN) pAO).toNat:Int)==((59:UInt8).toNat:Int)) then Option.bind (g_11.f pO pW pAH pAI pAJ pAK pAM) fun y27=>some (true,y27.1,pAB,pAC,y27.2.1,pAE,y27.2.2.1,y27.2.2.2.1,y27.2.2.2.2.1,y27.2.2.2.2.2.1,y27.2.2.2.2.2.2.1,y27.2.2.2.2.2.2.2) else(if(((gt (gt pC pAN) pAO).toNat:Int)==((38:UInt8).toNat:Int)) then Option.bind (g_1q.f (mid (gt pC pAN) (w64 (pAO+1)) ((gt pC pAN).length:Int)) ([32])) fun y40=>Option.bind ((if(decide (y40= [])) then some true else(if 0≤(0:Int)∧(0:Int)<(y40.length:Int) then some (((gt y40 (0:Int)).toNat:Int)==((33:UInt8).toNat:Int)) else none))) fun z42=>(if z42 then some (false,pW,pAB,true,pAD,pAE,pAH,pAI,pAJ,pAK,pAM,pO) else Option.bind (g_15.f pAH pAI pAJ pAK pAM 1 7) fun y46=>some (false,pW,pAB,pAC,pAD,pAE,y46.1,y46.2.1,y46.2.2.1,y46.2.2.2.1,y46.2.2.2.2,pO)) else Option.bind (g_13.f pC pW pAE pAN pAO) fun y48=>Option.bind (g_1a.f (gt (gt pC pAN) pAO)) fun y54=>(if y54 then some (true,y48.1,(gt (gt pC pAN) pAO),pAC,pAD,y48.2,pAH,pAI,pAJ,pAK,pAM,pO) else some (true,y48.1,pAB,pAC,pAD,y48.2,pAH,pAI,pAJ,pAK,pAM,pO)))))) else none) else none) else none)
theorem g_10.ok {iB:Nat} {iC:Nat} {aE:Option Addr} {zH:Nat} {aK:Option Addr} {zM:Nat} {BO:Seg} {aT:Option Addr} {zU:Nat} {BW:Seg} {aY:Option Addr} {zZ:Nat} {BAB:Seg} {pC:List (List UInt8)} {pI:List Int} {pO:List (Int×List UInt8×(List (Int×Int×Int)))} {pW:List (UInt8×Int×Int×Int)} {pAB:UInt8} {pAC:Bool} {pAD:Int} {pAE:Bool} {pAH:Int} {pAI:Int} {pAJ:Int} {pAK:Int} {pAM:Int} {pAN:Int} {pAO:Int} {F:FZ} {r:Bool×(List (UInt8×Int×Int×Int))×UInt8×Bool×Int×Bool×Int×Int×Int×Int×Int×(List (Int×List UInt8×(List (Int×Int×Int))))} (h:g_10.f pC pO pW pAB pAC pAD pAE pAH pAI pAJ pAK pAM pAN pAO=some r) (hI:Frz (elS 9) F aE zH pC) (hV:Own bs F aT zU pO BW) (hAA:Own bb F aY zZ pW BAB) :
    Cl EV 149 [.pointer (some ⟨iB,0,none⟩),.int .i64 pAN,.int .i64 pAO] [[(iB,.row [.pointer (some ⟨iC,0,none⟩),.slice aY pW.length zZ,vB pAB,.bool pAC,.int .i64 pAD,.bool pAE,.int .i64 pAH,.int .i64 pAI,.int .i64 pAJ,.int .i64 pAK,.int .i64 pAM] 128 0 true)],[(iC,.row [.slice aE pC.length zH,.slice aK pI.length zM,.slice aT pO.length zU] 95 0 true)],BO,BW,BAB] F (fun v S' F'=> ∃(ra1:Option Addr) (rz2:Nat) (rB4:Seg) (ra5:Option Addr) (rz6:Nat) (rB8:Seg),FLe F F'∧v= .bool r.1∧S'= [[(iB,.row [.pointer (some ⟨iC,0,none⟩),.slice ra1 r.2.1.length rz2,vB r.2.2.1,.bool r.2.2.2.1,.int .i64 r.2.2.2.2.1,.bool r.2.2.2.2.2.1,.int .i64 r.2.2.2.2.2.2.1,.int .i64 r.2.2.2.2.2.2.2.1,.int .i64 r.2.2.2.2.2.2.2.2.1,.int .i64 r.2.2.2.2.2.2.2.2.2.1,.int .i64 r.2.2.2.2.2.2.2.2.2.2.1] 128 0 true)],[(iC,.row [.slice aE pC.length zH,.slice aK pI.length zM,.slice ra5 r.2.2.2.2.2.2.2.2.2.2.2.length rz6] 95 0 true)],BO,rB8,rB4]∧Own bb F' ra1 rz2 r.2.1 rB4∧Own bs F' ra5 rz6 r.2.2.2.2.2.2.2.2.2.2.2 rB8):=by
 refine Cl.of Tryz.func149 rfl (fun _ _=>rfl) (by kernel_rfl) fun s L nx0 hS=>?_
 unfold g_10.f at h
 refine WW.seq (WW.region ?_)
 refine sg0 hS 1 [] [6] [.bool false] [] (by kernel_rfl) fun s hS=>(KW.nil ?_)
 refine WW.seq (WW.region ?_)
 refine sg0 hS 8 [0,1] [16,17] [.slice aE pC.length zH,.int .i64 pAN] [iB,iC] (by kernel_rfl) fun s hS=>?_
 obtain⟨hk1,h⟩:=ac h
 obtain⟨i7,of8,rfl⟩:=Frz.addr hI (by omega)
 obtain⟨_,_,_,_,c2,hF9,hR3,hN4,hN5,hT6⟩:=Frz.at hI hk1 (m:=1) rfl
 obtain rfl:=hR3
 refine am hS (wn rfl) rfl rfl rfl (v:= .pointer (some ⟨i7,of8+(pAN).toNat*1,none⟩)) (aW (hS.lk rfl) (hS.lk rfl) ie hk1) fun s hS=>(gG hS (wn rfl) rfl rfl rfl (hS.fat hF9) tg9 (v:=aa (gt pC pAN)) hN4 fun s hS=>?_)
 refine sg0 hS 1 [] [7] [aa (gt pC pAN)] [] (by kernel_rfl) fun s hS=>(KW.nil ?_)
 refine WW.seq (WW.regionD (i:=[[],[0],[],[2,1,0],[3,2,1,0],[3,2,1,0],[2,1,0],[6,5,4,3],[]]) (by kernel_rfl) ?_)
 have hq:=RS.start [iB,iC]
 refine kg hS hq 2 [20,21] [aa (gt pC pAN),.int .i64 pAO] (by kernel_rfl) fun s rs hS hq=>?_
 obtain⟨hk10,h⟩:=ac h
 refine K.pu hS hq rfl (wn rfl) rfl rfl rfl (v:=vB (gt (gt pC pAN) pAO)) (aA tu9 (hS.lk rfl) (hS.lk rfl) hk10) fun s rs hS hq=>(kg hS hq 3 [23,25] [aa (gt pC pAN),.int .i64 (w64 (pAO+1))] (by kernel_rfl) fun s rs hS hq=>?_)
 obtain⟨hk11,h⟩:=ac h
 refine K.pu hS hq rfl (wn rfl) rfl rfl rfl (v:=aa (mid (gt pC pAN) (w64 (pAO+1)) ((gt pC pAN).length:Int))) (cu tu9 (hS.lk rfl) (i:=(w64 (pAO+1))) (j:=((gt pC pAN).length:Int)) (bu hS rfl) rfl hk11) fun s rs hS hq=>(kg hS hq 2 [8,9] [vB (gt (gt pC pAN) pAO),aa (mid (gt pC pAN) (w64 (pAO+1)) ((gt pC pAN).length:Int))] (by kernel_rfl) fun s rs hS hq=>?_)
 refine KW.nil (WW.seq ?_)
 refine WW.block (WW.seq ?_)
 refine WW.region (sg0 hS 6 [0] [37] [.bool ((pAB.toNat:Int) != ((0:UInt8).toNat:Int))] [iB] (by kernel_rfl) fun s hS=>?_)
 refine KW.nil (bc h (fun hc12 h=>?_) fun hc12 h=>?_)
 refine WW.condK hS rfl hc12 (WW.seq ?_)
 refine WW.seq (WW.region ?_)
 refine sg0 hS 3 [] [45] [.bool (((gt (gt pC pAN) pAO).toNat:Int)==((38:UInt8).toNat:Int))] [] (by kernel_rfl) fun s hS=>?_
 obtain⟨z13,hz13,h⟩:=bind_some h
 refine aH 3 (fun s=>Stt EV s [(48,.bool z13),(0,.pointer (some ⟨iB,0,none⟩)),(1,.int .i64 pAN),(2,.int .i64 pAO),(6,.bool false),(8,vB (gt (gt pC pAN) pAO))] [[(iB,.row [.pointer (some ⟨iC,0,none⟩),.slice aY pW.length zZ,vB pAB,.bool pAC,.int .i64 pAD,.bool pAE,.int .i64 pAH,.int .i64 pAI,.int .i64 pAJ,.int .i64 pAK,.int .i64 pAM] 128 0 true)],[(iC,.row [.slice (some ⟨i7,of8,none⟩) pC.length zH,.slice aK pI.length zM,.slice aT pO.length zU] 95 0 true)],BO,BW,BAB] F L F nx0) ?_ fun s hS=>?_
 refine bc hz13 (fun hc14 hz13=>?_) fun hc14 hz13=>?_
 replace hS:=hS.kb 45 hc14 rfl
 refine sg0 hS 1 [] [46] [aa (mid (gt pC pAN) (w64 (pAO+1)) ((gt pC pAN).length:Int))] [] (by kernel_rfl) fun s hS=>?_
 obtain⟨y15,hy15,hz13⟩:=bind_some hz13
 refine bE hS (wt hS rfl rfl rfl rfl) (vs:=[aa (mid (gt pC pAN) (w64 (pAO+1)) ((gt pC pAN).length:Int))]) (ws:=[aa (mid (gt pC pAN) (w64 (pAO+1)) ((gt pC pAN).length:Int))]) rfl rfl rfl rfl rfl 0 rfl (g_16.ok hy15) fun s v S' F' hp16 hF hS=>?_
 obtain⟨rfl,rfl,rfl⟩:=hp16
 refine sg0 hS 1 [] [48] [.bool y15] [] (by kernel_rfl) fun s hS=>(KW.nil ?_)
 obtain rfl:=Option.some.inj hz13
 exact hS.subR rfl
 replace hS:=hS.kb 45 hc14 rfl
 refine sg0 hS 3 [] [48] [.bool false] [] (by kernel_rfl) fun s hS=>(KW.nil ?_)
 obtain rfl:=Option.some.inj hz13
 exact hS.subR rfl
 refine KW.nil (bc h (fun hc17 h=>?_) fun hc17 h=>?_)
 refine WW.condK hS rfl hc17 (WW.seq ?_)
 refine WW.region (sg hS 4 [0] [] [] [iB] [[(iB,.row [.pointer (some ⟨iC,0,none⟩),.slice aY pW.length zZ,vB pAB,.bool true,.int .i64 pAD,.bool pAE,.int .i64 pAH,.int .i64 pAI,.int .i64 pAJ,.int .i64 pAK,.int .i64 pAM] 128 0 true)],[(iC,.row [.slice (some ⟨i7,of8,none⟩) pC.length zH,.slice aK pI.length zM,.slice aT pO.length zU] 95 0 true)],BO,BW,BAB] (by kernel_rfl) fun s hS=>?_)
 refine KW.nil (WW.seq ?_)
 refine WW.region (sg0 hS 1 [] [6] [.bool false] [] (by kernel_rfl) fun s hS=>?_)
 refine KW.nil (WW.ret ?_)
 cases h
 exact aS hS (.inr rfl) 6 rfl rfl ⟨_,_,_,_,_,_,(FLe.refl _),rfl,rfl,hAA,hV⟩
 refine WW.condF hS rfl hc17 (WW.skip ?_)
 refine WW.seq (WW.region ?_)
 obtain⟨y18,hy18,h⟩:=bind_some h
 refine cK (g_13.ok hy18 hI hAA) hS 3 55 5 rfl (by kernel_rfl) fun s v S' F' hp19 hF hS=>?_
 obtain⟨a20,z21,B23,rfl,rfl,rfl,h22⟩:=hp19
 refine KW.nil (WW.seq ?_)
 refine WW.region (sg0 hS 6 [0] [61] [.bool (((gt (gt pC pAN) pAO).toNat:Int)==(pAB.toNat:Int))] [iB] (by kernel_rfl) fun s hS=>?_)
 refine KW.nil (bc h (fun hc24 h=>?_) fun hc24 h=>?_)
 refine WW.condK hS rfl hc24 (WW.region ?_)
 refine sg hS 4 [0] [] [] [iB] [[(iB,.row [.pointer (some ⟨iC,0,none⟩),.slice a20 y18.1.length z21,vB 0,.bool pAC,.int .i64 pAD,.bool y18.2,.int .i64 pAH,.int .i64 pAI,.int .i64 pAJ,.int .i64 pAK,.int .i64 pAM] 128 0 true)],[(iC,.row [.slice (some ⟨i7,of8,none⟩) pC.length zH,.slice aK pI.length zM,.slice aT pO.length zU] 95 0 true)],BO,BW,B23] (by kernel_rfl) fun s hS=>(KW.nil ?_)
 refine WW.seq (WW.region ?_)
 refine sg0 hS 1 [] [6] [.bool true] [] (by kernel_rfl) fun s hS=>(KW.nil ?_)
 refine WW.ret ?_
 cases h
 exact aS hS (.inr rfl) 6 rfl rfl ⟨_,_,_,_,_,_,(FLe.refl _),rfl,rfl,h22,hV⟩
 refine WW.condF hS rfl hc24 (WW.skip ?_)
 refine WW.seq (WW.region ?_)
 refine sg0 hS 1 [] [6] [.bool true] [] (by kernel_rfl) fun s hS=>(KW.nil ?_)
 refine WW.ret ?_
 cases h
 exact aS hS (.inr rfl) 6 rfl rfl ⟨_,_,_,_,_,_,(FLe.refl _),rfl,rfl,h22,hV⟩
 refine WW.condF hS rfl hc12 (WW.seq ?_)
 refine WW.region (sg0 hS 3 [] [65] [.bool (((gt (gt pC pAN) pAO).toNat:Int)==((33:UInt8).toNat:Int))] [] (by kernel_rfl) fun s hS=>?_)
 refine KW.nil (bc h (fun hc25 h=>?_) fun hc25 h=>?_)
 refine WW.condK hS rfl hc25 (WW.seq ?_)
 refine WW.region (sg0 hS 1 [] [6] [.bool false] [] (by kernel_rfl) fun s hS=>?_)
 refine KW.nil (WW.ret ?_)
 cases h
 exact aS hS (.inr rfl) 6 rfl rfl ⟨_,_,_,_,_,_,(FLe.refl _),rfl,rfl,hAA,hV⟩
 refine WW.condF hS rfl hc25 (WW.seq ?_)
 refine WW.region (sg0 hS 3 [] [68] [.bool (((gt (gt pC pAN) pAO).toNat:Int)==((59:UInt8).toNat:Int))] [] (by kernel_rfl) fun s hS=>?_)
 refine KW.nil (bc h (fun hc26 h=>?_) fun hc26 h=>?_)
 refine WW.condK hS rfl hc26 (WW.region ?_)
 obtain⟨y27,hy27,h⟩:=bind_some h
 refine cK (g_11.ok hy27 hV hAA) hS 1 72 5 rfl (by kernel_rfl) fun s v S' F29 hp28 hF hS=>?_
 obtain⟨a30,z31,B33,a34,z35,B37,hF38,rfl,rfl,h32,h36⟩:=hp28
 refine KW.nil (WW.seq ?_)
 refine WW.region (sg0 hS 1 [] [6] [.bool true] [] (by kernel_rfl) fun s hS=>?_)
 refine KW.nil (WW.ret ?_)
 cases h
 exact aS hS (.inr rfl) 6 rfl rfl ⟨_,_,_,_,_,_,(hF38),rfl,rfl,h32,h36⟩
 refine WW.condF hS rfl hc26 (WW.seq ?_)
 refine WW.region (sg0 hS 3 [] [73] [.bool (((gt (gt pC pAN) pAO).toNat:Int)==((38:UInt8).toNat:Int))] [] (by kernel_rfl) fun s hS=>?_)
 refine KW.nil (bc h (fun hc39 h=>?_) fun hc39 h=>?_)
 refine WW.condK hS rfl hc39 (WW.seq ?_)
 refine WW.region ?_
 obtain⟨y40,hy40,h⟩:=bind_some h
 refine cR (g_1q.ok hy40) hS 1 77 0 rfl (by kernel_rfl) fun s hS=>(sg0 hS 1 [] [9] [aa y40] [] (by kernel_rfl) fun s hS=>?_)
 refine KW.nil (WW.seq ?_)
 refine WW.seq (WW.region ?_)
 refine sg0 hS 1 [] [78] [aa y40] [] (by kernel_rfl) fun s hS=>(am hS (wn rfl) rfl rfl rfl (v:= .bool (decide (y40= []))) (fk (hS.lk rfl) (hS.lk rfl)) fun s hS=>?_)
 refine sg0 hS 1 [] [80] [.bool (decide (y40= []))] [] (by kernel_rfl) fun s hS=>?_
 obtain⟨z42,hz42,h⟩:=bind_some h
 refine aH 4 (fun s=>Stt EV s [(84,.bool z42),(0,.pointer (some ⟨iB,0,none⟩)),(6,.bool false)] [[(iB,.row [.pointer (some ⟨iC,0,none⟩),.slice aY pW.length zZ,vB pAB,.bool pAC,.int .i64 pAD,.bool pAE,.int .i64 pAH,.int .i64 pAI,.int .i64 pAJ,.int .i64 pAK,.int .i64 pAM] 128 0 true)],[(iC,.row [.slice (some ⟨i7,of8,none⟩) pC.length zH,.slice aK pI.length zM,.slice aT pO.length zU] 95 0 true)],BO,BW,BAB] F L F nx0) ?_ fun s hS=>?_
 refine bc hz42 (fun hc43 hz42=>?_) fun hc43 hz42=>?_
 replace hS:=hS.kb 79 hc43 rfl
 replace hS:=hS.kb 80 hc43 rfl
 refine sg0 hS 4 [] [84] [.bool true] [] (by kernel_rfl) fun s hS=>(KW.nil ?_)
 obtain rfl:=Option.some.inj hz42
 exact hS.subR rfl
 replace hS:=hS.kb 79 hc43 rfl
 replace hS:=hS.kb 80 hc43 rfl
 refine sg0 hS 1 [] [81] [aa y40] [] (by kernel_rfl) fun s hS=>?_
 obtain⟨hk44,hz42⟩:=ac hz42
 refine am hS (wt hS rfl rfl rfl rfl) rfl rfl rfl (v:=vB (gt y40 (0:Int))) (aA tu9 (hS.lk rfl) (hS.lk rfl) hk44) fun s hS=>(sg0 hS 2 [] [84] [.bool (((gt y40 (0:Int)).toNat:Int)==((33:UInt8).toNat:Int))] [] (by kernel_rfl) fun s hS=>?_)
 refine KW.nil ?_
 obtain rfl:=Option.some.inj hz42
 exact hS.subR rfl
 refine KW.nil (bc h (fun hc45 h=>?_) fun hc45 h=>?_)
 refine WW.condK hS rfl hc45 (WW.region ?_)
 refine sg hS 4 [0] [] [] [iB] [[(iB,.row [.pointer (some ⟨iC,0,none⟩),.slice aY pW.length zZ,vB pAB,.bool true,.int .i64 pAD,.bool pAE,.int .i64 pAH,.int .i64 pAI,.int .i64 pAJ,.int .i64 pAK,.int .i64 pAM] 128 0 true)],[(iC,.row [.slice (some ⟨i7,of8,none⟩) pC.length zH,.slice aK pI.length zM,.slice aT pO.length zU] 95 0 true)],BO,BW,BAB] (by kernel_rfl) fun s hS=>(KW.nil ?_)
 refine WW.seq (WW.region ?_)
 refine sg0 hS 1 [] [6] [.bool false] [] (by kernel_rfl) fun s hS=>(KW.nil ?_)
 refine WW.ret ?_
 cases h
 exact aS hS (.inr rfl) 6 rfl rfl ⟨_,_,_,_,_,_,(FLe.refl _),rfl,rfl,hAA,hV⟩
 refine WW.condF hS rfl hc45 (WW.region ?_)
 obtain⟨y46,hy46,h⟩:=bind_some h
 refine cR (g_15.ok hy46) hS 1 89 5 rfl (by kernel_rfl) fun s hS=>(KW.nil ?_)
 refine WW.seq (WW.region ?_)
 refine sg0 hS 1 [] [6] [.bool false] [] (by kernel_rfl) fun s hS=>(KW.nil ?_)
 refine WW.ret ?_
 cases h
 exact aS hS (.inr rfl) 6 rfl rfl ⟨_,_,_,_,_,_,(FLe.refl _),rfl,rfl,hAA,hV⟩
 refine WW.condF hS rfl hc39 (WW.seq ?_)
 refine WW.region ?_
 obtain⟨y48,hy48,h⟩:=bind_some h
 refine cK (g_13.ok hy48 hI hAA) hS 3 30 5 rfl (by kernel_rfl) fun s v S' F' hp49 hF hS=>?_
 obtain⟨a50,z51,B53,rfl,rfl,rfl,h52⟩:=hp49
 refine KW.nil (WW.seq ?_)
 refine WW.region ?_
 obtain⟨y54,hy54,h⟩:=bind_some h
 refine cR (g_1a.ok hy54) hS 1 32 0 rfl (by kernel_rfl) fun s hS=>(KW.nil ?_)
 refine bc h (fun hc56 h=>?_) fun hc56 h=>?_
 refine WW.condK hS rfl hc56 (WW.region ?_)
 refine sg hS 5 [0] [] [] [iB] [[(iB,.row [.pointer (some ⟨iC,0,none⟩),.slice a50 y48.1.length z51,vB (gt (gt pC pAN) pAO),.bool pAC,.int .i64 pAD,.bool y48.2,.int .i64 pAH,.int .i64 pAI,.int .i64 pAJ,.int .i64 pAK,.int .i64 pAM] 128 0 true)],[(iC,.row [.slice (some ⟨i7,of8,none⟩) pC.length zH,.slice aK pI.length zM,.slice aT pO.length zU] 95 0 true)],BO,BW,B53] (by kernel_rfl) fun s hS=>(KW.nil ?_)
 refine WW.seq (WW.region ?_)
 refine sg0 hS 1 [] [6] [.bool true] [] (by kernel_rfl) fun s hS=>(KW.nil ?_)
 refine WW.ret ?_
 cases h
 exact aS hS (.inr rfl) 6 rfl rfl ⟨_,_,_,_,_,_,(FLe.refl _),rfl,rfl,h52,hV⟩
 refine WW.condF hS rfl hc56 (WW.skip ?_)
 refine WW.seq (WW.region ?_)
 refine sg0 hS 1 [] [6] [.bool true] [] (by kernel_rfl) fun s hS=>(KW.nil ?_)
 refine WW.ret ?_
 cases h
 exact aS hS (.inr rfl) 6 rfl rfl ⟨_,_,_,_,_,_,(FLe.refl _),rfl,rfl,h52,hV⟩
noncomputable def g_12.b0 (pC:List (List UInt8)) (pAN:Int) (x31:Int×(List (UInt8×Int×Int×Int))×UInt8×Bool×Int×Bool×Int×Int×Int×Int×Int×(List (Int×List UInt8×(List (Int×Int×Int))))):Option ((Int×(List (UInt8×Int×Int×Int))×UInt8×Bool×Int×Bool×Int×Int×Int×Int×Int×(List (Int×List UInt8×(List (Int×Int×Int)))))⊕(Int×(List (UInt8×Int×Int×Int))×UInt8×Bool×Int×Bool×Int×Int×Int×Int×Int×(List (Int×List UInt8×(List (Int×Int×Int)))))) :=
  (if(decide (x31.1<((gt pC pAN).length:Int))) then Option.bind (g_10.f pC x31.2.2.2.2.2.2.2.2.2.2.2 x31.2.1 x31.2.2.1 x31.2.2.2.1 x31.2.2.2.2.1 x31.2.2.2.2.2.1 x31.2.2.2.2.2.2.1 x31.2.2.2.2.2.2.2.1 x31.2.2.2.2.2.2.2.2.1 x31.2.2.2.2.2.2.2.2.2.1 x31.2.2.2.2.2.2.2.2.2.2.1 pAN x31.1) fun y56=>(if y56.1 then some (.inl ((w64 (x31.1+1)),y56.2.1,y56.2.2.1,y56.2.2.2.1,y56.2.2.2.2.1,y56.2.2.2.2.2.1,y56.2.2.2.2.2.2.1,y56.2.2.2.2.2.2.2.1,y56.2.2.2.2.2.2.2.2.1,y56.2.2.2.2.2.2.2.2.2.1,y56.2.2.2.2.2.2.2.2.2.2.1,y56.2.2.2.2.2.2.2.2.2.2.2)) else some (.inr (x31.1,y56.2.1,y56.2.2.1,y56.2.2.2.1,y56.2.2.2.2.1,y56.2.2.2.2.2.1,y56.2.2.2.2.2.2.1,y56.2.2.2.2.2.2.2.1,y56.2.2.2.2.2.2.2.2.1,y56.2.2.2.2.2.2.2.2.2.1,y56.2.2.2.2.2.2.2.2.2.2.1,y56.2.2.2.2.2.2.2.2.2.2.2))) else some (.inr (x31.1,x31.2.1,x31.2.2.1,x31.2.2.2.1,x31.2.2.2.2.1,x31.2.2.2.2.2.1,x31.2.2.2.2.2.2.1,x31.2.2.2.2.2.2.2.1,x31.2.2.2.2.2.2.2.2.1,x31.2.2.2.2.2.2.2.2.2.1,x31.2.2.2.2.2.2.2.2.2.2.1,x31.2.2.2.2.2.2.2.2.2.2.2)))
noncomputable def g_12.f (pC:List (List UInt8)) (pI:List Int) (pO:List (Int×List UInt8×(List (Int×Int×Int)))) (pW:List (UInt8×Int×Int×Int)) (pAB:UInt8) (pAC:Bool) (pAD:Int) (pAE:Bool) (pAH:Int) (pAI:Int) (pAJ:Int) (pAK:Int) (pAM:Int) (pAN:Int):Option ((List (UInt8×Int×Int×Int))×UInt8×Bool×Int×Bool×Int×Int×Int×Int×Int×List Int×(List (Int×List UInt8×(List (Int×Int×Int))))) :=
  (if 0≤pAN∧pAN<(pC.length:Int) then Option.bind (g_1q.f (gt pC pAN) ([32])) fun y10=>Option.bind ((if((pAB.toNat:Int)==((0:UInt8).toNat:Int)) then Option.bind ((if(decide (y10= [])) then some true else(if 0≤(0:Int)∧(0:Int)<(y10.length:Int) then some (((gt y10 (0:Int)).toNat:Int)==((33:UInt8).toNat:Int)) else none))) fun z14=>some z14 else some false)) fun z12=>(if z12 then(if pI.length+([0]:List Int).length<1000000000 then some (pW,pAB,pAC,pAD,pAE,pAH,pAI,pAJ,pAK,pAM,(pI++([0]:List Int)),pO) else none) else Option.bind ((if pAC then Option.bind (g_y.f pAB pAH pAI pAJ pAK pAM (gt pC pAN)) fun y26=>(if(decide ((w64 (pAD+1))>39)) then Option.bind (g_15.f y26.2.1 y26.2.2.1 y26.2.2.2.1 y26.2.2.2.2.1 y26.2.2.2.2.2 2 8) fun y29=>some (y26.1,(w64 (pAD+1)),y29.1,y29.2.1,y29.2.2.1,y29.2.2.2.1,y29.2.2.2.2) else some (y26.1,(w64 (pAD+1)),y26.2.1,y26.2.2.1,y26.2.2.2.1,y26.2.2.2.2.1,y26.2.2.2.2.2)) else some (0,pAD,pAH,pAI,pAJ,pAK,pAM))) fun z24=>Option.bind (iter (g_12.b0 pC pAN) (z24.1,pW,pAB,false,z24.2.1,false,z24.2.2.1,z24.2.2.2.1,z24.2.2.2.2.1,z24.2.2.2.2.2.1,z24.2.2.2.2.2.2,pO)) fun o42=>Option.bind ((if(!o42.2.2.2.1) then(if((o42.2.2.1.toNat:Int) != ((0:UInt8).toNat:Int)) then Option.bind (g_15.f o42.2.2.2.2.2.2.1 o42.2.2.2.2.2.2.2.1 o42.2.2.2.2.2.2.2.2.1 o42.2.2.2.2.2.2.2.2.2.1 o42.2.2.2.2.2.2.2.2.2.2.1 3 21) fun y92=>Option.bind (g_11.f o42.2.2.2.2.2.2.2.2.2.2.2 o42.2.1 y92.1 y92.2.1 y92.2.2.1 y92.2.2.2.1 y92.2.2.2.2) fun y94=>some (y94.1,0,y94.2.1,y94.2.2.1,y94.2.2.2.1,y94.2.2.2.2.1,y94.2.2.2.2.2.1,y94.2.2.2.2.2.2.1,y94.2.2.2.2.2.2.2) else Option.bind (g_11.f o42.2.2.2.2.2.2.2.2.2.2.2 o42.2.1 o42.2.2.2.2.2.2.1 o42.2.2.2.2.2.2.2.1 o42.2.2.2.2.2.2.2.2.1 o42.2.2.2.2.2.2.2.2.2.1 o42.2.2.2.2.2.2.2.2.2.2.1) fun y106=>some (y106.1,o42.2.2.1,y106.2.1,y106.2.2.1,y106.2.2.2.1,y106.2.2.2.2.1,y106.2.2.2.2.2.1,y106.2.2.2.2.2.2.1,y106.2.2.2.2.2.2.2)) else some (o42.2.1,o42.2.2.1,o42.2.2.2.2.1,o42.2.2.2.2.2.2.1,o42.2.2.2.2.2.2.2.1,o42.2.2.2.2.2.2.2.2.1,o42.2.2.2.2.2.2.2.2.2.1,o42.2.2.2.2.2.2.2.2.2.2.1,o42.2.2.2.2.2.2.2.2.2.2.2))) fun z79=>Option.bind ((if o42.2.2.2.2.2.1 then some 1 else some 2)) fun z118=>(if pI.length+([z118]:List Int).length<1000000000 then some (z79.1,z79.2.1,o42.2.2.2.1,z79.2.2.1,o42.2.2.2.2.2.1,z79.2.2.2.1,z79.2.2.2.2.1,z79.2.2.2.2.2.1,z79.2.2.2.2.2.2.1,z79.2.2.2.2.2.2.2.1,(pI++([z118]:List Int)),z79.2.2.2.2.2.2.2.2) else none)) else none)
theorem g_12.ok {iB:Nat} {iC:Nat} {aE:Option Addr} {zH:Nat} {aK:Option Addr} {zM:Nat} {BO:Seg} {aT:Option Addr} {zU:Nat} {BW:Seg} {aY:Option Addr} {zZ:Nat} {BAB:Seg} {pC:List (List UInt8)} {pI:List Int} {pO:List (Int×List UInt8×(List (Int×Int×Int)))} {pW:List (UInt8×Int×Int×Int)} {pAB:UInt8} {pAC:Bool} {pAD:Int} {pAE:Bool} {pAH:Int} {pAI:Int} {pAJ:Int} {pAK:Int} {pAM:Int} {pAN:Int} {F:FZ} {r:(List (UInt8×Int×Int×Int))×UInt8×Bool×Int×Bool×Int×Int×Int×Int×Int×List Int×(List (Int×List UInt8×(List (Int×Int×Int))))} (h:g_12.f pC pI pO pW pAB pAC pAD pAE pAH pAI pAJ pAK pAM pAN=some r) (hI:Frz (elS 9) F aE zH pC) (hN:Own (elI .i64 3) F aK zM pI BO) (hV:Own bs F aT zU pO BW) (hAA:Own bb F aY zZ pW BAB) :
    Cl EV 119 [.pointer (some ⟨iB,0,none⟩),.int .i64 pAN] [[(iB,.row [.pointer (some ⟨iC,0,none⟩),.slice aY pW.length zZ,vB pAB,.bool pAC,.int .i64 pAD,.bool pAE,.int .i64 pAH,.int .i64 pAI,.int .i64 pAJ,.int .i64 pAK,.int .i64 pAM] 128 0 true)],[(iC,.row [.slice aE pC.length zH,.slice aK pI.length zM,.slice aT pO.length zU] 95 0 true)],BO,BW,BAB] F (fun v S' F'=> ∃(ra1:Option Addr) (rz2:Nat) (rB4:Seg) (ra5:Option Addr) (rz6:Nat) (rB8:Seg) (ra9:Option Addr) (rz10:Nat) (rB12:Seg),FLe F F'∧v= .tuple #[]∧S'= [[(iB,.row [.pointer (some ⟨iC,0,none⟩),.slice ra1 r.1.length rz2,vB r.2.1,.bool r.2.2.1,.int .i64 r.2.2.2.1,.bool r.2.2.2.2.1,.int .i64 r.2.2.2.2.2.1,.int .i64 r.2.2.2.2.2.2.1,.int .i64 r.2.2.2.2.2.2.2.1,.int .i64 r.2.2.2.2.2.2.2.2.1,.int .i64 r.2.2.2.2.2.2.2.2.2.1] 128 0 true)],[(iC,.row [.slice aE pC.length zH,.slice ra5 r.2.2.2.2.2.2.2.2.2.2.1.length rz6,.slice ra9 r.2.2.2.2.2.2.2.2.2.2.2.length rz10] 95 0 true)],rB8,rB12,rB4]∧Own bb F' ra1 rz2 r.1 rB4∧Own (elI .i64 3) F' ra5 rz6 r.2.2.2.2.2.2.2.2.2.2.1 rB8∧Own bs F' ra9 rz10 r.2.2.2.2.2.2.2.2.2.2.2 rB12):=by
 refine Cl.of Tryz.func119 rfl (fun _ _=>rfl) (by kernel_rfl) fun s L nx0 hS=>?_
 unfold g_12.f at h
 refine WW.seq (WW.region ?_)
 refine sg0 hS 8 [0,1] [14,15] [.slice aE pC.length zH,.int .i64 pAN] [iB,iC] (by kernel_rfl) fun s hS=>?_
 obtain⟨hk1,h⟩:=ac h
 obtain⟨i7,of8,rfl⟩:=Frz.addr hI (by omega)
 obtain⟨_,_,_,_,c2,hF9,hR3,hN4,hN5,hT6⟩:=Frz.at hI hk1 (m:=1) rfl
 obtain rfl:=hR3
 refine am hS (wn rfl) rfl rfl rfl (v:= .pointer (some ⟨i7,of8+(pAN).toNat*1,none⟩)) (aW (hS.lk rfl) (hS.lk rfl) ie hk1) fun s hS=>(gG hS (wn rfl) rfl rfl rfl (hS.fat hF9) tg9 (v:=aa (gt pC pAN)) hN4 fun s hS=>?_)
 refine sg0 hS 1 [] [4] [aa (gt pC pAN)] [] (by kernel_rfl) fun s hS=>(KW.nil ?_)
 refine WW.seq (WW.region ?_)
 obtain⟨y10,hy10,h⟩:=bind_some h
 refine cR (g_1q.ok hy10) hS 1 19 0 rfl (by kernel_rfl) fun s hS=>(sg0 hS 1 [] [5] [aa y10] [] (by kernel_rfl) fun s hS=>?_)
 refine KW.nil (WW.seq ?_)
 refine WW.seq (WW.region ?_)
 refine sg0 hS 6 [0] [25] [.bool ((pAB.toNat:Int)==((0:UInt8).toNat:Int))] [iB] (by kernel_rfl) fun s hS=>?_
 obtain⟨z12,hz12,h⟩:=bind_some h
 refine aH 8 (fun s=>Stt EV s [(33,.bool z12),(0,.pointer (some ⟨iB,0,none⟩)),(1,.int .i64 pAN),(4,aa (gt pC pAN))] [[(iB,.row [.pointer (some ⟨iC,0,none⟩),.slice aY pW.length zZ,vB pAB,.bool pAC,.int .i64 pAD,.bool pAE,.int .i64 pAH,.int .i64 pAI,.int .i64 pAJ,.int .i64 pAK,.int .i64 pAM] 128 0 true)],[(iC,.row [.slice (some ⟨i7,of8,none⟩) pC.length zH,.slice aK pI.length zM,.slice aT pO.length zU] 95 0 true)],BO,BW,BAB] F L F nx0) ?_ fun s hS=>?_
 refine bc hz12 (fun hc13 hz12=>?_) fun hc13 hz12=>?_
 replace hS:=hS.kb 25 hc13 rfl
 refine sg0 hS 1 [] [26] [aa y10] [] (by kernel_rfl) fun s hS=>(am hS (wt hS rfl rfl rfl rfl) rfl rfl rfl (v:= .bool (decide (y10= []))) (fk (hS.lk rfl) (hS.lk rfl)) fun s hS=>?_)
 refine sg0 hS 1 [] [28] [.bool (decide (y10= []))] [] (by kernel_rfl) fun s hS=>?_
 obtain⟨z14,hz14,hz12⟩:=bind_some hz12
 refine aH 4 (fun s=>Stt EV s [(32,.bool z14),(0,.pointer (some ⟨iB,0,none⟩)),(1,.int .i64 pAN),(4,aa (gt pC pAN)),(25,.bool true)] [[(iB,.row [.pointer (some ⟨iC,0,none⟩),.slice aY pW.length zZ,vB pAB,.bool pAC,.int .i64 pAD,.bool pAE,.int .i64 pAH,.int .i64 pAI,.int .i64 pAJ,.int .i64 pAK,.int .i64 pAM] 128 0 true)],[(iC,.row [.slice (some ⟨i7,of8,none⟩) pC.length zH,.slice aK pI.length zM,.slice aT pO.length zU] 95 0 true)],BO,BW,BAB] F L F nx0) ?_ fun s hS=>?_
 refine bc hz14 (fun hc15 hz14=>?_) fun hc15 hz14=>?_
 replace hS:=hS.kb 27 hc15 rfl
 replace hS:=hS.kb 28 hc15 rfl
 refine sg0 hS 4 [] [32] [.bool true] [] (by kernel_rfl) fun s hS=>(KW.nil ?_)
 obtain rfl:=Option.some.inj hz14
 exact hS.subR rfl
 replace hS:=hS.kb 27 hc15 rfl
 replace hS:=hS.kb 28 hc15 rfl
 refine sg0 hS 1 [] [29] [aa y10] [] (by kernel_rfl) fun s hS=>?_
 obtain⟨hk16,hz14⟩:=ac hz14
 refine am hS (wt hS rfl rfl rfl rfl) rfl rfl rfl (v:=vB (gt y10 (0:Int))) (aA tu9 (hS.lk rfl) (hS.lk rfl) hk16) fun s hS=>(sg0 hS 2 [] [32] [.bool (((gt y10 (0:Int)).toNat:Int)==((33:UInt8).toNat:Int))] [] (by kernel_rfl) fun s hS=>?_)
 refine KW.nil ?_
 obtain rfl:=Option.some.inj hz14
 exact hS.subR rfl
 refine sg0 hS 1 [] [33] [.bool z14] [] (by kernel_rfl) fun s hS=>(KW.nil ?_)
 obtain rfl:=Option.some.inj hz12
 exact hS.subR rfl
 replace hS:=hS.kb 25 hc13 rfl
 refine sg0 hS 3 [] [28] [undef] [] (by kernel_rfl) fun s hS=>(dx hS (wu hS rfl rfl rfl) rfl fun s hS=>?_)
 refine dx hS (wu hS rfl rfl rfl) rfl fun s hS=>(dx hS (wu hS rfl rfl rfl) rfl fun s hS=>?_)
 refine sg0 hS 2 [] [33] [.bool false] [] (by kernel_rfl) fun s hS=>(KW.nil ?_)
 obtain rfl:=Option.some.inj hz12
 exact hS.subR rfl
 refine KW.nil (bc h (fun hc17 h=>?_) fun hc17 h=>?_)
 refine WW.condK hS rfl hc17 (WW.seq ?_)
 refine WW.regionD (i:=[[],[],[],[],[3,2,1,0],[3,2,1,0],[3,2,1,0],[3,2,1,0],[3,2,1,0],[3,2,1,0],[3,2,1,0],[10,9,8,7,6,5,4,3,2,1,0],[3,2,1,0],[],[],[]]) (by kernel_rfl) ?_
 have hq:=RS.start [iB,iC]
 refine kg hS hq 3 [36] [.pointer (some ⟨iB,0,none⟩)] (by kernel_rfl) fun s rs hS hq=>(K.ld hS hq rfl (wn rfl) rfl rfl rfl (hS.at (k:=0) rfl) ig (v:= .pointer (some ⟨iC,0,none⟩)) rfl 0 rfl rfl fun s rs hS hq=>?_)
 refine kg hS hq 3 [40] [.pointer (some ⟨iB,0,none⟩)] (by kernel_rfl) fun s rs hS hq=>(K.ld hS hq rfl (wn rfl) rfl rfl rfl (hS.at (k:=0) rfl) ig (v:= .pointer (some ⟨iC,0,none⟩)) rfl 0 rfl rfl fun s rs hS hq=>?_)
 refine kg hS hq 2 [43] [.pointer (some ⟨iC,1,none⟩)] (by kernel_rfl) fun s rs hS hq=>(K.ld hS hq rfl (wn rfl) rfl rfl rfl (hS.at (k:=1) rfl) r4 (v:= .slice aK pI.length zM) rfl 1 rfl rfl fun s rs hS hq=>?_)
 refine K.nw hS hq rfl (wn rfl) rfl rfl rfl (v:=fun i=> .slice (some ⟨i,0,none⟩) 1 1) (b:= .row [.int .i64 0] 3 1 true) (be ko tz3 km rfl [(0,.int .i64 0)] (ar hS rfl) rfl) [0,1] (aZ rfl mm0 (aZ rfl (mm1 mm0) bv)) rfl rfl rfl fun s rs i18 hS hq=>?_
 have hC19:au (elI .i64 3) F ([0]:List Int) [.int .i64 0]:=⟨[.int .i64 0],[],rfl,rfl,rfl⟩
 obtain⟨hk23,h⟩:=ac h
 replace hS:=hS.pull 3
 replace hS:=hS.pull 1
 refine K.app [] hS hq rfl (wn rfl) (dd:=(elI .i64 3)) (lst:=pI) (m:=([0]:List Int)) rfl rfl cZ rfl rfl hN (Nat.succ_pos _) hC19 hk23 [0,1] rfl rfl (aZ rfl mm0 (aZ rfl (mm1 mm0) bv)) fun s rs i20 cs21 hC22 hS hq=>(kg hS hq 2 [48] [.pointer (some ⟨iC,1,none⟩)] (by kernel_rfl) fun s rs hS hq=>?_)
 refine K.sto hS hq rfl (wn rfl) rfl rfl rfl rfl (p:=2) rfl sa rfl [.slice (some ⟨i7,of8,none⟩) pC.length zH,.slice (some ⟨i20,0,none⟩) (pI++([0]:List Int)).length 1,.slice aT pO.length zU] rfl [0] rfl (aZ rfl (mm1 mm0) bv) fun s rs hS hq=>(KW.nil ?_)
 refine WW.ret ?_
 replace hS:=hS.pull 4
 replace hS:=hS.pull 4
 replace hS:=hS.pull 2
 replace hS:=hS.pull 4
 replace hS:=hS.pull 4
 cases h
 exact bW hS (.inr rfl) rfl ⟨_,_,_,_,_,_,_,_,_,(FLe.refl _),rfl,rfl,hAA,(Own.blk0 hC22),hV⟩
 refine WW.condF hS rfl hc17 (WW.skip ?_)
 refine WW.seq (WW.region ?_)
 refine sg0 hS 1 [] [6] [.int .i64 0] [] (by kernel_rfl) fun s hS=>(KW.nil ?_)
 obtain⟨z24,hz24,h⟩:=bind_some h
 refine WW.seqJ (fun s=>Stt EV s [(0,.pointer (some ⟨iB,0,none⟩)),(1,.int .i64 pAN),(4,aa (gt pC pAN)),(6,.int .i64 z24.1)] [[(iB,.row [.pointer (some ⟨iC,0,none⟩),.slice aY pW.length zZ,vB pAB,.bool pAC,.int .i64 z24.2.1,.bool pAE,.int .i64 z24.2.2.1,.int .i64 z24.2.2.2.1,.int .i64 z24.2.2.2.2.1,.int .i64 z24.2.2.2.2.2.1,.int .i64 z24.2.2.2.2.2.2] 128 0 true)],[(iC,.row [.slice (some ⟨i7,of8,none⟩) pC.length zH,.slice aK pI.length zM,.slice aT pO.length zU] 95 0 true)],BO,BW,BAB] F L F nx0) ?_ ?_
 refine WW.seq (WW.region ?_)
 refine sg0 hS 4 [0] [52] [.bool pAC] [iB] (by kernel_rfl) fun s hS=>(KW.nil ?_)
 refine bc hz24 (fun hc25 hz24=>?_) fun hc25 hz24=>?_
 refine WW.condK hS rfl hc25 (WW.seq ?_)
 refine WW.region ?_
 obtain⟨y26,hy26,hz24⟩:=bind_some hz24
 refine cR (g_y.ok hy26) hS 2 55 5 rfl (by kernel_rfl) fun s hS=>(sg0 hS 1 [] [6] [.int .i64 y26.1] [] (by kernel_rfl) fun s hS=>?_)
 refine KW.nil (WW.seq ?_)
 refine WW.region (sg hS 8 [0,0] [] [] [iB,iB] [[(iB,.row [.pointer (some ⟨iC,0,none⟩),.slice aY pW.length zZ,vB pAB,.bool pAC,.int .i64 (w64 (pAD+1)),.bool pAE,.int .i64 y26.2.1,.int .i64 y26.2.2.1,.int .i64 y26.2.2.2.1,.int .i64 y26.2.2.2.2.1,.int .i64 y26.2.2.2.2.2] 128 0 true)],[(iC,.row [.slice (some ⟨i7,of8,none⟩) pC.length zH,.slice aK pI.length zM,.slice aT pO.length zU] 95 0 true)],BO,BW,BAB] (by kernel_rfl) fun s hS=>?_)
 refine KW.nil (WW.seq ?_)
 refine WW.region (sg0 hS 5 [0] [67] [.bool (decide ((w64 (pAD+1))>39))] [iB] (by kernel_rfl) fun s hS=>?_)
 refine KW.nil (bc hz24 (fun hc28 hz24=>?_) fun hc28 hz24=>?_)
 refine WW.condK hS rfl hc28 (WW.region ?_)
 obtain⟨y29,hy29,hz24⟩:=bind_some hz24
 refine cR (g_15.ok hy29) hS 1 69 5 rfl (by kernel_rfl) fun s hS=>(KW.nil ?_)
 obtain rfl:=Option.some.inj hz24
 exact(hS.subR rfl)
 refine WW.condF hS rfl hc28 (WW.skip ?_)
 obtain rfl:=Option.some.inj hz24
 exact(hS.subR rfl)
 refine WW.condF hS rfl hc25 (WW.skip ?_)
 obtain rfl:=Option.some.inj hz24
 exact(hS.subR rfl)
 rintro s hS
 refine WW.seq (WW.region ?_)
 refine sg hS 8 [0,0] [] [] [iB,iB] [[(iB,.row [.pointer (some ⟨iC,0,none⟩),.slice aY pW.length zZ,vB pAB,.bool false,.int .i64 z24.2.1,.bool false,.int .i64 z24.2.2.1,.int .i64 z24.2.2.2.1,.int .i64 z24.2.2.2.2.1,.int .i64 z24.2.2.2.2.2.1,.int .i64 z24.2.2.2.2.2.2] 128 0 true)],[(iC,.row [.slice (some ⟨i7,of8,none⟩) pC.length zH,.slice aK pI.length zM,.slice aT pO.length zU] 95 0 true)],BO,BW,BAB] (by kernel_rfl) fun s hS=>(KW.nil ?_)
 refine WW.seq (WW.block ?_)
 obtain⟨o42,ho42,h⟩:=bind_some h
 refine WW.loop (LW.iterE ho42 (fun(x31:Int×(List (UInt8×Int×Int×Int))×UInt8×Bool×Int×Bool×Int×Int×Int×Int×Int×(List (Int×List UInt8×(List (Int×Int×Int))))) s=> ∃(a34:Option Addr) (z35:Nat) (B37:Seg) (a38:Option Addr) (z39:Nat) (B41:Seg) (F32:FZ),Stt EV s [(0,.pointer (some ⟨iB,0,none⟩)),(1,.int .i64 pAN),(4,aa (gt pC pAN)),(6,.int .i64 x31.1)] [[(iB,.row [.pointer (some ⟨iC,0,none⟩),.slice a34 x31.2.1.length z35,vB x31.2.2.1,.bool x31.2.2.2.1,.int .i64 x31.2.2.2.2.1,.bool x31.2.2.2.2.2.1,.int .i64 x31.2.2.2.2.2.2.1,.int .i64 x31.2.2.2.2.2.2.2.1,.int .i64 x31.2.2.2.2.2.2.2.2.1,.int .i64 x31.2.2.2.2.2.2.2.2.2.1,.int .i64 x31.2.2.2.2.2.2.2.2.2.2.1] 128 0 true)],[(iC,.row [.slice (some ⟨i7,of8,none⟩) pC.length zH,.slice aK pI.length zM,.slice a38 x31.2.2.2.2.2.2.2.2.2.2.2.length z39] 95 0 true)],BO,B41,B37] F32 L F nx0∧Own bb F32 a34 z35 x31.2.1 B37∧Own bs F32 a38 z39 x31.2.2.2.2.2.2.2.2.2.2.2 B41∧FLe F F32) 0 ⟨_,_,_,_,_,_,_,(hS.subR rfl),hAA,hV,(FLe.refl _)⟩ ?_ ?_)
 clear hS
 rintro x31 s ⟨a34,z35,B37,a38,z39,B41,F32,hS,h36,h40,hF33⟩ o42' h54
 unfold g_12.b0 at h54
 refine WW.seq (WW.seq ?_)
 refine WW.region (sg0 hS 5 [] [80] [.bool (decide (x31.1<((gt pC pAN).length:Int)))] [] (by kernel_rfl) fun s hS=>?_)
 refine bc h54 (fun hc55 h54=>?_) fun hc55 h54=>?_
 replace hS:=hS.kb 80 hc55 rfl
 refine sg0 hS 3 [] [81,82,83] [.pointer (some ⟨iB,0,none⟩),.int .i64 pAN,.int .i64 x31.1] [] (by kernel_rfl) fun s hS=>?_
 obtain⟨y56,hy56,h54⟩:=bind_some h54
 refine bE hS (wt hS rfl rfl rfl rfl) (vs:=[.pointer (some ⟨iB,0,none⟩),.int .i64 pAN,.int .i64 x31.1]) (ws:=[.pointer (some ⟨iB,0,none⟩),.int .i64 pAN,.int .i64 x31.1]) rfl rfl rfl rfl rfl 5 rfl (g_10.ok hy56 (hI.mono hF33) h40 h36) fun s v S' F58 hp57 hF hS=>?_
 obtain⟨a59,z60,B62,a63,z64,B66,hF67,rfl,rfl,h61,h65⟩:=hp57
 refine sg0 hS 1 [] [85] [.bool y56.1] [] (by kernel_rfl) fun s hS=>(KW.nil ?_)
 refine bc h54 (fun hc68 h54=>?_) fun hc68 h54=>?_
 refine WW.condK hS rfl hc68 (WW.skip ?_)
 refine WW.block (WW.region ?_)
 refine sg0 hS 3 [] [6] [.int .i64 (w64 (x31.1+1))] [] (by kernel_rfl) fun s hS=>(KW.nil ?_)
 obtain rfl:=Option.some.inj h54
 exact⟨_,rfl,_,_,_,_,_,_,_,(hS.subR rfl),h61,h65,(FLe.trans hF33 hF67)⟩
 refine WW.condF hS rfl hc68 (WW.exit ?_)
 refine af ?_
 obtain rfl:=Option.some.inj h54
 exact⟨_,rfl,rfl,_,_,_,_,_,_,_,(hS.subR rfl),h61,h65,(FLe.trans hF33 hF67)⟩
 replace hS:=hS.kb 80 hc55 rfl
 refine sg0 hS 5 [] [85] [.bool false] [] (by kernel_rfl) fun s hS=>(KW.nil ?_)
 refine WW.condF hS rfl rfl (WW.exit ?_)
 refine af ?_
 obtain rfl:=Option.some.inj h54
 exact⟨_,rfl,rfl,_,_,_,_,_,_,_,(hS.subR rfl),h36,h40,hF33⟩
 clear hS
 rintro e s ⟨rfl,a71,z72,B74,a75,z76,B78,F69,hS,h73,h77,hF70⟩
 refine ah ?_
 obtain⟨z79,hz79,h⟩:=bind_some h
 refine WW.seqJ (fun s=> ∃(a82:Option Addr) (z83:Nat) (B85:Seg) (a86:Option Addr) (z87:Nat) (B89:Seg) (F80:FZ),Stt EV s [(0,.pointer (some ⟨iB,0,none⟩))] [[(iB,.row [.pointer (some ⟨iC,0,none⟩),.slice a82 z79.1.length z83,vB z79.2.1,.bool o42.2.2.2.1,.int .i64 z79.2.2.1,.bool o42.2.2.2.2.2.1,.int .i64 z79.2.2.2.1,.int .i64 z79.2.2.2.2.1,.int .i64 z79.2.2.2.2.2.1,.int .i64 z79.2.2.2.2.2.2.1,.int .i64 z79.2.2.2.2.2.2.2.1] 128 0 true)],[(iC,.row [.slice (some ⟨i7,of8,none⟩) pC.length zH,.slice aK pI.length zM,.slice a86 z79.2.2.2.2.2.2.2.2.length z87] 95 0 true)],BO,B89,B85] F80 L F nx0∧Own bb F80 a82 z83 z79.1 B85∧Own bs F80 a86 z87 z79.2.2.2.2.2.2.2.2 B89∧FLe F69 F80) ?_ ?_
 refine WW.seq (WW.region ?_)
 refine sg0 hS 5 [0] [92] [.bool (!o42.2.2.2.1)] [iB] (by kernel_rfl) fun s hS=>(KW.nil ?_)
 refine bc hz79 (fun hc90 hz79=>?_) fun hc90 hz79=>?_
 refine WW.condK hS rfl hc90 (WW.seq ?_)
 refine WW.seq (WW.region ?_)
 refine sg0 hS 5 [0] [97] [.bool ((o42.2.2.1.toNat:Int) != ((0:UInt8).toNat:Int))] [iB] (by kernel_rfl) fun s hS=>(KW.nil ?_)
 refine bc hz79 (fun hc91 hz79=>?_) fun hc91 hz79=>?_
 refine WW.condK hS rfl hc91 (WW.seq ?_)
 refine WW.region ?_
 obtain⟨y92,hy92,hz79⟩:=bind_some hz79
 refine cR (g_15.ok hy92) hS 1 99 5 rfl (by kernel_rfl) fun s hS=>(KW.nil ?_)
 refine WW.region (sg hS 4 [0] [] [] [iB] [[(iB,.row [.pointer (some ⟨iC,0,none⟩),.slice a71 o42.2.1.length z72,vB 0,.bool o42.2.2.2.1,.int .i64 o42.2.2.2.2.1,.bool o42.2.2.2.2.2.1,.int .i64 y92.1,.int .i64 y92.2.1,.int .i64 y92.2.2.1,.int .i64 y92.2.2.2.1,.int .i64 y92.2.2.2.2] 128 0 true)],[(iC,.row [.slice (some ⟨i7,of8,none⟩) pC.length zH,.slice aK pI.length zM,.slice a75 o42.2.2.2.2.2.2.2.2.2.2.2.length z76] 95 0 true)],BO,B78,B74] (by kernel_rfl) fun s hS=>?_)
 refine KW.nil (WW.region ?_)
 obtain⟨y94,hy94,hz79⟩:=bind_some hz79
 refine cK (g_11.ok hy94 h77 h73) hS 1 104 5 rfl (by kernel_rfl) fun s v S' F96 hp95 hF hS=>?_
 obtain⟨a97,z98,B100,a101,z102,B104,hF105,rfl,rfl,h99,h103⟩:=hp95
 refine KW.nil ?_
 obtain rfl:=Option.some.inj hz79
 exact⟨_,_,_,_,_,_,_,(hS.subR rfl),h99,h103,hF105⟩
 refine WW.condF hS rfl hc91 (WW.skip ?_)
 refine WW.region ?_
 obtain⟨y106,hy106,hz79⟩:=bind_some hz79
 refine cK (g_11.ok hy106 h77 h73) hS 1 104 5 rfl (by kernel_rfl) fun s v S' F108 hp107 hF hS=>?_
 obtain⟨a109,z110,B112,a113,z114,B116,hF117,rfl,rfl,h111,h115⟩:=hp107
 refine KW.nil ?_
 obtain rfl:=Option.some.inj hz79
 exact⟨_,_,_,_,_,_,_,(hS.subR rfl),h111,h115,hF117⟩
 refine WW.condF hS rfl hc90 (WW.skip ?_)
 obtain rfl:=Option.some.inj hz79
 exact⟨_,_,_,_,_,_,_,(hS.subR rfl),h73,h77,(FLe.refl _)⟩
 rintro s ⟨a82,z83,B85,a86,z87,B89,F80,hS,h84,h88,hF81⟩
 refine WW.seq (WW.region ?_)
 refine sg0 hS 1 [] [7] [.int .i64 2] [] (by kernel_rfl) fun s hS=>(KW.nil ?_)
 obtain⟨z118,hz118,h⟩:=bind_some h
 refine WW.seqJ (fun s=>Stt EV s [(0,.pointer (some ⟨iB,0,none⟩)),(7,.int .i64 z118)] [[(iB,.row [.pointer (some ⟨iC,0,none⟩),.slice a82 z79.1.length z83,vB z79.2.1,.bool o42.2.2.2.1,.int .i64 z79.2.2.1,.bool o42.2.2.2.2.2.1,.int .i64 z79.2.2.2.1,.int .i64 z79.2.2.2.2.1,.int .i64 z79.2.2.2.2.2.1,.int .i64 z79.2.2.2.2.2.2.1,.int .i64 z79.2.2.2.2.2.2.2.1] 128 0 true)],[(iC,.row [.slice (some ⟨i7,of8,none⟩) pC.length zH,.slice aK pI.length zM,.slice a86 z79.2.2.2.2.2.2.2.2.length z87] 95 0 true)],BO,B89,B85] F80 L F nx0) ?_ ?_
 refine WW.seq (WW.region ?_)
 refine sg0 hS 4 [0] [108] [.bool o42.2.2.2.2.2.1] [iB] (by kernel_rfl) fun s hS=>(KW.nil ?_)
 refine bc hz118 (fun hc119 hz118=>?_) fun hc119 hz118=>?_
 refine WW.condK hS rfl hc119 (WW.region ?_)
 refine sg0 hS 1 [] [7] [.int .i64 1] [] (by kernel_rfl) fun s hS=>(KW.nil ?_)
 obtain rfl:=Option.some.inj hz118
 exact(hS.subR rfl)
 refine WW.condF hS rfl hc119 (WW.skip ?_)
 obtain rfl:=Option.some.inj hz118
 exact(hS.subR rfl)
 rintro s hS
 refine WW.regionD (i:=[[],[],[],[],[3,2,1,0],[3,2,1,0],[3,2,1,0],[3,2,1,0],[3,2,1,0],[3,2,1,0],[3,2,1,0],[10,9,8,7,6,5,4,3,2,1,0],[10,9,8,7,6,5,4,3,2,1,0],[3,2,1,0],[],[],[]]) (by kernel_rfl) ?_
 have hq:=RS.start [iB,iC]
 refine kg hS hq 3 [111] [.pointer (some ⟨iB,0,none⟩)] (by kernel_rfl) fun s rs hS hq=>(K.ld hS hq rfl (wn rfl) rfl rfl rfl (hS.at (k:=0) rfl) ig (v:= .pointer (some ⟨iC,0,none⟩)) rfl 0 rfl rfl fun s rs hS hq=>?_)
 refine kg hS hq 3 [115] [.pointer (some ⟨iB,0,none⟩)] (by kernel_rfl) fun s rs hS hq=>(K.ld hS hq rfl (wn rfl) rfl rfl rfl (hS.at (k:=0) rfl) ig (v:= .pointer (some ⟨iC,0,none⟩)) rfl 0 rfl rfl fun s rs hS hq=>?_)
 refine kg hS hq 2 [118] [.pointer (some ⟨iC,1,none⟩)] (by kernel_rfl) fun s rs hS hq=>(K.ld hS hq rfl (wn rfl) rfl rfl rfl (hS.at (k:=1) rfl) r4 (v:= .slice aK pI.length zM) rfl 1 rfl rfl fun s rs hS hq=>?_)
 refine kg hS hq 1 [120] [.int .i64 z118] (by kernel_rfl) fun s rs hS hq=>(K.nw hS hq rfl (wn rfl) rfl rfl rfl (v:=fun i=> .slice (some ⟨i,0,none⟩) 1 1) (b:= .row [.int .i64 z118] 3 1 true) (be ko tz3 km rfl [(0,.int .i64 z118)] (ar hS rfl) rfl) [0,1] (aZ rfl mm0 (aZ rfl (mm1 mm0) bv)) rfl rfl rfl fun s rs i120 hS hq=>?_)
 have hC121:au (elI .i64 3) F80 ([z118]:List Int) [.int .i64 z118]:=⟨[.int .i64 z118],[],rfl,rfl,rfl⟩
 obtain⟨hk125,h⟩:=ac h
 replace hS:=hS.pull 3
 replace hS:=hS.pull 1
 refine K.app [] hS hq rfl (wn rfl) (dd:=(elI .i64 3)) (lst:=pI) (m:=([z118]:List Int)) rfl rfl cZ rfl rfl (hN.mono (FLe.trans hF70 hF81)) (Nat.succ_pos _) hC121 hk125 [0,1] rfl rfl (aZ rfl mm0 (aZ rfl (mm1 mm0) bv)) fun s rs i122 cs123 hC124 hS hq=>(kg hS hq 2 [124] [.pointer (some ⟨iC,1,none⟩)] (by kernel_rfl) fun s rs hS hq=>?_)
 refine K.sto hS hq rfl (wn rfl) rfl rfl rfl rfl (p:=2) rfl sa rfl [.slice (some ⟨i7,of8,none⟩) pC.length zH,.slice (some ⟨i122,0,none⟩) (pI++([z118]:List Int)).length 1,.slice a86 z79.2.2.2.2.2.2.2.2.length z87] rfl [0] rfl (aZ rfl (mm1 mm0) bv) fun s rs hS hq=>(KW.nil ?_)
 replace hS:=hS.pull 4
 replace hS:=hS.pull 4
 replace hS:=hS.pull 2
 replace hS:=hS.pull 4
 replace hS:=hS.pull 4
 cases h
 exact bW hS (.inl rfl) rfl ⟨_,_,_,_,_,_,_,_,_,((FLe.trans hF70 hF81)),rfl,rfl,h84,(Own.blk0 hC124),h88⟩
noncomputable def g_14.b0 (pC:List (List UInt8)) (x1:Int×(List (UInt8×Int×Int×Int))×UInt8×Bool×Int×Bool×Int×Int×Int×Int×Int×List Int×(List (Int×List UInt8×(List (Int×Int×Int))))):Option ((Int×(List (UInt8×Int×Int×Int))×UInt8×Bool×Int×Bool×Int×Int×Int×Int×Int×List Int×(List (Int×List UInt8×(List (Int×Int×Int)))))⊕((Int×(List (UInt8×Int×Int×Int))×UInt8×Bool×Int×Bool×Int×Int×Int×Int×Int×List Int×(List (Int×List UInt8×(List (Int×Int×Int)))))⊕(Int×Int×(List (UInt8×Int×Int×Int))×UInt8×Bool×Int×Bool×Int×Int×Int×Int×Int×List Int×(List (Int×List UInt8×(List (Int×Int×Int))))))) :=
  (if(decide (x1.1<(pC.length:Int))) then Option.bind (g_12.f pC x1.2.2.2.2.2.2.2.2.2.2.2.1 x1.2.2.2.2.2.2.2.2.2.2.2.2 x1.2.1 x1.2.2.1 x1.2.2.2.1 x1.2.2.2.2.1 x1.2.2.2.2.2.1 x1.2.2.2.2.2.2.1 x1.2.2.2.2.2.2.2.1 x1.2.2.2.2.2.2.2.2.1 x1.2.2.2.2.2.2.2.2.2.1 x1.2.2.2.2.2.2.2.2.2.2.1 x1.1) fun y34=>Option.bind (g_t.f ([y34.2.2.2.2.2.1,y34.2.2.2.2.2.2.1,y34.2.2.2.2.2.2.2.1,y34.2.2.2.2.2.2.2.2.1,y34.2.2.2.2.2.2.2.2.2.1]:List Int)) fun y51=>(if(y51 != 0) then some (.inr (.inr (x1.1,y51,y34.1,y34.2.1,y34.2.2.1,y34.2.2.2.1,y34.2.2.2.2.1,y34.2.2.2.2.2.1,y34.2.2.2.2.2.2.1,y34.2.2.2.2.2.2.2.1,y34.2.2.2.2.2.2.2.2.1,y34.2.2.2.2.2.2.2.2.2.1,y34.2.2.2.2.2.2.2.2.2.2.1,y34.2.2.2.2.2.2.2.2.2.2.2))) else some (.inl ((w64 (x1.1+1)),y34.1,y34.2.1,y34.2.2.1,y34.2.2.2.1,y34.2.2.2.2.1,y34.2.2.2.2.2.1,y34.2.2.2.2.2.2.1,y34.2.2.2.2.2.2.2.1,y34.2.2.2.2.2.2.2.2.1,y34.2.2.2.2.2.2.2.2.2.1,y34.2.2.2.2.2.2.2.2.2.2.1,y34.2.2.2.2.2.2.2.2.2.2.2))) else some (.inr (.inl (x1.1,x1.2.1,x1.2.2.1,x1.2.2.2.1,x1.2.2.2.2.1,x1.2.2.2.2.2.1,x1.2.2.2.2.2.2.1,x1.2.2.2.2.2.2.2.1,x1.2.2.2.2.2.2.2.2.1,x1.2.2.2.2.2.2.2.2.2.1,x1.2.2.2.2.2.2.2.2.2.2.1,x1.2.2.2.2.2.2.2.2.2.2.2.1,x1.2.2.2.2.2.2.2.2.2.2.2.2))))
noncomputable def g_14.f (pC:List (List UInt8)) (pI:List Int) (pO:List (Int×List UInt8×(List (Int×Int×Int)))) (pW:List (UInt8×Int×Int×Int)) (pAB:UInt8) (pAC:Bool) (pAD:Int) (pAE:Bool) (pAH:Int) (pAI:Int) (pAJ:Int) (pAK:Int) (pAM:Int):Option (Int×Int×(List (UInt8×Int×Int×Int))×UInt8×Bool×Int×Bool×Int×Int×Int×Int×Int×List Int×(List (Int×List UInt8×(List (Int×Int×Int))))) :=
  Option.bind (iter (g_14.b0 pC) (0,pW,pAB,pAC,pAD,pAE,pAH,pAI,pAJ,pAK,pAM,pI,pO)) fun o16=>bj o16 fun y54=>(if y54.2.2.2.1 then some ((w64 ((pC.length:Int)-1)),39,y54.2.1,y54.2.2.1,y54.2.2.2.1,y54.2.2.2.2.1,y54.2.2.2.2.2.1,y54.2.2.2.2.2.2.1,y54.2.2.2.2.2.2.2.1,y54.2.2.2.2.2.2.2.2.1,y54.2.2.2.2.2.2.2.2.2.1,y54.2.2.2.2.2.2.2.2.2.2.1,y54.2.2.2.2.2.2.2.2.2.2.2.1,y54.2.2.2.2.2.2.2.2.2.2.2.2) else some (0,0,y54.2.1,y54.2.2.1,y54.2.2.2.1,y54.2.2.2.2.1,y54.2.2.2.2.2.1,y54.2.2.2.2.2.2.1,y54.2.2.2.2.2.2.2.1,y54.2.2.2.2.2.2.2.2.1,y54.2.2.2.2.2.2.2.2.2.1,y54.2.2.2.2.2.2.2.2.2.2.1,y54.2.2.2.2.2.2.2.2.2.2.2.1,y54.2.2.2.2.2.2.2.2.2.2.2.2))
theorem g_14.ok {iB:Nat} {iC:Nat} {aE:Option Addr} {zH:Nat} {aK:Option Addr} {zM:Nat} {BO:Seg} {aT:Option Addr} {zU:Nat} {BW:Seg} {aY:Option Addr} {zZ:Nat} {BAB:Seg} {pC:List (List UInt8)} {pI:List Int} {pO:List (Int×List UInt8×(List (Int×Int×Int)))} {pW:List (UInt8×Int×Int×Int)} {pAB:UInt8} {pAC:Bool} {pAD:Int} {pAE:Bool} {pAH:Int} {pAI:Int} {pAJ:Int} {pAK:Int} {pAM:Int} {F:FZ} {r:Int×Int×(List (UInt8×Int×Int×Int))×UInt8×Bool×Int×Bool×Int×Int×Int×Int×Int×List Int×(List (Int×List UInt8×(List (Int×Int×Int))))} (h:g_14.f pC pI pO pW pAB pAC pAD pAE pAH pAI pAJ pAK pAM=some r) (hI:Frz (elS 9) F aE zH pC) (hN:Own (elI .i64 3) F aK zM pI BO) (hV:Own bs F aT zU pO BW) (hAA:Own bb F aY zZ pW BAB) :
    Cl EV 80 [.pointer (some ⟨iB,0,none⟩)] [[(iB,.row [.pointer (some ⟨iC,0,none⟩),.slice aY pW.length zZ,vB pAB,.bool pAC,.int .i64 pAD,.bool pAE,.int .i64 pAH,.int .i64 pAI,.int .i64 pAJ,.int .i64 pAK,.int .i64 pAM] 128 0 true)],[(iC,.row [.slice aE pC.length zH,.slice aK pI.length zM,.slice aT pO.length zU] 95 0 true)],BO,BW,BAB] F (fun v S' F'=> ∃(ra1:Option Addr) (rz2:Nat) (rB4:Seg) (ra5:Option Addr) (rz6:Nat) (rB8:Seg) (ra9:Option Addr) (rz10:Nat) (rB12:Seg),FLe F F'∧v= .tuple #[.int .i64 r.1,.int .i64 r.2.1]∧S'= [[(iB,.row [.pointer (some ⟨iC,0,none⟩),.slice ra1 r.2.2.1.length rz2,vB r.2.2.2.1,.bool r.2.2.2.2.1,.int .i64 r.2.2.2.2.2.1,.bool r.2.2.2.2.2.2.1,.int .i64 r.2.2.2.2.2.2.2.1,.int .i64 r.2.2.2.2.2.2.2.2.1,.int .i64 r.2.2.2.2.2.2.2.2.2.1,.int .i64 r.2.2.2.2.2.2.2.2.2.2.1,.int .i64 r.2.2.2.2.2.2.2.2.2.2.2.1] 128 0 true)],[(iC,.row [.slice aE pC.length zH,.slice ra5 r.2.2.2.2.2.2.2.2.2.2.2.2.1.length rz6,.slice ra9 r.2.2.2.2.2.2.2.2.2.2.2.2.2.length rz10] 95 0 true)],rB8,rB12,rB4]∧Own bb F' ra1 rz2 r.2.2.1 rB4∧Own (elI .i64 3) F' ra5 rz6 r.2.2.2.2.2.2.2.2.2.2.2.2.1 rB8∧Own bs F' ra9 rz10 r.2.2.2.2.2.2.2.2.2.2.2.2.2 rB12):=by
 refine Cl.of Tryz.func80 rfl (fun _ _=>rfl) (by kernel_rfl) fun s L nx0 hS=>?_
 unfold g_14.f at h
 refine WW.seq (WW.region ?_)
 refine sg0 hS 2 [] [2,3] [.int .i64 0,.int .i64 0] [] (by kernel_rfl) fun s hS=>(KW.nil ?_)
 refine WW.seq (WW.seq ?_)
 refine WW.region (sg0 hS 9 [0,1] [13,14] [.int .i64 (pC.length:Int),.int .i64 0] [iB,iC] (by kernel_rfl) fun s hS=>?_)
 refine KW.nil (WW.block ?_)
 obtain⟨o16,ho16,h⟩:=bind_some h
 refine WW.loop (LW.iterS ho16 (fun(x1:Int×(List (UInt8×Int×Int×Int))×UInt8×Bool×Int×Bool×Int×Int×Int×Int×Int×List Int×(List (Int×List UInt8×(List (Int×Int×Int))))) s=> ∃(a4:Option Addr) (z5:Nat) (B7:Seg) (a8:Option Addr) (z9:Nat) (B11:Seg) (a12:Option Addr) (z13:Nat) (B15:Seg) (F2:FZ),Stt EV s [(0,.pointer (some ⟨iB,0,none⟩)),(2,.int .i64 0),(3,.int .i64 0),(13,.int .i64 (pC.length:Int)),(14,.int .i64 x1.1)] [[(iB,.row [.pointer (some ⟨iC,0,none⟩),.slice a4 x1.2.1.length z5,vB x1.2.2.1,.bool x1.2.2.2.1,.int .i64 x1.2.2.2.2.1,.bool x1.2.2.2.2.2.1,.int .i64 x1.2.2.2.2.2.2.1,.int .i64 x1.2.2.2.2.2.2.2.1,.int .i64 x1.2.2.2.2.2.2.2.2.1,.int .i64 x1.2.2.2.2.2.2.2.2.2.1,.int .i64 x1.2.2.2.2.2.2.2.2.2.2.1] 128 0 true)],[(iC,.row [.slice aE pC.length zH,.slice a8 x1.2.2.2.2.2.2.2.2.2.2.2.1.length z9,.slice a12 x1.2.2.2.2.2.2.2.2.2.2.2.2.length z13] 95 0 true)],B11,B15,B7] F2 L F nx0∧Own bb F2 a4 z5 x1.2.1 B7∧Own (elI .i64 3) F2 a8 z9 x1.2.2.2.2.2.2.2.2.2.2.2.1 B11∧Own bs F2 a12 z13 x1.2.2.2.2.2.2.2.2.2.2.2.2 B15∧FLe F F2) 0 (fun r=>dq EV Tryz.f80 L F nx0 (fun v S' F'=> ∃(ra1:Option Addr) (rz2:Nat) (rB4:Seg) (ra5:Option Addr) (rz6:Nat) (rB8:Seg) (ra9:Option Addr) (rz10:Nat) (rB12:Seg),FLe F F'∧v= .tuple #[.int .i64 r.1,.int .i64 r.2.1]∧S'= [[(iB,.row [.pointer (some ⟨iC,0,none⟩),.slice ra1 r.2.2.1.length rz2,vB r.2.2.2.1,.bool r.2.2.2.2.1,.int .i64 r.2.2.2.2.2.1,.bool r.2.2.2.2.2.2.1,.int .i64 r.2.2.2.2.2.2.2.1,.int .i64 r.2.2.2.2.2.2.2.2.1,.int .i64 r.2.2.2.2.2.2.2.2.2.1,.int .i64 r.2.2.2.2.2.2.2.2.2.2.1,.int .i64 r.2.2.2.2.2.2.2.2.2.2.2.1] 128 0 true)],[(iC,.row [.slice aE pC.length zH,.slice ra5 r.2.2.2.2.2.2.2.2.2.2.2.2.1.length rz6,.slice ra9 r.2.2.2.2.2.2.2.2.2.2.2.2.2.length rz10] 95 0 true)],rB8,rB12,rB4]∧Own bb F' ra1 rz2 r.2.2.1 rB4∧Own (elI .i64 3) F' ra5 rz6 r.2.2.2.2.2.2.2.2.2.2.2.2.1 rB8∧Own bs F' ra9 rz10 r.2.2.2.2.2.2.2.2.2.2.2.2.2 rB12)) ⟨_,_,_,_,_,_,_,_,_,_,(hS.subR rfl),hAA,hN,hV,(FLe.refl _)⟩ ?_ ?_)
 clear hS
 rintro x1 s ⟨a4,z5,B7,a8,z9,B11,a12,z13,B15,F2,hS,h6,h10,h14,hF3⟩ o16' h32
 unfold g_14.b0 at h32
 refine WW.seq (WW.region ?_)
 refine sg0 hS 1 [] [15] [.bool (decide (x1.1<(pC.length:Int)))] [] (by kernel_rfl) fun s hS=>(KW.nil ?_)
 refine WW.seq (bc h32 (fun hc33 h32=>?_) fun hc33 h32=>?_)
 refine WW.condK hS rfl hc33 (WW.skip ?_)
 refine WW.seq (WW.block ?_)
 refine WW.seq (WW.region ?_)
 refine sg0 hS 2 [] [4] [.int .i64 x1.1] [] (by kernel_rfl) fun s hS=>(KW.nil ?_)
 refine WW.seq (WW.region ?_)
 obtain⟨y34,hy34,h32⟩:=bind_some h32
 refine cK (g_12.ok hy34 (hI.mono hF3) h10 h14 h6) hS 2 19 5 rfl (by kernel_rfl) fun s v S' F36 hp35 hF hS=>?_
 obtain⟨a37,z38,B40,a41,z42,B44,a45,z46,B48,hF49,rfl,rfl,h39,h43,h47⟩:=hp35
 refine KW.nil (WW.seq ?_)
 refine WW.region (sg0 hS 3 [] [22] [.pointer (some ⟨iB,6,none⟩)] [] (by kernel_rfl) fun s hS=>?_)
 refine am hS (wn rfl) rfl rfl rfl (v:= .slice (some ⟨iB,6,none⟩) 5 0) (qj (hS.lk rfl) bz) fun s hS=>?_
 obtain⟨y51,hy51,h32⟩:=bind_some h32
 refine cK (Cl.borrowO (dd:=(elI .i64 24)) (lst:=([y34.2.2.2.2.2.1,y34.2.2.2.2.2.2.1,y34.2.2.2.2.2.2.2.1,y34.2.2.2.2.2.2.2.2.1,y34.2.2.2.2.2.2.2.2.2.1]:List Int)) 6 ⟨_,_,rfl,rfl,⟨_,_,rfl,rfl,⟨_,_,rfl,rfl,⟨_,_,rfl,rfl,⟨_,_,rfl,rfl,rfl⟩⟩⟩⟩⟩ (Nat.le_of_ble_eq_true rfl) (fun _ hFb hz50=>g_t.ok hy51 hz50) (by rintro _ _ _ _ ⟨rfl,_⟩; rfl)) hS 0 24 1 rfl (by kernel_rfl) fun s v S' F' hp52 hF hS=>?_
 obtain⟨rfl,_,_,_,rfl,⟨_,rfl,rfl⟩⟩:=hp52
 refine sg0 hS 1 [] [5] [.int .i64 y51] [] (by kernel_rfl) fun s hS=>(KW.nil ?_)
 refine WW.seq (WW.region ?_)
 refine sg0 hS 2 [] [26] [.bool (y51 != 0)] [] (by kernel_rfl) fun s hS=>(KW.nil ?_)
 refine bc h32 (fun hc53 h32=>?_) fun hc53 h32=>?_
 refine WW.condK hS rfl hc53 (WW.seq ?_)
 refine WW.region (sg0 hS 4 [] [2,3] [.int .i64 x1.1,.int .i64 y51] [] (by kernel_rfl) fun s hS=>?_)
 refine KW.nil (WW.ret ?_)
 cases h32
 exact⟨_,rfl,rfl,eB hS (.inr rfl) 2 3 rfl rfl rfl ⟨_,_,_,_,_,_,_,_,_,((FLe.trans hF3 hF49)),rfl,rfl,h39,h43,h47⟩⟩
 refine WW.condF hS rfl hc53 (WW.skip ?_)
 refine WW.region (sg0 hS 2 [] [14] [.int .i64 (w64 (x1.1+1))] [] (by kernel_rfl) fun s hS=>?_)
 refine KW.nil ?_
 obtain rfl:=Option.some.inj h32
 exact⟨_,rfl,_,_,_,_,_,_,_,_,_,_,(hS.subR rfl),h39,h43,h47,(FLe.trans hF3 hF49)⟩
 refine WW.condF hS rfl hc33 (WW.exit ?_)
 refine af ?_
 obtain rfl:=Option.some.inj h32
 exact⟨_,rfl,rfl,_,_,_,_,_,_,_,_,_,_,(hS.subR rfl),h6,h10,h14,hF3⟩
 clear hS
 rcases o16 with y54 | y54
 rintro e s ⟨rfl,a57,z58,B60,a61,z62,B64,a65,z66,B68,F55,hS,h59,h63,h67,hF56⟩
 replace h:=aB h
 refine ah (WW.seq ?_)
 refine WW.seq (WW.region ?_)
 refine sg0 hS 4 [0] [33] [.bool y54.2.2.2.1] [iB] (by kernel_rfl) fun s hS=>(KW.nil ?_)
 refine bc h (fun hc69 h=>?_) fun hc69 h=>?_
 refine WW.condK hS rfl hc69 (WW.seq ?_)
 refine WW.region (sg0 hS 11 [0,1] [2,3] [.int .i64 (w64 ((pC.length:Int)-1)),.int .i64 39] [iB,iC] (by kernel_rfl) fun s hS=>?_)
 refine KW.nil (WW.ret ?_)
 cases h
 exact eB hS (.inr rfl) 2 3 rfl rfl rfl ⟨_,_,_,_,_,_,_,_,_,(hF56),rfl,rfl,h59,h63,h67⟩
 refine WW.condF hS rfl hc69 (WW.skip ?_)
 refine WW.seq (WW.region ?_)
 refine sg0 hS 2 [] [2,3] [.int .i64 0,.int .i64 0] [] (by kernel_rfl) fun s hS=>(KW.nil ?_)
 refine WW.ret ?_
 cases h
 exact eB hS (.inr rfl) 2 3 rfl rfl rfl ⟨_,_,_,_,_,_,_,_,_,(hF56),rfl,rfl,h59,h63,h67⟩
 rintro e s ⟨rfl,hfin⟩
 replace h:=aj h
 obtain rfl:=Option.some.inj h
 exact hfin
noncomputable def g_s.f (pA:List UInt8) (pB:Int):Option (UInt8) :=
  (if(decide (pB>(pA.length:Int))) then some 32 else(if 0≤(w64 (pB-1))∧(w64 (pB-1))<(pA.length:Int) then some (gt pA (w64 (pB-1))) else none))
theorem g_s.ok {pA:List UInt8} {pB:Int} {F:FZ} {r:UInt8} (h:g_s.f pA pB=some r) :
    Cl EV 121 [aa pA,.int .i64 pB] [] F (fun v S' F'=>F=F'∧v=vB r∧S'= []):=by
 refine Cl.of Tryz.func121 rfl (fun _ _=>rfl) (by kernel_rfl) fun s L nx0 hS=>?_
 unfold g_s.f at h
 refine WW.seq (WW.region ?_)
 refine sg0 hS 1 [] [4] [vB 0] [] (by kernel_rfl) fun s hS=>(KW.nil ?_)
 refine WW.seq (WW.seq ?_)
 refine WW.region (sg0 hS 4 [] [8] [.bool (decide (pB>(pA.length:Int)))] [] (by kernel_rfl) fun s hS=>?_)
 refine KW.nil (bc h (fun hc1 h=>?_) fun hc1 h=>?_)
 refine WW.condK hS rfl hc1 (WW.seq ?_)
 refine WW.region (sg0 hS 1 [] [4] [vB 32] [] (by kernel_rfl) fun s hS=>?_)
 refine KW.nil (WW.ret ?_)
 cases h
 exact aS hS (.inr rfl) 4 rfl rfl ⟨rfl,rfl,rfl⟩
 refine WW.condF hS rfl hc1 (WW.skip ?_)
 refine WW.seq (WW.region ?_)
 refine sg0 hS 3 [] [9,11] [aa pA,.int .i64 (w64 (pB-1))] [] (by kernel_rfl) fun s hS=>?_
 obtain⟨hk2,h⟩:=ac h
 refine am hS (wn rfl) rfl rfl rfl (v:=vB (gt pA (w64 (pB-1)))) (aA tu9 (hS.lk rfl) (hS.lk rfl) hk2) fun s hS=>(sg0 hS 1 [] [4] [vB (gt pA (w64 (pB-1)))] [] (by kernel_rfl) fun s hS=>?_)
 refine KW.nil (WW.ret ?_)
 cases h
 exact aS hS (.inr rfl) 4 rfl rfl ⟨rfl,rfl,rfl⟩
noncomputable def g_17.f (pA:List UInt8):Option (Bool) :=
  Option.bind (g_s.f pA 1) fun y1=>Option.bind (g_1n.f ([67,99,42,33]) y1) fun y3=>Option.bind ((if(decide (y3≥0)) then some true else(if 0≤(0:Int)∧(0:Int)≤(if(72:Int)<(pA.length:Int) then 72 else(pA.length:Int))∧(if(72:Int)<(pA.length:Int) then 72 else(pA.length:Int))≤(pA.length:Int) then Option.bind (g_16.f (mid pA (0:Int) (if(72:Int)<(pA.length:Int) then 72 else(pA.length:Int)))) fun y8=>some y8 else none))) fun z5=>some z5
theorem g_17.ok {pA:List UInt8} {F:FZ} {r:Bool} (h:g_17.f pA=some r) :
    Cl EV 120 [aa pA] [] F (fun v S' F'=>F=F'∧v= .bool r∧S'= []):=by
 refine Cl.of Tryz.func120 rfl (fun _ _=>rfl) (by kernel_rfl) fun s L nx0 hS=>?_
 unfold g_17.f at h
 refine WW.seq (WW.region ?_)
 refine sg0 hS 1 [] [2] [.bool false] [] (by kernel_rfl) fun s hS=>(KW.nil ?_)
 refine WW.seq (WW.region ?_)
 obtain⟨y1,hy1,h⟩:=bind_some h
 refine cR (g_s.ok hy1) hS 1 4 0 rfl (by kernel_rfl) fun s hS=>?_
 obtain⟨y3,hy3,h⟩:=bind_some h
 refine cR (g_1n.ok hy3) hS 0 5 0 rfl (by kernel_rfl) fun s hS=>(sg0 hS 2 [] [7] [.bool (decide (y3≥0))] [] (by kernel_rfl) fun s hS=>?_)
 obtain⟨z5,hz5,h⟩:=bind_some h
 refine aH 7 (fun s=>Stt EV s [(14,.bool z5),(2,.bool false)] [] F L F nx0) ?_ fun s hS=>?_
 refine bc hz5 (fun hc6 hz5=>?_) fun hc6 hz5=>?_
 replace hS:=hS.kb 7 hc6 rfl
 refine sg0 hS 7 [] [14] [.bool true] [] (by kernel_rfl) fun s hS=>(KW.nil ?_)
 obtain rfl:=Option.some.inj hz5
 exact hS.subR rfl
 replace hS:=hS.kb 7 hc6 rfl
 refine sg0 hS 3 [] [8,10] [aa pA,.int .i64 (pA.length:Int)] [] (by kernel_rfl) fun s hS=>(am hS (wt hS rfl rfl rfl rfl) rfl rfl rfl (v:= .int .i64 (if(72:Int)<(pA.length:Int) then 72 else(pA.length:Int))) (aop_min rfl (hS.lk rfl) (hS.lk rfl)) fun s hS=>?_)
 obtain⟨hk7,hz5⟩:=ac hz5
 refine am hS (wt hS rfl rfl rfl rfl) rfl rfl rfl (v:=aa (mid pA (0:Int) (if(72:Int)<(pA.length:Int) then 72 else(pA.length:Int)))) (cu tu9 (hS.lk rfl) (i:=(0:Int)) (j:=(if(72:Int)<(pA.length:Int) then 72 else(pA.length:Int))) rfl (bu hS rfl) hk7) fun s hS=>?_
 obtain⟨y8,hy8,hz5⟩:=bind_some hz5
 refine bE hS (wt hS rfl rfl rfl rfl) (vs:=[aa (mid pA (0:Int) (if(72:Int)<(pA.length:Int) then 72 else(pA.length:Int)))]) (ws:=[aa (mid pA (0:Int) (if(72:Int)<(pA.length:Int) then 72 else(pA.length:Int)))]) rfl rfl rfl rfl rfl 0 rfl (g_16.ok hy8) fun s v S' F' hp9 hF hS=>?_
 obtain⟨rfl,rfl,rfl⟩:=hp9
 refine sg0 hS 1 [] [14] [.bool y8] [] (by kernel_rfl) fun s hS=>(KW.nil ?_)
 obtain rfl:=Option.some.inj hz5
 exact hS.subR rfl
 refine sg0 hS 1 [] [2] [.bool z5] [] (by kernel_rfl) fun s hS=>(KW.nil ?_)
 refine WW.ret ?_
 cases h
 exact aS hS (.inr rfl) 2 rfl rfl ⟨rfl,rfl,rfl⟩
noncomputable def g_x.b0 (pC:List (List UInt8)) (pAH:Int) (x1:Int×(List (UInt8×Int×Int×Int))):Option ((Int×(List (UInt8×Int×Int×Int)))⊕(Int×(List (UInt8×Int×Int×Int)))) :=
  (if(decide (x1.1≤72)) then(if 0≤pAH∧pAH<(pC.length:Int) then Option.bind (g_s.f (gt pC pAH) x1.1) fun y23=>(if x1.2.length+([(y23,0,pAH,x1.1)]:List (UInt8×Int×Int×Int)).length<1000000000 then some (.inl ((w64 (x1.1+1)),(x1.2++([(y23,0,pAH,x1.1)]:List (UInt8×Int×Int×Int))))) else none) else none) else some (.inr (x1.1,x1.2)))
noncomputable def g_x.f (pC:List (List UInt8)) (pAA:List (UInt8×Int×Int×Int)) (pAH:Int):Option ((List (UInt8×Int×Int×Int))) :=
  Option.bind (iter (g_x.b0 pC pAH) (7,pAA)) fun o6=>some o6.2
theorem g_x.ok {iB:Nat} {iC:Nat} {aE:Option Addr} {zH:Nat} {aK:Option Addr} {zM:Nat} {BO:Seg} {aT:Option Addr} {zU:Nat} {BW:Seg} {aAC:Option Addr} {zAD:Nat} {BAH:Seg} {pC:List (List UInt8)} {pI:List Int} {pO:List (Int×List UInt8×(List (Int×Int×Int)))} {pW:Bool} {pX:Int} {pY:Int} {pZ:Int} {pAA:List (UInt8×Int×Int×Int)} {pAH:Int} {F:FZ} {r:(List (UInt8×Int×Int×Int))} (h:g_x.f pC pAA pAH=some r) (hI:Frz (elS 9) F aE zH pC) (hAE:Own bb F aAC zAD pAA BAH) :
    Cl EV 125 [.pointer (some ⟨iB,0,none⟩),.int .i64 pAH] [[(iB,.row [.pointer (some ⟨iC,0,none⟩),.bool pW,.int .i64 pX,.int .i64 pY,.int .i64 pZ,.slice aAC pAA.length zAD] 132 0 true)],[(iC,.row [.slice aE pC.length zH,.slice aK pI.length zM,.slice aT pO.length zU] 95 0 true)],BO,BW,BAH] F (fun v S' F'=> ∃(ra1:Option Addr) (rz2:Nat) (rB4:Seg),F=F'∧v= .tuple #[]∧S'= [[(iB,.row [.pointer (some ⟨iC,0,none⟩),.bool pW,.int .i64 pX,.int .i64 pY,.int .i64 pZ,.slice ra1 r.length rz2] 132 0 true)],[(iC,.row [.slice aE pC.length zH,.slice aK pI.length zM,.slice aT pO.length zU] 95 0 true)],BO,BW,rB4]∧Own bb F' ra1 rz2 r rB4):=by
 refine Cl.of Tryz.func125 rfl (fun _ _=>rfl) (by kernel_rfl) fun s L nx0 hS=>?_
 unfold g_x.f at h
 refine WW.seq (WW.region ?_)
 refine sg0 hS 1 [] [4] [.int .i64 7] [] (by kernel_rfl) fun s hS=>(KW.nil ?_)
 refine WW.block ?_
 obtain⟨o6,ho6,h⟩:=bind_some h
 refine WW.loop (LW.iterE ho6 (fun(x1:Int×(List (UInt8×Int×Int×Int))) s=> ∃(a2:Option Addr) (z3:Nat) (B5:Seg),Stt EV s [(0,.pointer (some ⟨iB,0,none⟩)),(1,.int .i64 pAH),(4,.int .i64 x1.1)] [[(iB,.row [.pointer (some ⟨iC,0,none⟩),.bool pW,.int .i64 pX,.int .i64 pY,.int .i64 pZ,.slice a2 x1.2.length z3] 132 0 true)],[(iC,.row [.slice aE pC.length zH,.slice aK pI.length zM,.slice aT pO.length zU] 95 0 true)],BO,BW,B5] F L F nx0∧Own bb F a2 z3 x1.2 B5) 0 ⟨_,_,_,(hS.subR rfl),hAE⟩ ?_ ?_)
 clear hS
 rintro x1 s ⟨a2,z3,B5,hS,h4⟩ o6' h12
 unfold g_x.b0 at h12
 refine WW.seq (WW.seq ?_)
 refine WW.region (sg0 hS 2 [] [6] [.bool (decide (x1.1≤72))] [] (by kernel_rfl) fun s hS=>?_)
 refine KW.nil (bc h12 (fun hc13 h12=>?_) fun hc13 h12=>?_)
 refine WW.condK hS rfl hc13 (WW.skip ?_)
 refine WW.seq (WW.block ?_)
 refine WW.regionD (i:=[[],[0],[0],[0],[0],[4,3,2,1,0],[4,3,2,1,0],[4,3,2,1,0],[4,3,2,1,0],[4,3,2,1,0],[4,3,2,1,0],[4,3,2,1,0],[11,10,9,8,7,6,5,4,3,2,1,0],[4,3,2,1,0],[4,3,2,1,0],[14,13,12,11,10,9,8,7,6,5,4,3,2,1,0],[4,3,2,1,0],[16,15,14,13,12,11,10,9,8,7,6,5,4,3,2,1,0],[17,16,15,14,13,12,11,10,9,8,7,6,5,4,3,2,1,0],[16,15,14,13,12,11,10,9,8,7,6,5,4,3,2,1,0],[4,3,2,1,0],[4,3,2,1,0],[0],[],[],[]]) (by kernel_rfl) ?_
 have hq:=RS.start [iB,iC]
 refine kg hS hq 4 [9,12] [.pointer (some ⟨iB,0,none⟩),.pointer (some ⟨iB,5,none⟩)] (by kernel_rfl) fun s rs hS hq=>(K.ld hS hq rfl (wn rfl) rfl rfl rfl (hS.at (k:=0) rfl) tg125 (v:= .slice a2 x1.2.length z3) rfl 0 rfl rfl fun s rs hS hq=>?_)
 refine kg hS hq 3 [16] [.pointer (some ⟨iB,0,none⟩)] (by kernel_rfl) fun s rs hS hq=>(K.ld hS hq rfl (wn rfl) rfl rfl rfl (hS.at (k:=0) rfl) ig (v:= .pointer (some ⟨iC,0,none⟩)) rfl 0 rfl rfl fun s rs hS hq=>?_)
 refine kg hS hq 2 [19] [.pointer (some ⟨iC,0,none⟩)] (by kernel_rfl) fun s rs hS hq=>(K.ld hS hq rfl (wn rfl) rfl rfl rfl (hS.at (k:=1) rfl) nV (v:= .slice aE pC.length zH) rfl 1 rfl rfl fun s rs hS hq=>?_)
 refine kg hS hq 1 [21] [.int .i64 pAH] (by kernel_rfl) fun s rs hS hq=>?_
 obtain⟨hk14,h12⟩:=ac h12
 obtain⟨i20,of21,rfl⟩:=Frz.addr hI (by omega)
 obtain⟨_,_,_,_,c15,hF22,hR16,hN17,hN18,hT19⟩:=Frz.at hI hk14 (m:=1) rfl
 obtain rfl:=hR16
 refine K.pu hS hq rfl (wn rfl) rfl rfl rfl (v:= .pointer (some ⟨i20,of21+(pAH).toNat*1,none⟩)) (aW (hS.lk rfl) (hS.lk rfl) ie hk14) fun s rs hS hq=>?_
 replace hq:=hq.more i20 rfl rfl rfl
 refine K.ld hS hq rfl (wn rfl) rfl rfl rfl (hS.fat hF22) tg9 (v:=aa (gt pC pAH)) hN17 2 rfl rfl fun s rs hS hq=>(kg hS hq 1 [24] [.int .i64 x1.1] (by kernel_rfl) fun s rs hS hq=>?_)
 obtain⟨y23,hy23,h12⟩:=bind_some h12
 refine K.cl hS hq rfl (wn rfl) (vs:=[aa (gt pC pAH),.int .i64 x1.1]) (ws:=[aa (gt pC pAH),.int .i64 x1.1]) rfl rfl rfl rfl rfl 0 rfl (g_s.ok hy23)  [0,1,2] rfl rfl (aZ rfl mm0 (aZ rfl (mm1 mm0) (fv rfl hF22 bv))) fun s rs v S' F' hp24 hF hS hq=>?_
 obtain⟨rfl,rfl,rfl⟩:=hp24
 refine kg hS hq 2 [26,27] [.int .i64 pAH,.int .i64 x1.1] (by kernel_rfl) fun s rs hS hq=>(K.pu hS hq rfl (wn rfl) rfl rfl rfl (v:= .agg #[.int .i64 0,.int .i64 pAH,.int .i64 x1.1]) (bp jR tp58 [(1,.int .i64 pAH),(2,.int .i64 x1.1)] (ar hS rfl) (cs:=[.int .i64 0,.int .i64 pAH,.int .i64 x1.1]) rfl) fun s rs hS hq=>?_)
 refine K.pu hS hq rfl (wn rfl) rfl rfl rfl (v:= .agg #[vB y23,.int .i64 0,.int .i64 pAH,.int .i64 x1.1]) (bp f9 tp210 [(0,vB y23),(1,.agg #[.int .i64 0,.int .i64 pAH,.int .i64 x1.1])] (ar hS rfl) (cs:=[vB y23,.int .i64 0,.int .i64 pAH,.int .i64 x1.1]) rfl) fun s rs hS hq=>(K.nw hS hq rfl (wn rfl) rfl rfl rfl (v:=fun i=> .slice (some ⟨i,0,none⟩) 1 4) (b:= .row [vB y23,.int .i64 0,.int .i64 pAH,.int .i64 x1.1] 210 4 true) (be tu125 mN f9 rfl [(0,.agg #[vB y23,.int .i64 0,.int .i64 pAH,.int .i64 x1.1])] (ar hS rfl) rfl) [0,1,2] (aZ rfl mm0 (aZ rfl (mm1 mm0) (fv rfl hF22 bv))) rfl rfl rfl fun s rs i25 hS hq=>?_)
 have hC26:au bb F ([(y23,0,pAH,x1.1)]:List (UInt8×Int×Int×Int)) [vB y23,.int .i64 0,.int .i64 pAH,.int .i64 x1.1]:=⟨[vB y23,.int .i64 0,.int .i64 pAH,.int .i64 x1.1],[],rfl,rfl,rfl⟩
 obtain⟨hk30,h12⟩:=ac h12
 replace hS:=hS.pull 5
 replace hS:=hS.pull 1
 refine K.app [] hS hq rfl (wn rfl) (dd:=bb) (lst:=x1.2) (m:=([(y23,0,pAH,x1.1)]:List (UInt8×Int×Int×Int))) rfl rfl kV rfl rfl h4 (Nat.succ_pos _) hC26 hk30 [0,1,2] rfl rfl (aZ rfl mm0 (aZ rfl (mm1 mm0) (fv rfl hF22 bv))) fun s rs i27 cs28 hC29 hS hq=>(kg hS hq 2 [33] [.pointer (some ⟨iB,5,none⟩)] (by kernel_rfl) fun s rs hS hq=>?_)
 refine K.sto hS hq rfl (wn rfl) rfl rfl rfl rfl (p:=1) rfl tz125 rfl [.pointer (some ⟨iC,0,none⟩),.bool pW,.int .i64 pX,.int .i64 pY,.int .i64 pZ,.slice (some ⟨i27,0,none⟩) (x1.2++([(y23,0,pAH,x1.1)]:List (UInt8×Int×Int×Int))).length 4] rfl [1,2] rfl (aZ rfl (mm1 mm0) (fv rfl hF22 bv)) fun s rs hS hq=>(KW.nil ?_)
 refine WW.region (sg0 hS 3 [] [4] [.int .i64 (w64 (x1.1+1))] [] (by kernel_rfl) fun s hS=>?_)
 refine KW.nil ?_
 replace hS:=hS.pull 4
 replace hS:=hS.pull 4
 replace hS:=hS.pull 4
 replace hS:=hS.pull 4
 obtain rfl:=Option.some.inj h12
 exact⟨_,rfl,_,_,_,(hS.subR rfl),(Own.blk0 hC29)⟩
 refine WW.condF hS rfl hc13 (WW.exit ?_)
 refine af ?_
 obtain rfl:=Option.some.inj h12
 exact⟨_,rfl,rfl,_,_,_,(hS.subR rfl),h4⟩
 clear hS
 rintro e s ⟨rfl,a31,z32,B34,hS,h33⟩
 refine ah ?_
 cases h
 exact bW hS (.inl rfl) rfl ⟨_,_,_,rfl,rfl,rfl,h33⟩
noncomputable def g_v.f (pC:List (List UInt8)) (pI:List Int) (pW:Bool) (pY:Int) (pAA:List (UInt8×Int×Int×Int)) (pAH:Int):Option (Int×Int×(List (UInt8×Int×Int×Int))×List Int) :=
  (if 0<pC.length then Option.bind (g_1k.f pW 9) fun y5=>(if 0≤pAH∧pAH<(pC.length:Int) then(if 0≤(0:Int)∧(0:Int)≤5∧5≤((gt pC pAH).length:Int) then Option.bind (g_16.f (mid (gt pC pAH) (0:Int) 5)) fun y15=>Option.bind (g_1k.f y15 3) fun y17=>Option.bind (g_1k.f (decide ((w64 (pY+1))≤19)) 8) fun y19=>Option.bind (g_t.f ([y5,y17,y19]:List Int)) fun y26=>(if pI.length+([2]:List Int).length<1000000000 then Option.bind (g_x.f pC pAA pAH) fun y34=>some (y26,(w64 (pY+1)),y34,(pI++([2]:List Int))) else none) else none) else none) else none)
theorem g_v.ok {iB:Nat} {iC:Nat} {aE:Option Addr} {zH:Nat} {aK:Option Addr} {zM:Nat} {BO:Seg} {aT:Option Addr} {zU:Nat} {BW:Seg} {aAC:Option Addr} {zAD:Nat} {BAH:Seg} {pC:List (List UInt8)} {pI:List Int} {pO:List (Int×List UInt8×(List (Int×Int×Int)))} {pW:Bool} {pX:Int} {pY:Int} {pZ:Int} {pAA:List (UInt8×Int×Int×Int)} {pAH:Int} {F:FZ} {r:Int×Int×(List (UInt8×Int×Int×Int))×List Int} (h:g_v.f pC pI pW pY pAA pAH=some r) (hI:Frz (elS 9) F aE zH pC) (hN:Own (elI .i64 3) F aK zM pI BO) (hAE:Own bb F aAC zAD pAA BAH) :
    Cl EV 122 [.pointer (some ⟨iB,0,none⟩),.int .i64 pAH] [[(iB,.row [.pointer (some ⟨iC,0,none⟩),.bool pW,.int .i64 pX,.int .i64 pY,.int .i64 pZ,.slice aAC pAA.length zAD] 132 0 true)],[(iC,.row [.slice aE pC.length zH,.slice aK pI.length zM,.slice aT pO.length zU] 95 0 true)],BO,BW,BAH] F (fun v S' F'=> ∃(ra1:Option Addr) (rz2:Nat) (rB4:Seg) (ra5:Option Addr) (rz6:Nat) (rB8:Seg),FLe F F'∧v= .int .i64 r.1∧S'= [[(iB,.row [.pointer (some ⟨iC,0,none⟩),.bool pW,.int .i64 pX,.int .i64 r.2.1,.int .i64 pZ,.slice ra1 r.2.2.1.length rz2] 132 0 true)],[(iC,.row [.slice aE pC.length zH,.slice ra5 r.2.2.2.length rz6,.slice aT pO.length zU] 95 0 true)],rB8,BW,rB4]∧Own bb F' ra1 rz2 r.2.2.1 rB4∧Own (elI .i64 3) F' ra5 rz6 r.2.2.2 rB8):=by
 refine Cl.of Tryz.func122 rfl (fun _ _=>rfl) (by kernel_rfl) fun s L nx0 hS=>?_
 unfold g_v.f at h
 refine WW.seq (WW.region ?_)
 refine sg0 hS 1 [] [4] [.int .i64 0] [] (by kernel_rfl) fun s hS=>(KW.nil ?_)
 refine WW.seq (WW.region ?_)
 refine sg hS 8 [0,0] [] [] [iB,iB] [[(iB,.row [.pointer (some ⟨iC,0,none⟩),.bool pW,.int .i64 pX,.int .i64 (w64 (pY+1)),.int .i64 pZ,.slice aAC pAA.length zAD] 132 0 true)],[(iC,.row [.slice aE pC.length zH,.slice aK pI.length zM,.slice aT pO.length zU] 95 0 true)],BO,BW,BAH] (by kernel_rfl) fun s hS=>(KW.nil ?_)
 refine WW.seq ?_
 obtain⟨hk1,h⟩:=ac h
 obtain⟨i2,of3,rfl⟩:=Frz.addr hI (by omega)
 obtain⟨_,_,_,_,_,hF4,_⟩:=Frz.at hI (j:=0) ⟨by omega,by omega⟩ (m:=1) rfl
 refine WW.regionD (i:=[[],[],[],[],[],[4,3,2,1,0],[4,3,2,1,0],[4,3,2,1,0],[4,3,2,1,0],[4,3,2,1,0],[4,3,2,1,0],[4,3,2,1,0],[11,10,9,8,7,6,5,4,3,2,1,0],[4,3,2,1,0],[4,3,2,1,0],[4,3,2,1,0],[],[],[17,16,15,14,13,12,11,10,9,8,7,6,5,4,3,2,1,0],[17,16,15,14,13,12,11,10,9,8,7,6,5,4,3,2,1,0],[17,16,15,14,13,12,11,10,9,8,7,6,5,4,3,2,1,0],[17,16,15,14,13,12,11,10,9,8,7,6,5,4,3,2,1,0],[17,16,15,14,13,12,11,10,9,8,7,6,5,4,3,2,1,0],[],[],[],[]]) (by kernel_rfl) ?_
 have hq:=RS.start [iB,iC]
 replace hq:=hq.more i2 rfl rfl rfl
 refine kg hS hq 3 [15] [.pointer (some ⟨iB,1,none⟩)] (by kernel_rfl) fun s rs hS hq=>(K.ld hS hq rfl (wn rfl) rfl rfl rfl (hS.at (k:=0) rfl) tg4 (v:= .bool pW) rfl 0 rfl rfl fun s rs hS hq=>?_)
 obtain⟨y5,hy5,h⟩:=bind_some h
 refine K.cl hS hq rfl (wn rfl) (vs:=[.bool pW,.int .i64 9]) (ws:=[.bool pW,.int .i64 9]) rfl rfl rfl rfl rfl 0 rfl (g_1k.ok hy5)  [0,1,2] rfl rfl (aZ rfl mm0 (aZ rfl (mm1 mm0) (fv rfl hF4 bv))) fun s rs v S' F' hp6 hF hS hq=>?_
 obtain⟨rfl,rfl,rfl⟩:=hp6
 refine kg hS hq 3 [20] [.pointer (some ⟨iB,0,none⟩)] (by kernel_rfl) fun s rs hS hq=>(K.ld hS hq rfl (wn rfl) rfl rfl rfl (hS.at (k:=0) rfl) ig (v:= .pointer (some ⟨iC,0,none⟩)) rfl 0 rfl rfl fun s rs hS hq=>?_)
 refine kg hS hq 2 [23] [.pointer (some ⟨iC,0,none⟩)] (by kernel_rfl) fun s rs hS hq=>(K.ld hS hq rfl (wn rfl) rfl rfl rfl (hS.at (k:=1) rfl) nV (v:= .slice (some ⟨i2,of3,none⟩) pC.length zH) rfl 1 rfl rfl fun s rs hS hq=>?_)
 refine kg hS hq 1 [25] [.int .i64 pAH] (by kernel_rfl) fun s rs hS hq=>?_
 obtain⟨hk7,h⟩:=ac h
 obtain⟨_,_,_,_,c8,hF13,hR9,hN10,hN11,hT12⟩:=Frz.at hI hk7 (m:=1) rfl
 obtain rfl:=hR9
 refine K.pu hS hq rfl (wn rfl) rfl rfl rfl (v:= .pointer (some ⟨i2,of3+(pAH).toNat*1,none⟩)) (aW (hS.lk rfl) (hS.lk rfl) ie hk7) fun s rs hS hq=>(K.ld hS hq rfl (wn rfl) rfl rfl rfl (hS.fat hF13) tg9 (v:=aa (gt pC pAH)) hN10 2 rfl rfl fun s rs hS hq=>?_)
 obtain⟨hk14,h⟩:=ac h
 refine K.pu hS hq rfl (wn rfl) rfl rfl rfl (v:=aa (mid (gt pC pAH) (0:Int) 5)) (cu tu9 (hS.lk rfl) (i:=(0:Int)) (j:=5) rfl (bu hS rfl) hk14) fun s rs hS hq=>?_
 obtain⟨y15,hy15,h⟩:=bind_some h
 refine K.cl hS hq rfl (wn rfl) (vs:=[aa (mid (gt pC pAH) (0:Int) 5)]) (ws:=[aa (mid (gt pC pAH) (0:Int) 5)]) rfl rfl rfl rfl rfl 0 rfl (g_16.ok hy15)  [0,1,2] rfl rfl (aZ rfl mm0 (aZ rfl (mm1 mm0) (fv rfl hF13 bv))) fun s rs v S' F' hp16 hF hS hq=>?_
 obtain⟨rfl,rfl,rfl⟩:=hp16
 obtain⟨y17,hy17,h⟩:=bind_some h
 refine K.cl hS hq rfl (wn rfl) (vs:=[.bool y15,.int .i64 3]) (ws:=[.bool y15,.int .i64 3]) rfl rfl rfl rfl rfl 0 rfl (g_1k.ok hy17)  [0,1,2] rfl rfl (aZ rfl mm0 (aZ rfl (mm1 mm0) (fv rfl hF13 bv))) fun s rs v S' F' hp18 hF hS hq=>?_
 obtain⟨rfl,rfl,rfl⟩:=hp18
 refine kg hS hq 3 [33] [.pointer (some ⟨iB,3,none⟩)] (by kernel_rfl) fun s rs hS hq=>(K.ld hS hq rfl (wn rfl) rfl rfl rfl (hS.at (k:=0) rfl) tg3 (v:= .int .i64 (w64 (pY+1))) rfl 0 rfl rfl fun s rs hS hq=>?_)
 refine kg hS hq 1 [35] [.bool (decide ((w64 (pY+1))≤19))] (by kernel_rfl) fun s rs hS hq=>?_
 obtain⟨y19,hy19,h⟩:=bind_some h
 refine K.cl hS hq rfl (wn rfl) (vs:=[.bool (decide ((w64 (pY+1))≤19)),.int .i64 8]) (ws:=[.bool (decide ((w64 (pY+1))≤19)),.int .i64 8]) rfl rfl rfl rfl rfl 0 rfl (g_1k.ok hy19)  [0,1,2] rfl rfl (aZ rfl mm0 (aZ rfl (mm1 mm0) (fv rfl hF13 bv))) fun s rs v S' F' hp20 hF hS hq=>?_
 obtain⟨rfl,rfl,rfl⟩:=hp20
 refine K.nw hS hq rfl (wn rfl) rfl rfl rfl (v:=fun i=> .slice (some ⟨i,0,none⟩) 3 1) (b:= .row [.int .i64 y5,.int .i64 y17,.int .i64 y19] 24 1 true) (be r8 tz24 rV rfl [(0,.int .i64 y5),(1,.int .i64 y17),(2,.int .i64 y19)] (ar hS rfl) rfl) [0,1,2] (aZ rfl mm0 (aZ rfl (mm1 mm0) (fv rfl hF13 bv))) rfl rfl rfl fun s rs i21 hS hq=>?_
 have hC22:au (elI .i64 24) F ([y5,y17,y19]:List Int) [.int .i64 y5,.int .i64 y17,.int .i64 y19]:=⟨[.int .i64 y5],[.int .i64 y17,.int .i64 y19],rfl,rfl,⟨[.int .i64 y17],[.int .i64 y19],rfl,rfl,⟨[.int .i64 y19],[],rfl,rfl,rfl⟩⟩⟩
 obtain⟨F23,hF24,hS,hz25⟩:=hS.frzO (Own.blk0 hC22)
 obtain⟨y26,hy26,h⟩:=bind_some h
 refine K.cl hS hq rfl (wn rfl) (vs:=[.slice (some ⟨i21,0,none⟩) ([y5,y17,y19]:List Int).length 1]) (ws:=[.slice (some ⟨i21,0,none⟩) ([y5,y17,y19]:List Int).length 1]) rfl rfl rfl rfl rfl 0 rfl (g_t.ok hy26 hz25)  [0,1,2] rfl rfl (aZ rfl mm0 (aZ rfl (mm1 mm0) (fv rfl (hF24 _ _ hF13) bv))) fun s rs v S' F' hp27 hF hS hq=>?_
 obtain⟨rfl,rfl,rfl⟩:=hp27
 refine kg hS hq 1 [5] [.int .i64 y26] (by kernel_rfl) fun s rs hS hq=>(KW.nil ?_)
 refine WW.seq (WW.regionD (i:=[[],[],[],[],[3,2,1,0],[3,2,1,0],[3,2,1,0],[3,2,1,0],[3,2,1,0],[3,2,1,0],[3,2,1,0],[10,9,8,7,6,5,4,3,2,1,0],[3,2,1,0],[],[],[]]) (by kernel_rfl) ?_)
 have hq:=RS.start [iB,iC]
 refine kg hS hq 3 [41] [.pointer (some ⟨iB,0,none⟩)] (by kernel_rfl) fun s rs hS hq=>(K.ld hS hq rfl (wn rfl) rfl rfl rfl (hS.at (k:=0) rfl) ig (v:= .pointer (some ⟨iC,0,none⟩)) rfl 0 rfl rfl fun s rs hS hq=>?_)
 refine kg hS hq 3 [45] [.pointer (some ⟨iB,0,none⟩)] (by kernel_rfl) fun s rs hS hq=>(K.ld hS hq rfl (wn rfl) rfl rfl rfl (hS.at (k:=0) rfl) ig (v:= .pointer (some ⟨iC,0,none⟩)) rfl 0 rfl rfl fun s rs hS hq=>?_)
 refine kg hS hq 2 [48] [.pointer (some ⟨iC,1,none⟩)] (by kernel_rfl) fun s rs hS hq=>(K.ld hS hq rfl (wn rfl) rfl rfl rfl (hS.at (k:=1) rfl) r4 (v:= .slice aK pI.length zM) rfl 1 rfl rfl fun s rs hS hq=>?_)
 refine K.nw hS hq rfl (wn rfl) rfl rfl rfl (v:=fun i=> .slice (some ⟨i,0,none⟩) 1 1) (b:= .row [.int .i64 2] 3 1 true) (be ko tz3 km rfl [(0,.int .i64 2)] (ar hS rfl) rfl) [0,1] (aZ rfl mm0 (aZ rfl (mm1 mm0) bv)) rfl rfl rfl fun s rs i28 hS hq=>?_
 have hC29:au (elI .i64 3) F23 ([2]:List Int) [.int .i64 2]:=⟨[.int .i64 2],[],rfl,rfl,rfl⟩
 obtain⟨hk33,h⟩:=ac h
 replace hS:=hS.pull 3
 replace hS:=hS.pull 1
 refine K.app [] hS hq rfl (wn rfl) (dd:=(elI .i64 3)) (lst:=pI) (m:=([2]:List Int)) rfl rfl cZ rfl rfl (hN.mono hF24) (Nat.succ_pos _) hC29 hk33 [0,1] rfl rfl (aZ rfl mm0 (aZ rfl (mm1 mm0) bv)) fun s rs i30 cs31 hC32 hS hq=>(kg hS hq 2 [53] [.pointer (some ⟨iC,1,none⟩)] (by kernel_rfl) fun s rs hS hq=>?_)
 refine K.sto hS hq rfl (wn rfl) rfl rfl rfl rfl (p:=2) rfl sa rfl [.slice (some ⟨i2,of3,none⟩) pC.length zH,.slice (some ⟨i30,0,none⟩) (pI++([2]:List Int)).length 1,.slice aT pO.length zU] rfl [0] rfl (aZ rfl (mm1 mm0) bv) fun s rs hS hq=>(KW.nil ?_)
 refine WW.seq (WW.region ?_)
 obtain⟨y34,hy34,h⟩:=bind_some h
 replace hS:=hS.pull 4
 replace hS:=hS.pull 4
 replace hS:=hS.pull 2
 replace hS:=hS.pull 4
 replace hS:=hS.pull 4
 refine cK (g_x.ok hy34 (hI.mono hF24) (hAE.mono hF24)) hS 2 56 5 rfl (by kernel_rfl) fun s v S' F' hp35 hF hS=>?_
 obtain⟨a36,z37,B39,rfl,rfl,rfl,h38⟩:=hp35
 refine KW.nil (WW.seq ?_)
 refine WW.region (sg0 hS 2 [] [4] [.int .i64 y26] [] (by kernel_rfl) fun s hS=>?_)
 refine KW.nil (WW.ret ?_)
 cases h
 exact aS hS (.inr rfl) 4 rfl rfl ⟨_,_,_,_,_,_,(hF24),rfl,rfl,h38,(Own.blk0 hC32)⟩
noncomputable def g_u.f (pO:List (Int×List UInt8×(List (Int×Int×Int)))) (pW:Bool) (pZ:Int) (pAA:List (UInt8×Int×Int×Int)):Option (Int×Bool×(List (UInt8×Int×Int×Int))×(List (Int×List UInt8×(List (Int×Int×Int))))) :=
  (if(!pW) then some (0,pW,pAA,pO) else Option.bind (g_1g.f pAA) fun y8=>(if((y8.length:Int)==0) then some (17,false,pAA,pO) else Option.bind (g_1j.f pO pZ y8) fun y14=>some (0,false,pAA,y14)))
theorem g_u.ok {iB:Nat} {iC:Nat} {aE:Option Addr} {zH:Nat} {aK:Option Addr} {zM:Nat} {BO:Seg} {aT:Option Addr} {zU:Nat} {BW:Seg} {aAC:Option Addr} {zAD:Nat} {BAH:Seg} {pC:List (List UInt8)} {pI:List Int} {pO:List (Int×List UInt8×(List (Int×Int×Int)))} {pW:Bool} {pX:Int} {pY:Int} {pZ:Int} {pAA:List (UInt8×Int×Int×Int)} {F:FZ} {r:Int×Bool×(List (UInt8×Int×Int×Int))×(List (Int×List UInt8×(List (Int×Int×Int))))} (h:g_u.f pO pW pZ pAA=some r) (hV:Own bs F aT zU pO BW) (hAE:Own bb F aAC zAD pAA BAH) :
    Cl EV 123 [.pointer (some ⟨iB,0,none⟩)] [[(iB,.row [.pointer (some ⟨iC,0,none⟩),.bool pW,.int .i64 pX,.int .i64 pY,.int .i64 pZ,.slice aAC pAA.length zAD] 132 0 true)],[(iC,.row [.slice aE pC.length zH,.slice aK pI.length zM,.slice aT pO.length zU] 95 0 true)],BO,BW,BAH] F (fun v S' F'=> ∃(ra1:Option Addr) (rz2:Nat) (ra4:Option Addr) (rz5:Nat) (rB7:Seg),FLe F F'∧v= .int .i64 r.1∧S'= [[(iB,.row [.pointer (some ⟨iC,0,none⟩),.bool r.2.1,.int .i64 pX,.int .i64 pY,.int .i64 pZ,.slice ra1 r.2.2.1.length rz2] 132 0 true)],[(iC,.row [.slice aE pC.length zH,.slice aK pI.length zM,.slice ra4 r.2.2.2.length rz5] 95 0 true)],BO,rB7]∧Frz bb F' ra1 rz2 r.2.2.1∧Own bs F' ra4 rz5 r.2.2.2 rB7):=by
 refine Cl.of Tryz.func123 rfl (fun _ _=>rfl) (by kernel_rfl) fun s L nx0 hS=>?_
 unfold g_u.f at h
 refine WW.seq (WW.region ?_)
 refine sg0 hS 1 [] [2] [.int .i64 0] [] (by kernel_rfl) fun s hS=>(KW.nil ?_)
 refine WW.seq (WW.seq ?_)
 refine WW.region (sg0 hS 5 [0] [8] [.bool (!pW)] [iB] (by kernel_rfl) fun s hS=>?_)
 refine KW.nil (bc h (fun hc1 h=>?_) fun hc1 h=>?_)
 refine WW.condK hS rfl hc1 (WW.seq ?_)
 refine WW.region (sg0 hS 1 [] [2] [.int .i64 0] [] (by kernel_rfl) fun s hS=>?_)
 refine KW.nil (WW.ret ?_)
 replace hS:=hS.pull 4
 obtain⟨F2,hF3,hS,hz4⟩:=hS.frzO hAE
 cases h
 exact aS hS (.inr rfl) 2 rfl rfl ⟨_,_,_,_,_,(hF3),rfl,rfl,hz4,(hV.mono hF3)⟩
 refine WW.condF hS rfl hc1 (WW.skip ?_)
 refine WW.seq (WW.region ?_)
 refine sg hS 4 [0] [] [] [iB] [[(iB,.row [.pointer (some ⟨iC,0,none⟩),.bool false,.int .i64 pX,.int .i64 pY,.int .i64 pZ,.slice aAC pAA.length zAD] 132 0 true)],[(iC,.row [.slice aE pC.length zH,.slice aK pI.length zM,.slice aT pO.length zU] 95 0 true)],BO,BW,BAH] (by kernel_rfl) fun s hS=>(KW.nil ?_)
 refine WW.seq (WW.region ?_)
 refine sg0 hS 4 [0] [15] [.slice aAC pAA.length zAD] [iB] (by kernel_rfl) fun s hS=>?_
 replace hS:=hS.pull 4
 obtain⟨F5,hF6,hS,hz7⟩:=hS.frzO hAE
 obtain⟨y8,hy8,h⟩:=bind_some h
 refine bE hS (wn rfl) (vs:=[.slice aAC pAA.length zAD]) (ws:=[.slice aAC pAA.length zAD]) rfl rfl rfl rfl rfl 0 rfl (g_1g.ok hy8 hz7) fun s v S' F' hp9 hF hS=>?_
 obtain⟨a10,z11,rfl,rfl,rfl,h12⟩:=hp9
 refine sg0 hS 1 [] [3] [.slice a10 y8.length z11] [] (by kernel_rfl) fun s hS=>(KW.nil ?_)
 refine WW.seq (WW.seq ?_)
 refine WW.region (sg0 hS 3 [] [19] [.bool ((y8.length:Int)==0)] [] (by kernel_rfl) fun s hS=>?_)
 refine KW.nil (bc h (fun hc13 h=>?_) fun hc13 h=>?_)
 refine WW.condK hS rfl hc13 (WW.seq ?_)
 refine WW.region (sg0 hS 1 [] [2] [.int .i64 17] [] (by kernel_rfl) fun s hS=>?_)
 refine KW.nil (WW.ret ?_)
 cases h
 exact aS hS (.inr rfl) 2 rfl rfl ⟨_,_,_,_,_,(hF6),rfl,rfl,hz7,(hV.mono hF6)⟩
 refine WW.condF hS rfl hc13 (WW.skip ?_)
 refine WW.seq (WW.regionD (i:=[[],[],[],[],[3,2,1,0],[3,2,1,0],[3,2,1,0],[3,2,1,0],[7,6,5,4,3,2,1,0],[]]) (by kernel_rfl) ?_)
 have hq:=RS.start [iB,iC]
 refine kg hS hq 3 [22] [.pointer (some ⟨iB,0,none⟩)] (by kernel_rfl) fun s rs hS hq=>(K.ld hS hq rfl (wn rfl) rfl rfl rfl (hS.at (k:=0) rfl) ig (v:= .pointer (some ⟨iC,0,none⟩)) rfl 0 rfl rfl fun s rs hS hq=>?_)
 refine kg hS hq 3 [26] [.pointer (some ⟨iB,4,none⟩)] (by kernel_rfl) fun s rs hS hq=>(K.ld hS hq rfl (wn rfl) rfl rfl rfl (hS.at (k:=0) rfl) tg3 (v:= .int .i64 pZ) rfl 0 rfl rfl fun s rs hS hq=>?_)
 refine kg hS hq 1 [28] [.slice a10 y8.length z11] (by kernel_rfl) fun s rs hS hq=>?_
 obtain⟨y14,hy14,h⟩:=bind_some h
 replace hS:=hS.pull 3
 replace hS:=hS.pull 3
 replace hS:=hS.pull 3
 refine K.cl hS hq rfl (wn rfl) (vs:=[.pointer (some ⟨iC,0,none⟩),.int .i64 pZ,.slice a10 y8.length z11]) (ws:=[.pointer (some ⟨iC,0,none⟩),.int .i64 pZ,.slice a10 y8.length z11]) rfl rfl rfl rfl rfl 3 rfl (g_1j.ok hy14 (hV.mono hF6) h12)  [0] rfl rfl (aZ rfl mm0 bv) fun s rs v S' F16 hp15 hF hS hq=>?_
 obtain⟨a17,z18,B20,hF21,rfl,rfl,h19⟩:=hp15
 refine KW.nil (WW.seq ?_)
 refine WW.region (sg0 hS 1 [] [2] [.int .i64 0] [] (by kernel_rfl) fun s hS=>?_)
 refine KW.nil (WW.ret ?_)
 replace hS:=hS.pull 2
 replace hS:=hS.pull 2
 replace hS:=hS.pull 2
 replace hS:=hS.pull 3
 cases h
 exact aS hS (.inr rfl) 2 rfl rfl ⟨_,_,_,_,_,((FLe.trans hF6 hF21)),rfl,rfl,(hz7.mono hF21),h19⟩
noncomputable def g_1d.b0 (pA:List UInt8) (x1:Int×Int×Int):Option ((Int×Int×Int)⊕((Int×Int×Int)⊕(Int×Int))) :=
  (if(decide (x1.2.2≤5)) then Option.bind (Option.bind (g_s.f pA x1.2.2) fun y8=>Option.bind (g_18.f y8) fun y10=>(if y10 then some (.inl ((w64 ((w64 (10*x1.1))+(IntKind.i64.wrap ((y8-48).toNat:Int)))),(w64 (x1.2.1+1)))) else(if((y8.toNat:Int) != ((32:UInt8).toNat:Int)) then some (.inr (.inr (.inr (0,7)))) else some (.inl (x1.1,x1.2.1))))) fun z6=>bj z6 fun z7=>some (.inl (z7.1,z7.2,(w64 (x1.2.2+1)))) else some (.inr (.inl (x1.1,x1.2.1,x1.2.2))))
noncomputable def g_1d.f (pA:List UInt8):Option (Int×Int) :=
  Option.bind (iter (g_1d.b0 pA) (0,0,1)) fun o2=>bj o2 fun y14=>Option.bind (g_1k.f ((y14.2.1==0)||(decide (y14.1>0))) 2) fun y15=>some (y14.1,y15)
theorem g_1d.ok {pA:List UInt8} {F:FZ} {r:Int×Int} (h:g_1d.f pA=some r) :
    Cl EV 124 [aa pA] [] F (fun v S' F'=>F=F'∧v= .tuple #[.int .i64 r.1,.int .i64 r.2]∧S'= []):=by
 refine Cl.of Tryz.func124 rfl (fun _ _=>rfl) (by kernel_rfl) fun s L nx0 hS=>?_
 unfold g_1d.f at h
 refine WW.seq (WW.region ?_)
 refine sg0 hS 2 [] [2,3] [.int .i64 0,.int .i64 0] [] (by kernel_rfl) fun s hS=>(KW.nil ?_)
 refine WW.seq (WW.region ?_)
 refine sg0 hS 2 [] [4,5] [.int .i64 0,.int .i64 0] [] (by kernel_rfl) fun s hS=>(KW.nil ?_)
 refine WW.seq (WW.seq ?_)
 refine WW.region (sg0 hS 1 [] [6] [.int .i64 1] [] (by kernel_rfl) fun s hS=>?_)
 refine KW.nil (WW.block ?_)
 obtain⟨o2,ho2,h⟩:=bind_some h
 refine WW.loop (LW.iterS ho2 (fun(x1:Int×Int×Int) s=>Stt EV s [(0,aa pA),(2,.int .i64 0),(3,.int .i64 0),(4,.int .i64 x1.1),(5,.int .i64 x1.2.1),(6,.int .i64 x1.2.2)] [] F L F nx0) 0 (fun r=>dq EV Tryz.f124 L F nx0 (fun v S' F'=>F=F'∧v= .tuple #[.int .i64 r.1,.int .i64 r.2]∧S'= [])) (hS.subR rfl) ?_ ?_)
 clear hS
 rintro x1 s hS o2' h4
 unfold g_1d.b0 at h4
 refine WW.seq (WW.seq ?_)
 refine WW.region (sg0 hS 2 [] [9] [.bool (decide (x1.2.2≤5))] [] (by kernel_rfl) fun s hS=>?_)
 refine KW.nil (bc h4 (fun hc5 h4=>?_) fun hc5 h4=>?_)
 refine WW.condK hS rfl hc5 (WW.skip ?_)
 obtain⟨z6,hz6,h4⟩:=bind_some h4
 refine WW.seqJ (fun s=> ∃(z7:Int×Int),z6= .inl z7∧Stt EV s [(0,aa pA),(2,.int .i64 0),(3,.int .i64 0),(4,.int .i64 z7.1),(5,.int .i64 z7.2),(6,.int .i64 x1.2.2)] [] F L F nx0) ?_ ?_
 refine WW.block (WW.seq ?_)
 refine WW.region ?_
 obtain⟨y8,hy8,hz6⟩:=bind_some hz6
 refine cR (g_s.ok hy8) hS 2 14 0 rfl (by kernel_rfl) fun s hS=>(sg0 hS 1 [] [7] [vB y8] [] (by kernel_rfl) fun s hS=>?_)
 refine KW.nil (WW.block ?_)
 refine WW.seq (WW.region ?_)
 obtain⟨y10,hy10,hz6⟩:=bind_some hz6
 refine cR (g_18.ok hy10) hS 1 17 0 rfl (by kernel_rfl) fun s hS=>(sg0 hS 1 [] [15] [.bool y10] [] (by kernel_rfl) fun s hS=>?_)
 refine KW.nil (bc hz6 (fun hc12 hz6=>?_) fun hc12 hz6=>?_)
 refine WW.condK hS rfl hc12 (WW.seq ?_)
 refine WW.region (sg0 hS 3 [] [19,20] [.int .i64 (w64 (10*x1.1)),vB y8] [] (by kernel_rfl) fun s hS=>?_)
 refine am hS (wn rfl) rfl rfl rfl (v:=vB (y8-48)) (fi (hS.lk rfl) (hS.lk rfl)) fun s hS=>(am hS (wn rfl) rfl rfl (ic hS rfl rfl) (v:= .int .i64 (IntKind.i64.wrap ((y8-48).toNat:Int))) (fj (hS.lk rfl) tu5 tu3) fun s hS=>?_)
 refine sg0 hS 2 [] [4] [.int .i64 (w64 ((w64 (10*x1.1))+(IntKind.i64.wrap ((y8-48).toNat:Int))))] [] (by kernel_rfl) fun s hS=>(KW.nil ?_)
 refine WW.region (sg0 hS 3 [] [5] [.int .i64 (w64 (x1.2.1+1))] [] (by kernel_rfl) fun s hS=>?_)
 refine KW.nil ?_
 obtain rfl:=Option.some.inj hz6
 exact⟨_,rfl,(hS.subR rfl)⟩
 refine WW.condF hS rfl hc12 (WW.seq ?_)
 refine WW.region (sg0 hS 3 [] [26] [.bool ((y8.toNat:Int) != ((32:UInt8).toNat:Int))] [] (by kernel_rfl) fun s hS=>?_)
 refine KW.nil (bc hz6 (fun hc13 hz6=>?_) fun hc13 hz6=>?_)
 refine WW.condK hS rfl hc13 (WW.seq ?_)
 refine WW.region (sg0 hS 2 [] [2,3] [.int .i64 0,.int .i64 7] [] (by kernel_rfl) fun s hS=>?_)
 refine KW.nil (WW.ret ?_)
 obtain rfl:=Option.some.inj hz6
 replace h4:=aj h4
 cases h4
 exact⟨_,rfl,rfl,eB hS (.inr rfl) 2 3 rfl rfl rfl ⟨rfl,rfl,rfl⟩⟩
 refine WW.condF hS rfl hc13 (WW.skip ?_)
 obtain rfl:=Option.some.inj hz6
 exact⟨_,rfl,(hS.subR rfl)⟩
 rintro s ⟨z7,rfl,hS⟩
 replace h4:=aB h4
 refine WW.region (sg0 hS 3 [] [6] [.int .i64 (w64 (x1.2.2+1))] [] (by kernel_rfl) fun s hS=>?_)
 refine KW.nil ?_
 obtain rfl:=Option.some.inj h4
 exact⟨_,rfl,(hS.subR rfl)⟩
 refine WW.condF hS rfl hc5 (WW.exit ?_)
 refine af ?_
 obtain rfl:=Option.some.inj h4
 exact⟨_,rfl,rfl,(hS.subR rfl)⟩
 clear hS
 rcases o2 with y14 | y14
 rintro e s ⟨rfl,hS⟩
 replace h:=aB h
 refine ah (WW.seq ?_)
 refine WW.region (sg0 hS 4 [] [29,32] [.int .i64 y14.1,.bool (y14.2.1==0)] [] (by kernel_rfl) fun s hS=>?_)
 refine aH 3 (fun s=>Stt EV s [(35,.bool ((y14.2.1==0)||(decide (y14.1>0)))),(2,.int .i64 0),(3,.int .i64 0),(29,.int .i64 y14.1)] [] F L F nx0) ?_ fun s hS=>?_
 rcases ax ((y14.2.1==0)) with hcj | hcj
 replace hS:=hS.know (t:=32) rfl (congrArg Value.bool hcj)
 refine sg0 hS 3 [] [35] [.bool true] [] (by kernel_rfl) fun s hS=>(KW.nil ?_)
 exact(hS.know (t:=35) (u':= .bool ((y14.2.1==0)||(decide (y14.1>0)))) rfl (cB hcj)).subR rfl
 replace hS:=hS.know (t:=32) rfl (congrArg Value.bool hcj)
 refine sg0 hS 3 [] [35] [.bool (decide (y14.1>0))] [] (by kernel_rfl) fun s hS=>(KW.nil ?_)
 exact(hS.know (t:=35) (u':= .bool ((y14.2.1==0)||(decide (y14.1>0)))) rfl (cC hcj)).subR rfl
 obtain⟨y15,hy15,h⟩:=bind_some h
 refine cR (g_1k.ok hy15) hS 0 36 0 rfl (by kernel_rfl) fun s hS=>(sg0 hS 2 [] [2,3] [.int .i64 y14.1,.int .i64 y15] [] (by kernel_rfl) fun s hS=>?_)
 refine KW.nil (WW.ret ?_)
 cases h
 exact eB hS (.inr rfl) 2 3 rfl rfl rfl ⟨rfl,rfl,rfl⟩
 rintro e s ⟨rfl,hfin⟩
 replace h:=aj h
 obtain rfl:=Option.some.inj h
 exact hfin
noncomputable def g_w.b0 (pC:List (List UInt8)) (x1:Int×Bool×Int×Int×Int×(List (UInt8×Int×Int×Int))×List Int×(List (Int×List UInt8×(List (Int×Int×Int))))):Option ((Int×Bool×Int×Int×Int×(List (UInt8×Int×Int×Int))×List Int×(List (Int×List UInt8×(List (Int×Int×Int)))))⊕((Int×Bool×Int×Int×Int×(List (UInt8×Int×Int×Int))×List Int×(List (Int×List UInt8×(List (Int×Int×Int)))))⊕(Int×Int×Bool×Int×Int×Int×(List (UInt8×Int×Int×Int))×List Int×(List (Int×List UInt8×(List (Int×Int×Int))))))) :=
  (if(decide (x1.1<(pC.length:Int))) then(if 0≤x1.1∧x1.1<(pC.length:Int) then Option.bind (g_17.f (gt pC x1.1)) fun y43=>(if y43 then(if x1.2.2.2.2.2.2.1.length+([0]:List Int).length<1000000000 then some (.inl ((w64 (x1.1+1)),x1.2.1,x1.2.2.1,x1.2.2.2.1,x1.2.2.2.2.1,x1.2.2.2.2.2.1,(x1.2.2.2.2.2.2.1++([0]:List Int)),x1.2.2.2.2.2.2.2)) else none) else Option.bind (g_s.f (gt pC x1.1) 6) fun y52=>(if(((y52.toNat:Int) != ((32:UInt8).toNat:Int))&&((y52.toNat:Int) != ((48:UInt8).toNat:Int))) then Option.bind (g_v.f pC x1.2.2.2.2.2.2.1 x1.2.1 x1.2.2.2.1 x1.2.2.2.2.2.1 x1.1) fun y55=>(if(y55.1 != 0) then some (.inr (.inr (x1.1,y55.1,x1.2.1,x1.2.2.1,y55.2.1,x1.2.2.2.2.1,y55.2.2.1,y55.2.2.2,x1.2.2.2.2.2.2.2))) else some (.inl ((w64 (x1.1+1)),x1.2.1,x1.2.2.1,y55.2.1,x1.2.2.2.2.1,y55.2.2.1,y55.2.2.2,x1.2.2.2.2.2.2.2))) else Option.bind (g_u.f x1.2.2.2.2.2.2.2 x1.2.1 x1.2.2.2.2.1 x1.2.2.2.2.2.1) fun y71=>(if(y71.1 != 0) then some (.inr (.inr (x1.2.2.1,y71.1,y71.2.1,x1.2.2.1,x1.2.2.2.1,x1.2.2.2.2.1,y71.2.2.1,x1.2.2.2.2.2.2.1,y71.2.2.2))) else Option.bind (g_1d.f (gt pC x1.1)) fun y83=>(if(y83.2 != 0) then some (.inr (.inr (x1.1,y83.2,y71.2.1,x1.2.2.1,x1.2.2.2.1,x1.2.2.2.2.1,y71.2.2.1,x1.2.2.2.2.2.2.1,y71.2.2.2))) else(if x1.2.2.2.2.2.2.1.length+([1]:List Int).length<1000000000 then Option.bind (g_x.f pC ([]:List (UInt8×Int×Int×Int)) x1.1) fun y92=>some (.inl ((w64 (x1.1+1)),true,x1.1,0,y83.1,y92,(x1.2.2.2.2.2.2.1++([1]:List Int)),y71.2.2.2)) else none))))) else none) else some (.inr (.inl (x1.1,x1.2.1,x1.2.2.1,x1.2.2.2.1,x1.2.2.2.2.1,x1.2.2.2.2.2.1,x1.2.2.2.2.2.2.1,x1.2.2.2.2.2.2.2))))
noncomputable def g_w.f (pC:List (List UInt8)) (pI:List Int) (pO:List (Int×List UInt8×(List (Int×Int×Int)))) (pW:Bool) (pX:Int) (pY:Int) (pZ:Int) (pAA:List (UInt8×Int×Int×Int)):Option (Int×Int×Bool×Int×Int×Int×(List (UInt8×Int×Int×Int))×List Int×(List (Int×List UInt8×(List (Int×Int×Int))))) :=
  Option.bind (iter (g_w.b0 pC) (0,pW,pX,pY,pZ,pAA,pI,pO)) fun o16=>bj o16 fun y98=>Option.bind (g_u.f y98.2.2.2.2.2.2.2 y98.2.1 y98.2.2.2.2.1 y98.2.2.2.2.2.1) fun y113=>some (y98.2.2.1,y113.1,y113.2.1,y98.2.2.1,y98.2.2.2.1,y98.2.2.2.2.1,y113.2.2.1,y98.2.2.2.2.2.2.1,y113.2.2.2)
theorem g_w.ok {iB:Nat} {iC:Nat} {aE:Option Addr} {zH:Nat} {aK:Option Addr} {zM:Nat} {BO:Seg} {aT:Option Addr} {zU:Nat} {BW:Seg} {aAC:Option Addr} {zAD:Nat} {BAH:Seg} {pC:List (List UInt8)} {pI:List Int} {pO:List (Int×List UInt8×(List (Int×Int×Int)))} {pW:Bool} {pX:Int} {pY:Int} {pZ:Int} {pAA:List (UInt8×Int×Int×Int)} {F:FZ} {r:Int×Int×Bool×Int×Int×Int×(List (UInt8×Int×Int×Int))×List Int×(List (Int×List UInt8×(List (Int×Int×Int))))} (h:g_w.f pC pI pO pW pX pY pZ pAA=some r) (hI:Frz (elS 9) F aE zH pC) (hN:Own (elI .i64 3) F aK zM pI BO) (hV:Own bs F aT zU pO BW) (hAE:Own bb F aAC zAD pAA BAH) :
    Cl EV 81 [.pointer (some ⟨iB,0,none⟩)] [[(iB,.row [.pointer (some ⟨iC,0,none⟩),.bool pW,.int .i64 pX,.int .i64 pY,.int .i64 pZ,.slice aAC pAA.length zAD] 132 0 true)],[(iC,.row [.slice aE pC.length zH,.slice aK pI.length zM,.slice aT pO.length zU] 95 0 true)],BO,BW,BAH] F (fun v S' F'=> ∃(ra1:Option Addr) (rz2:Nat) (ra4:Option Addr) (rz5:Nat) (rB7:Seg) (ra8:Option Addr) (rz9:Nat) (rB11:Seg),FLe F F'∧v= .tuple #[.int .i64 r.1,.int .i64 r.2.1]∧S'= [[(iB,.row [.pointer (some ⟨iC,0,none⟩),.bool r.2.2.1,.int .i64 r.2.2.2.1,.int .i64 r.2.2.2.2.1,.int .i64 r.2.2.2.2.2.1,.slice ra1 r.2.2.2.2.2.2.1.length rz2] 132 0 true)],[(iC,.row [.slice aE pC.length zH,.slice ra4 r.2.2.2.2.2.2.2.1.length rz5,.slice ra8 r.2.2.2.2.2.2.2.2.length rz9] 95 0 true)],rB7,rB11]∧Frz bb F' ra1 rz2 r.2.2.2.2.2.2.1∧Own (elI .i64 3) F' ra4 rz5 r.2.2.2.2.2.2.2.1 rB7∧Own bs F' ra8 rz9 r.2.2.2.2.2.2.2.2 rB11):=by
 refine Cl.of Tryz.func81 rfl (fun _ _=>rfl) (by kernel_rfl) fun s L nx0 hS=>?_
 unfold g_w.f at h
 refine WW.seq (WW.region ?_)
 refine sg0 hS 2 [] [2,3] [.int .i64 0,.int .i64 0] [] (by kernel_rfl) fun s hS=>(KW.nil ?_)
 refine WW.seq (WW.seq ?_)
 refine WW.region (sg0 hS 9 [0,1] [17,18,19] [.slice aE pC.length zH,.int .i64 (pC.length:Int),.int .i64 0] [iB,iC] (by kernel_rfl) fun s hS=>?_)
 refine KW.nil (WW.block ?_)
 obtain⟨o16,ho16,h⟩:=bind_some h
 refine WW.loop (LW.iterS ho16 (fun(x1:Int×Bool×Int×Int×Int×(List (UInt8×Int×Int×Int))×List Int×(List (Int×List UInt8×(List (Int×Int×Int))))) s=> ∃(a4:Option Addr) (z5:Nat) (B7:Seg) (a8:Option Addr) (z9:Nat) (B11:Seg) (a12:Option Addr) (z13:Nat) (B15:Seg) (F2:FZ),Stt EV s [(0,.pointer (some ⟨iB,0,none⟩)),(2,.int .i64 0),(3,.int .i64 0),(17,.slice aE pC.length zH),(18,.int .i64 (pC.length:Int)),(19,.int .i64 x1.1)] [[(iB,.row [.pointer (some ⟨iC,0,none⟩),.bool x1.2.1,.int .i64 x1.2.2.1,.int .i64 x1.2.2.2.1,.int .i64 x1.2.2.2.2.1,.slice a4 x1.2.2.2.2.2.1.length z5] 132 0 true)],[(iC,.row [.slice aE pC.length zH,.slice a8 x1.2.2.2.2.2.2.1.length z9,.slice a12 x1.2.2.2.2.2.2.2.length z13] 95 0 true)],B11,B15,B7] F2 L F nx0∧Own bb F2 a4 z5 x1.2.2.2.2.2.1 B7∧Own (elI .i64 3) F2 a8 z9 x1.2.2.2.2.2.2.1 B11∧Own bs F2 a12 z13 x1.2.2.2.2.2.2.2 B15∧FLe F F2) 0 (fun r=>dq EV Tryz.f81 L F nx0 (fun v S' F'=> ∃(ra1:Option Addr) (rz2:Nat) (ra4:Option Addr) (rz5:Nat) (rB7:Seg) (ra8:Option Addr) (rz9:Nat) (rB11:Seg),FLe F F'∧v= .tuple #[.int .i64 r.1,.int .i64 r.2.1]∧S'= [[(iB,.row [.pointer (some ⟨iC,0,none⟩),.bool r.2.2.1,.int .i64 r.2.2.2.1,.int .i64 r.2.2.2.2.1,.int .i64 r.2.2.2.2.2.1,.slice ra1 r.2.2.2.2.2.2.1.length rz2] 132 0 true)],[(iC,.row [.slice aE pC.length zH,.slice ra4 r.2.2.2.2.2.2.2.1.length rz5,.slice ra8 r.2.2.2.2.2.2.2.2.length rz9] 95 0 true)],rB7,rB11]∧Frz bb F' ra1 rz2 r.2.2.2.2.2.2.1∧Own (elI .i64 3) F' ra4 rz5 r.2.2.2.2.2.2.2.1 rB7∧Own bs F' ra8 rz9 r.2.2.2.2.2.2.2.2 rB11)) ⟨_,_,_,_,_,_,_,_,_,_,(hS.subR rfl),hAE,hN,hV,(FLe.refl _)⟩ ?_ ?_)
 clear hS
 rintro x1 s ⟨a4,z5,B7,a8,z9,B11,a12,z13,B15,F2,hS,h6,h10,h14,hF3⟩ o16' h32
 unfold g_w.b0 at h32
 refine WW.seq (WW.region ?_)
 refine sg0 hS 1 [] [20] [.bool (decide (x1.1<(pC.length:Int)))] [] (by kernel_rfl) fun s hS=>(KW.nil ?_)
 refine WW.seq (bc h32 (fun hc33 h32=>?_) fun hc33 h32=>?_)
 refine WW.condK hS rfl hc33 (WW.skip ?_)
 refine WW.seq (WW.block ?_)
 refine WW.seq (WW.region ?_)
 refine sg0 hS 1 [] [21] [.int .i64 x1.1] [] (by kernel_rfl) fun s hS=>?_
 obtain⟨hk34,h32⟩:=ac h32
 obtain⟨i40,of41,rfl⟩:=Frz.addr hI (by omega)
 obtain⟨_,_,_,_,c35,hF42,hR36,hN37,hN38,hT39⟩:=Frz.at (hI.mono hF3) hk34 (m:=1) rfl
 obtain rfl:=hR36
 refine am hS (wn rfl) rfl rfl rfl (v:= .pointer (some ⟨i40,of41+(x1.1).toNat*1,none⟩)) (aW (hS.lk rfl) (hS.lk rfl) ie hk34) fun s hS=>(gG hS (wn rfl) rfl rfl rfl (hS.fat hF42) tg9 (v:=aa (gt pC x1.1)) hN37 fun s hS=>?_)
 refine sg0 hS 2 [] [4,5] [.int .i64 x1.1,aa (gt pC x1.1)] [] (by kernel_rfl) fun s hS=>(KW.nil ?_)
 refine WW.seq (WW.seq ?_)
 refine WW.region ?_
 obtain⟨y43,hy43,h32⟩:=bind_some h32
 refine cR (g_17.ok hy43) hS 1 25 0 rfl (by kernel_rfl) fun s hS=>(KW.nil ?_)
 refine bc h32 (fun hc45 h32=>?_) fun hc45 h32=>?_
 refine WW.condK hS rfl hc45 (WW.seq ?_)
 refine WW.regionD (i:=[[],[],[],[],[3,2,1,0],[3,2,1,0],[3,2,1,0],[3,2,1,0],[3,2,1,0],[3,2,1,0],[3,2,1,0],[10,9,8,7,6,5,4,3,2,1,0],[3,2,1,0],[],[],[]]) (by kernel_rfl) ?_
 have hq:=RS.start [iB,iC]
 refine kg hS hq 3 [28] [.pointer (some ⟨iB,0,none⟩)] (by kernel_rfl) fun s rs hS hq=>(K.ld hS hq rfl (wn rfl) rfl rfl rfl (hS.at (k:=0) rfl) ig (v:= .pointer (some ⟨iC,0,none⟩)) rfl 0 rfl rfl fun s rs hS hq=>?_)
 refine kg hS hq 3 [32] [.pointer (some ⟨iB,0,none⟩)] (by kernel_rfl) fun s rs hS hq=>(K.ld hS hq rfl (wn rfl) rfl rfl rfl (hS.at (k:=0) rfl) ig (v:= .pointer (some ⟨iC,0,none⟩)) rfl 0 rfl rfl fun s rs hS hq=>?_)
 refine kg hS hq 2 [35] [.pointer (some ⟨iC,1,none⟩)] (by kernel_rfl) fun s rs hS hq=>(K.ld hS hq rfl (wn rfl) rfl rfl rfl (hS.at (k:=1) rfl) r4 (v:= .slice a8 x1.2.2.2.2.2.2.1.length z9) rfl 1 rfl rfl fun s rs hS hq=>?_)
 refine K.nw hS hq rfl (wn rfl) rfl rfl rfl (v:=fun i=> .slice (some ⟨i,0,none⟩) 1 1) (b:= .row [.int .i64 0] 3 1 true) (be ko tz3 km rfl [(0,.int .i64 0)] (ar hS rfl) rfl) [0,1] (aZ rfl mm0 (aZ rfl (mm1 mm0) bv)) rfl rfl rfl fun s rs i46 hS hq=>?_
 have hC47:au (elI .i64 3) F2 ([0]:List Int) [.int .i64 0]:=⟨[.int .i64 0],[],rfl,rfl,rfl⟩
 obtain⟨hk51,h32⟩:=ac h32
 replace hS:=hS.pull 3
 replace hS:=hS.pull 1
 refine K.app [] hS hq rfl (wn rfl) (dd:=(elI .i64 3)) (lst:=x1.2.2.2.2.2.2.1) (m:=([0]:List Int)) rfl rfl cZ rfl rfl h10 (Nat.succ_pos _) hC47 hk51 [0,1] rfl rfl (aZ rfl mm0 (aZ rfl (mm1 mm0) bv)) fun s rs i48 cs49 hC50 hS hq=>(kg hS hq 2 [40] [.pointer (some ⟨iC,1,none⟩)] (by kernel_rfl) fun s rs hS hq=>?_)
 refine K.sto hS hq rfl (wn rfl) rfl rfl rfl rfl (p:=2) rfl sa rfl [.slice (some ⟨i40,of41,none⟩) pC.length zH,.slice (some ⟨i48,0,none⟩) (x1.2.2.2.2.2.2.1++([0]:List Int)).length 1,.slice a12 x1.2.2.2.2.2.2.2.length z13] rfl [0] rfl (aZ rfl (mm1 mm0) bv) fun s rs hS hq=>(KW.nil ?_)
 refine WW.exit (af ?_)
 refine ah (WW.region ?_)
 refine sg0 hS 2 [] [19] [.int .i64 (w64 (x1.1+1))] [] (by kernel_rfl) fun s hS=>(KW.nil ?_)
 replace hS:=hS.pull 4
 replace hS:=hS.pull 4
 replace hS:=hS.pull 2
 replace hS:=hS.pull 4
 replace hS:=hS.pull 4
 obtain rfl:=Option.some.inj h32
 exact⟨_,rfl,_,_,_,_,_,_,_,_,_,_,(hS.subR rfl),h6,(Own.blk0 hC50),h14,hF3⟩
 refine WW.condF hS rfl hc45 (WW.skip ?_)
 refine WW.seq (WW.seq ?_)
 refine WW.region ?_
 obtain⟨y52,hy52,h32⟩:=bind_some h32
 refine cR (g_s.ok hy52) hS 1 42 0 rfl (by kernel_rfl) fun s hS=>(sg0 hS 1 [] [6] [vB y52] [] (by kernel_rfl) fun s hS=>?_)
 refine KW.nil (WW.seq ?_)
 refine WW.region (sg0 hS 3 [] [45] [.bool ((y52.toNat:Int) != ((32:UInt8).toNat:Int))] [] (by kernel_rfl) fun s hS=>?_)
 refine aH 3 (fun s=>Stt EV s [(48,.bool (((y52.toNat:Int) != ((32:UInt8).toNat:Int))&&((y52.toNat:Int) != ((48:UInt8).toNat:Int)))),(0,.pointer (some ⟨iB,0,none⟩)),(2,.int .i64 0),(3,.int .i64 0),(4,.int .i64 x1.1),(5,aa (gt pC x1.1)),(17,.slice (some ⟨i40,of41,none⟩) pC.length zH),(18,.int .i64 (pC.length:Int)),(19,.int .i64 x1.1)] [[(iB,.row [.pointer (some ⟨iC,0,none⟩),.bool x1.2.1,.int .i64 x1.2.2.1,.int .i64 x1.2.2.2.1,.int .i64 x1.2.2.2.2.1,.slice a4 x1.2.2.2.2.2.1.length z5] 132 0 true)],[(iC,.row [.slice (some ⟨i40,of41,none⟩) pC.length zH,.slice a8 x1.2.2.2.2.2.2.1.length z9,.slice a12 x1.2.2.2.2.2.2.2.length z13] 95 0 true)],B11,B15,B7] F2 L F nx0) ?_ fun s hS=>?_
 rcases ax (((y52.toNat:Int) != ((32:UInt8).toNat:Int))) with hcj | hcj
 replace hS:=hS.know (t:=45) rfl (congrArg Value.bool hcj)
 refine sg0 hS 3 [] [48] [.bool ((y52.toNat:Int) != ((48:UInt8).toNat:Int))] [] (by kernel_rfl) fun s hS=>(KW.nil ?_)
 exact(hS.know (t:=48) (u':= .bool (((y52.toNat:Int) != ((32:UInt8).toNat:Int))&&((y52.toNat:Int) != ((48:UInt8).toNat:Int)))) rfl (bw hcj)).subR rfl
 replace hS:=hS.know (t:=45) rfl (congrArg Value.bool hcj)
 refine sg0 hS 3 [] [48] [.bool false] [] (by kernel_rfl) fun s hS=>(KW.nil ?_)
 exact(hS.know (t:=48) (u':= .bool (((y52.toNat:Int) != ((32:UInt8).toNat:Int))&&((y52.toNat:Int) != ((48:UInt8).toNat:Int)))) rfl (bx hcj)).subR rfl
 refine KW.nil (bc h32 (fun hc54 h32=>?_) fun hc54 h32=>?_)
 refine WW.condK hS rfl hc54 (WW.seq ?_)
 refine WW.seq (WW.region ?_)
 obtain⟨y55,hy55,h32⟩:=bind_some h32
 refine cK (g_v.ok hy55 (hI.mono hF3) h10 h6) hS 2 51 5 rfl (by kernel_rfl) fun s v S' F57 hp56 hF hS=>?_
 obtain⟨a58,z59,B61,a62,z63,B65,hF66,rfl,rfl,h60,h64⟩:=hp56
 refine sg0 hS 1 [] [7] [.int .i64 y55.1] [] (by kernel_rfl) fun s hS=>(KW.nil ?_)
 refine WW.seq (WW.region ?_)
 refine sg0 hS 2 [] [53] [.bool (y55.1 != 0)] [] (by kernel_rfl) fun s hS=>(KW.nil ?_)
 refine bc h32 (fun hc67 h32=>?_) fun hc67 h32=>?_
 refine WW.condK hS rfl hc67 (WW.seq ?_)
 refine WW.region (sg0 hS 4 [] [2,3] [.int .i64 x1.1,.int .i64 y55.1] [] (by kernel_rfl) fun s hS=>?_)
 refine KW.nil (WW.ret ?_)
 replace hS:=hS.pull 4
 obtain⟨F68,hF69,hS,hz70⟩:=hS.frzO h60
 cases h32
 exact⟨_,rfl,rfl,eB hS (.inr rfl) 2 3 rfl rfl rfl ⟨_,_,_,_,_,_,_,_,((FLe.trans hF3 (FLe.trans hF66 hF69))),rfl,rfl,hz70,(h64.mono hF69),(h14.mono (FLe.trans hF66 hF69))⟩⟩
 refine WW.condF hS rfl hc67 (WW.skip ?_)
 refine WW.exit (af ?_)
 refine ah (WW.region ?_)
 refine sg0 hS 2 [] [19] [.int .i64 (w64 (x1.1+1))] [] (by kernel_rfl) fun s hS=>(KW.nil ?_)
 obtain rfl:=Option.some.inj h32
 exact⟨_,rfl,_,_,_,_,_,_,_,_,_,_,(hS.subR rfl),h60,h64,(h14.mono hF66),(FLe.trans hF3 hF66)⟩
 refine WW.condF hS rfl hc54 (WW.skip ?_)
 refine WW.seq (WW.seq ?_)
 refine WW.region ?_
 obtain⟨y71,hy71,h32⟩:=bind_some h32
 refine cK (g_u.ok hy71 h14 h6) hS 1 57 5 rfl (by kernel_rfl) fun s v S' F73 hp72 hF hS=>?_
 obtain⟨a74,z75,a77,z78,B80,hF81,rfl,rfl,h76,h79⟩:=hp72
 refine sg0 hS 1 [] [8] [.int .i64 y71.1] [] (by kernel_rfl) fun s hS=>(KW.nil ?_)
 refine WW.seq (WW.region ?_)
 refine sg0 hS 2 [] [59] [.bool (y71.1 != 0)] [] (by kernel_rfl) fun s hS=>(KW.nil ?_)
 refine bc h32 (fun hc82 h32=>?_) fun hc82 h32=>?_
 refine WW.condK hS rfl hc82 (WW.seq ?_)
 refine WW.region (sg0 hS 7 [0] [2,3] [.int .i64 x1.2.2.1,.int .i64 y71.1] [iB] (by kernel_rfl) fun s hS=>?_)
 refine KW.nil (WW.ret ?_)
 cases h32
 exact⟨_,rfl,rfl,eB hS (.inr rfl) 2 3 rfl rfl rfl ⟨_,_,_,_,_,_,_,_,((FLe.trans hF3 hF81)),rfl,rfl,h76,(h10.mono hF81),h79⟩⟩
 refine WW.condF hS rfl hc82 (WW.skip ?_)
 refine WW.seq (WW.region ?_)
 obtain⟨y83,hy83,h32⟩:=bind_some h32
 refine cR (g_1d.ok hy83) hS 1 67 0 rfl (by kernel_rfl) fun s hS=>(sg0 hS 5 [] [9,10] [.int .i64 y83.1,.int .i64 y83.2] [] (by kernel_rfl) fun s hS=>?_)
 refine KW.nil (WW.seq ?_)
 refine WW.seq (WW.region ?_)
 refine sg0 hS 2 [] [71] [.bool (y83.2 != 0)] [] (by kernel_rfl) fun s hS=>(KW.nil ?_)
 refine bc h32 (fun hc85 h32=>?_) fun hc85 h32=>?_
 refine WW.condK hS rfl hc85 (WW.seq ?_)
 refine WW.region (sg0 hS 4 [] [2,3] [.int .i64 x1.1,.int .i64 y83.2] [] (by kernel_rfl) fun s hS=>?_)
 refine KW.nil (WW.ret ?_)
 cases h32
 exact⟨_,rfl,rfl,eB hS (.inr rfl) 2 3 rfl rfl rfl ⟨_,_,_,_,_,_,_,_,((FLe.trans hF3 hF81)),rfl,rfl,h76,(h10.mono hF81),h79⟩⟩
 refine WW.condF hS rfl hc85 (WW.skip ?_)
 refine WW.seq (WW.region ?_)
 refine sg hS 22 [0,0,0,0,0] [] [] [iB,iB,iB,iB,iB] [[(iB,.row [.pointer (some ⟨iC,0,none⟩),.bool true,.int .i64 x1.1,.int .i64 0,.int .i64 y83.1,.slice none 0 0] 132 0 true)],[(iC,.row [.slice (some ⟨i40,of41,none⟩) pC.length zH,.slice a8 x1.2.2.2.2.2.2.1.length z9,.slice a77 y71.2.2.2.length z78] 95 0 true)],B11,B80] (by kernel_rfl) fun s hS=>(KW.nil ?_)
 refine WW.seq (WW.regionD (i:=[[],[],[],[],[3,2,1,0],[3,2,1,0],[3,2,1,0],[3,2,1,0],[3,2,1,0],[3,2,1,0],[3,2,1,0],[10,9,8,7,6,5,4,3,2,1,0],[3,2,1,0],[],[],[]]) (by kernel_rfl) ?_)
 have hq:=RS.start [iB,iC]
 refine kg hS hq 3 [93] [.pointer (some ⟨iB,0,none⟩)] (by kernel_rfl) fun s rs hS hq=>(K.ld hS hq rfl (wn rfl) rfl rfl rfl (hS.at (k:=0) rfl) ig (v:= .pointer (some ⟨iC,0,none⟩)) rfl 0 rfl rfl fun s rs hS hq=>?_)
 refine kg hS hq 3 [97] [.pointer (some ⟨iB,0,none⟩)] (by kernel_rfl) fun s rs hS hq=>(K.ld hS hq rfl (wn rfl) rfl rfl rfl (hS.at (k:=0) rfl) ig (v:= .pointer (some ⟨iC,0,none⟩)) rfl 0 rfl rfl fun s rs hS hq=>?_)
 refine kg hS hq 2 [100] [.pointer (some ⟨iC,1,none⟩)] (by kernel_rfl) fun s rs hS hq=>(K.ld hS hq rfl (wn rfl) rfl rfl rfl (hS.at (k:=1) rfl) r4 (v:= .slice a8 x1.2.2.2.2.2.2.1.length z9) rfl 1 rfl rfl fun s rs hS hq=>?_)
 refine K.nw hS hq rfl (wn rfl) rfl rfl rfl (v:=fun i=> .slice (some ⟨i,0,none⟩) 1 1) (b:= .row [.int .i64 1] 3 1 true) (be ko tz3 km rfl [(0,.int .i64 1)] (ar hS rfl) rfl) [0,1] (aZ rfl mm0 (aZ rfl (mm1 mm0) bv)) rfl rfl rfl fun s rs i86 hS hq=>?_
 have hC87:au (elI .i64 3) F73 ([1]:List Int) [.int .i64 1]:=⟨[.int .i64 1],[],rfl,rfl,rfl⟩
 obtain⟨hk91,h32⟩:=ac h32
 replace hS:=hS.pull 3
 replace hS:=hS.pull 1
 refine K.app [] hS hq rfl (wn rfl) (dd:=(elI .i64 3)) (lst:=x1.2.2.2.2.2.2.1) (m:=([1]:List Int)) rfl rfl cZ rfl rfl (h10.mono hF81) (Nat.succ_pos _) hC87 hk91 [0,1] rfl rfl (aZ rfl mm0 (aZ rfl (mm1 mm0) bv)) fun s rs i88 cs89 hC90 hS hq=>(kg hS hq 2 [105] [.pointer (some ⟨iC,1,none⟩)] (by kernel_rfl) fun s rs hS hq=>?_)
 refine K.sto hS hq rfl (wn rfl) rfl rfl rfl rfl (p:=2) rfl sa rfl [.slice (some ⟨i40,of41,none⟩) pC.length zH,.slice (some ⟨i88,0,none⟩) (x1.2.2.2.2.2.2.1++([1]:List Int)).length 1,.slice a77 y71.2.2.2.length z78] rfl [0] rfl (aZ rfl (mm1 mm0) bv) fun s rs hS hq=>(KW.nil ?_)
 refine WW.region ?_
 replace hS:=hS.gap0
 obtain⟨y92,hy92,h32⟩:=bind_some h32
 replace hS:=hS.pull 4
 replace hS:=hS.pull 2
 replace hS:=hS.pull 4
 replace hS:=hS.pull 4
 replace hS:Stt EV s _ [[(iB,.row [.pointer (some ⟨iC,0,none⟩),.bool true,.int .i64 x1.1,.int .i64 0,.int .i64 y83.1,.slice none ([]:List (UInt8×Int×Int×Int)).length 0] 132 0 true)],[(iC,.row [.slice (some ⟨i40,of41,none⟩) pC.length zH,.slice (some ⟨i88,0,none⟩) (x1.2.2.2.2.2.2.1++([1]:List Int)).length 1,.slice a77 y71.2.2.2.length z78] 95 0 true)],[(i88,.row cs89 3 1 true)],B80,[]] _ L _ _:=hS
 refine cK (g_x.ok hy92 (hI.mono (FLe.trans hF3 hF81)) Own.nil) hS 2 108 5 rfl (by kernel_rfl) fun s v S' F' hp93 hF hS=>?_
 obtain⟨a94,z95,B97,rfl,rfl,rfl,h96⟩:=hp93
 refine KW.nil (WW.region ?_)
 refine sg0 hS 2 [] [19] [.int .i64 (w64 (x1.1+1))] [] (by kernel_rfl) fun s hS=>(KW.nil ?_)
 obtain rfl:=Option.some.inj h32
 exact⟨_,rfl,_,_,_,_,_,_,_,_,_,_,(hS.subR rfl),h96,(Own.blk0 hC90),h79,(FLe.trans hF3 hF81)⟩
 refine WW.condF hS rfl hc33 (WW.exit ?_)
 refine af ?_
 obtain rfl:=Option.some.inj h32
 exact⟨_,rfl,rfl,_,_,_,_,_,_,_,_,_,_,(hS.subR rfl),h6,h10,h14,hF3⟩
 clear hS
 rcases o16 with y98 | y98
 rintro e s ⟨rfl,a101,z102,B104,a105,z106,B108,a109,z110,B112,F99,hS,h103,h107,h111,hF100⟩
 replace h:=aB h
 refine ah (WW.seq ?_)
 refine WW.regionD (i:=[[],[],[],[],[3,2,1,0],[3,2,1,0],[],[]]) (by kernel_rfl) ?_
 have hq:=RS.start [iB,iC]
 refine kg hS hq 3 [112] [.pointer (some ⟨iB,2,none⟩)] (by kernel_rfl) fun s rs hS hq=>(K.ldX hS hq rfl (wn rfl) rfl rfl rfl (hS.at (k:=0) rfl) tg3 (v:= .int .i64 y98.2.2.1) rfl 0 rfl rfl fun s rs hS hq hL=>?_)
 refine K.puX hS hq hL rfl (wn rfl) rfl rfl rfl (v:= .pointer (some ⟨iB,0,none⟩)) (eP (hS.lk rfl)) fun s rs hS hq hL=>?_
 obtain⟨y113,hy113,h⟩:=bind_some h
 refine K.clX hS hq hL rfl (wn rfl) (vs:=[.pointer (some ⟨iB,0,none⟩)]) (ws:=[.pointer (some ⟨iB,0,none⟩)]) rfl rfl rfl rfl rfl 5 rfl (g_u.ok hy113 h111 h103) (by decide) tg3 (by first | exact sm_int | exact sm_bool) (by rintro _ _ _ ⟨_,_,_,_,_,_,rfl,rfl,_,_⟩; exact⟨0,_,_,_,_,Nat.le_of_ble_eq_true rfl,rfl,rfl⟩) fun s rs v S' F115 hp114 hF hS hq=>?_
 obtain⟨a116,z117,a119,z120,B122,hF123,rfl,rfl,h118,h121⟩:=hp114
 refine kg hS hq 2 [2,3] [.int .i64 y98.2.2.1,.int .i64 y113.1] (by kernel_rfl) fun s rs hS hq=>(KW.nil ?_)
 refine WW.ret ?_
 cases h
 exact eB hS (.inr rfl) 2 3 rfl rfl rfl ⟨_,_,_,_,_,_,_,_,((FLe.trans hF100 hF123)),rfl,rfl,h118,(h107.mono hF123),h121⟩
 rintro e s ⟨rfl,hfin⟩
 replace h:=aj h
 obtain rfl:=Option.some.inj h
 exact hfin
noncomputable def g_1i.f (pA:List UInt8) (pB:Bool) (pC:List (List UInt8)):Option ((Option (List (List UInt8)×List Int×(List (Int×List UInt8×(List (Int×Int×Int))))))×Int×Int) :=
  Option.bind (g_p.f pA pB pC) fun y2=>(if(y2.2 != 0) then some (none,y2.1,y2.2) else Option.bind ((if pB then Option.bind (g_14.f pC ([]:List Int) ([]:List (Int×List UInt8×(List (Int×Int×Int)))) ([]:List (UInt8×Int×Int×Int)) 0 false 0 false 0 0 0 0 0) fun y21=>some (y21.1,y21.2.1,y21.2.2.2.2.2.2.2.2.2.2.2.2.1,y21.2.2.2.2.2.2.2.2.2.2.2.2.2) else Option.bind (g_w.f pC ([]:List Int) ([]:List (Int×List UInt8×(List (Int×Int×Int)))) false 0 0 0 ([]:List (UInt8×Int×Int×Int))) fun y38=>some (y38.1,y38.2.1,y38.2.2.2.2.2.2.2.1,y38.2.2.2.2.2.2.2.2))) fun z8=>(if(z8.2.1 != 0) then some (none,z8.1,z8.2.1) else some ((some (pC,z8.2.2.1,z8.2.2.2)),0,0)))
theorem g_1i.ok {aE:Option Addr} {zH:Nat} {pA:List UInt8} {pB:Bool} {pC:List (List UInt8)} {F:FZ} {r:(Option (List (List UInt8)×List Int×(List (Int×List UInt8×(List (Int×Int×Int))))))×Int×Int} (h:g_1i.f pA pB pC=some r) (hI:Frz (elS 9) F aE zH pC) :
    Cl EV 47 [.agg #[aa pA,.bool pB,.slice aE pC.length zH]] [] F (fun v S' F'=> ∃(rv:Value) (rS:List Seg),FLe F F'∧v= .tuple #[rv,.int .i64 r.2.1,.int .i64 r.2.2]∧S'= []++rS∧((r.1=none∧rv= .pointer none∧rS= [])∨(∃(rq:List (List UInt8)×List Int×(List (Int×List UInt8×(List (Int×Int×Int))))) (ri1:Nat) (ra2:Option Addr) (rz3:Nat) (ra5:Option Addr) (rz6:Nat) (rB8:Seg) (ra9:Option Addr) (rz10:Nat) (rB12:Seg),r.1=some rq∧rv= .pointer (some ⟨ri1,0,none⟩)∧rS= [[(ri1,.row [.slice ra2 rq.1.length rz3,.slice ra5 rq.2.1.length rz6,.slice ra9 rq.2.2.length rz10] 95 0 true)],rB8,rB12]∧Frz (elS 9) F' ra2 rz3 rq.1∧Own (elI .i64 3) F' ra5 rz6 rq.2.1 rB8∧Own bs F' ra9 rz10 rq.2.2 rB12))):=by
 refine Cl.of Tryz.func47 rfl (fun _ _=>rfl) (by kernel_rfl) fun s L nx0 hS=>?_
 unfold g_1i.f at h
 refine WW.seq (WW.region ?_)
 refine bf hS (wn rfl) rfl rfl rfl (v:=fun i=> .pointer (some ⟨i,0,none⟩)) (b:= .row [aa pA,.bool pB,.slice aE pC.length zH] 38 0 true) (br (hS.lk rfl) rfl [aa pA,.bool pB,.slice aE pC.length zH] rfl) fun s i1 hS=>(sg0 hS 3 [] [2,3,4] [.pointer none,.int .i64 0,.int .i64 0] [] (by kernel_rfl) fun s hS=>?_)
 refine KW.nil (WW.seq ?_)
 refine WW.seq (WW.region ?_)
 refine sg0 hS 1 [0] [11] [.agg #[aa pA,.bool pB,.slice aE pC.length zH]] [i1] (by kernel_rfl) fun s hS=>?_
 obtain⟨y2,hy2,h⟩:=bind_some h
 refine bE hS (wn rfl) (vs:=[.agg #[aa pA,.bool pB,.slice aE pC.length zH]]) (ws:=[.agg #[aa pA,.bool pB,.slice aE pC.length zH]]) rfl rfl rfl rfl rfl 0 rfl (g_p.ok hy2 hI) fun s v S' F4 hp3 hF hS=>?_
 obtain⟨hF5,rfl,rfl⟩:=hp3
 refine sg0 hS 5 [] [5,6] [.int .i64 y2.1,.int .i64 y2.2] [] (by kernel_rfl) fun s hS=>(KW.nil ?_)
 refine WW.seq (WW.region ?_)
 refine sg0 hS 2 [] [16] [.bool (y2.2 != 0)] [] (by kernel_rfl) fun s hS=>(KW.nil ?_)
 refine bc h (fun hc6 h=>?_) fun hc6 h=>?_
 refine WW.condK hS rfl hc6 (WW.seq ?_)
 refine WW.region (sg0 hS 5 [] [2,3,4] [.pointer none,.int .i64 y2.1,.int .i64 y2.2] [] (by kernel_rfl) fun s hS=>?_)
 refine KW.nil (WW.ret ?_)
 have hres:=(aM hS (t:=2) (v:= .pointer none) rfl (aM hS (t:=3) (v:= .int .i64 y2.1) rfl (aM hS (t:=4) (v:= .int .i64 y2.2) rfl (aw (E:=EV) (s:=s)))))
 replace hS:=hS.drop
 cases h
 exact fin hS (.inr rfl) hres (v:= .tuple #[.pointer none,.int .i64 y2.1,.int .i64 y2.2]) rfl ⟨_,_,(hF5),rfl,rfl,.inl ⟨rfl,rfl,rfl⟩⟩
 refine WW.condF hS rfl hc6 (WW.skip ?_)
 refine WW.seq (WW.region ?_)
 refine sg0 hS 2 [0] [20] [.slice aE pC.length zH] [i1] (by kernel_rfl) fun s hS=>(am hS (wn rfl) rfl rfl rfl (v:= .agg #[.slice aE pC.length zH,.slice none 0 0,.slice none 0 0]) (bp t0_95 tp95 [(0,.slice aE pC.length zH)] (ar hS rfl) (cs:=[.slice aE pC.length zH,.slice none 0 0,.slice none 0 0]) rfl) fun s hS=>?_)
 refine bf hS (wn rfl) rfl rfl rfl (v:=fun i=> .pointer (some ⟨i,0,none⟩)) (b:= .row [.slice aE pC.length zH,.slice none 0 0,.slice none 0 0] 95 0 true) (br (hS.lk rfl) rfl [.slice aE pC.length zH,.slice none 0 0,.slice none 0 0] rfl) fun s i7 hS=>(sg0 hS 1 [] [7] [.pointer (some ⟨i7,0,none⟩)] [] (by kernel_rfl) fun s hS=>?_)
 refine KW.nil (WW.seq ?_)
 refine WW.region (sg0 hS 2 [] [8,9] [.int .i64 0,.int .i64 0] [] (by kernel_rfl) fun s hS=>?_)
 refine KW.nil ?_
 obtain⟨z8,hz8,h⟩:=bind_some h
 refine WW.seqJ (fun s=> ∃(a11:Option Addr) (z12:Nat) (B14:Seg) (a15:Option Addr) (z16:Nat) (B18:Seg) (F9:FZ),Stt EV s [(2,.pointer none),(3,.int .i64 0),(4,.int .i64 0),(7,.pointer (some ⟨i7,0,none⟩)),(8,.int .i64 z8.1),(9,.int .i64 z8.2.1)] [B18,B14,[(i7,.row [.slice aE pC.length zH,.slice a11 z8.2.2.1.length z12,.slice a15 z8.2.2.2.length z16] 95 0 true)],[(i1,.row [aa pA,.bool pB,.slice aE pC.length zH] 38 0 true)]] F9 L F nx0∧Own (elI .i64 3) F9 a11 z12 z8.2.2.1 B14∧Own bs F9 a15 z16 z8.2.2.2 B18∧FLe F4 F9) ?_ ?_
 refine WW.seq (WW.region ?_)
 refine sg0 hS 2 [1] [24] [.bool pB] [i1] (by kernel_rfl) fun s hS=>(KW.nil ?_)
 refine bc hz8 (fun hc19 hz8=>?_) fun hc19 hz8=>?_
 refine WW.condK hS rfl hc19 (WW.region ?_)
 refine sg0 hS 1 [] [26] [.pointer (some ⟨i7,0,none⟩)] [] (by kernel_rfl) fun s hS=>(am hS (wn rfl) rfl rfl rfl (v:= .agg #[.pointer (some ⟨i7,0,none⟩),.slice none 0 0,vB 0,.bool false,.int .i64 0,.bool false,.int .i64 0,.int .i64 0,.int .i64 0,.int .i64 0,.int .i64 0]) (bp t0_128 tp128 [(0,.pointer (some ⟨i7,0,none⟩))] (ar hS rfl) (cs:=[.pointer (some ⟨i7,0,none⟩),.slice none 0 0,vB 0,.bool false,.int .i64 0,.bool false,.int .i64 0,.int .i64 0,.int .i64 0,.int .i64 0,.int .i64 0]) rfl) fun s hS=>?_)
 refine bf hS (wn rfl) rfl rfl rfl (v:=fun i=> .pointer (some ⟨i,0,none⟩)) (b:= .row [.pointer (some ⟨i7,0,none⟩),.slice none 0 0,vB 0,.bool false,.int .i64 0,.bool false,.int .i64 0,.int .i64 0,.int .i64 0,.int .i64 0,.int .i64 0] 128 0 true) (br (hS.lk rfl) rfl [.pointer (some ⟨i7,0,none⟩),.slice none 0 0,vB 0,.bool false,.int .i64 0,.bool false,.int .i64 0,.int .i64 0,.int .i64 0,.int .i64 0,.int .i64 0] rfl) fun s i20 hS=>?_
 replace hS:=hS.gap0
 replace hS:=hS.gap0
 replace hS:=hS.gap0
 obtain⟨y21,hy21,hz8⟩:=bind_some hz8
 replace hS:=hS.pull 1
 replace hS:=hS.pull 2
 replace hS:=hS.pull 4
 replace hS:=hS.pull 4
 refine cK (g_14.ok hy21 (hI.mono hF5) Own.nil Own.nil Own.nil) hS 0 29 5 rfl (by kernel_rfl) fun s v S' F23 hp22 hF hS=>?_
 obtain⟨a24,z25,B27,a28,z29,B31,a32,z33,B35,hF36,rfl,rfl,h26,h30,h34⟩:=hp22
 refine sg0 hS 5 [] [8,9] [.int .i64 y21.1,.int .i64 y21.2.1] [] (by kernel_rfl) fun s hS=>(KW.nil ?_)
 replace hS:=hS.drop
 replace hS:=(hS.pull 3).drop
 replace hS:=hS.pull 3
 replace hS:=hS.pull 1
 replace hS:=hS.pull 2
 replace hS:=hS.pull 3
 obtain rfl:=Option.some.inj hz8
 exact⟨_,_,_,_,_,_,_,(hS.subR rfl),h30,h34,hF36⟩
 refine WW.condF hS rfl hc19 (WW.region ?_)
 refine sg0 hS 1 [] [33] [.pointer (some ⟨i7,0,none⟩)] [] (by kernel_rfl) fun s hS=>(am hS (wn rfl) rfl rfl rfl (v:= .agg #[.pointer (some ⟨i7,0,none⟩),.bool false,.int .i64 0,.int .i64 0,.int .i64 0,.slice none 0 0]) (bp t0_132 tp132 [(0,.pointer (some ⟨i7,0,none⟩))] (ar hS rfl) (cs:=[.pointer (some ⟨i7,0,none⟩),.bool false,.int .i64 0,.int .i64 0,.int .i64 0,.slice none 0 0]) rfl) fun s hS=>?_)
 refine bf hS (wn rfl) rfl rfl rfl (v:=fun i=> .pointer (some ⟨i,0,none⟩)) (b:= .row [.pointer (some ⟨i7,0,none⟩),.bool false,.int .i64 0,.int .i64 0,.int .i64 0,.slice none 0 0] 132 0 true) (br (hS.lk rfl) rfl [.pointer (some ⟨i7,0,none⟩),.bool false,.int .i64 0,.int .i64 0,.int .i64 0,.slice none 0 0] rfl) fun s i37 hS=>?_
 replace hS:=hS.gap0
 replace hS:=hS.gap0
 replace hS:=hS.gap0
 obtain⟨y38,hy38,hz8⟩:=bind_some hz8
 replace hS:=hS.pull 1
 replace hS:=hS.pull 2
 replace hS:=hS.pull 4
 replace hS:=hS.pull 4
 refine cK (g_w.ok hy38 (hI.mono hF5) Own.nil Own.nil Own.nil) hS 0 36 5 rfl (by kernel_rfl) fun s v S' F40 hp39 hF hS=>?_
 obtain⟨a41,z42,a44,z45,B47,a48,z49,B51,hF52,rfl,rfl,h43,h46,h50⟩:=hp39
 refine sg0 hS 5 [] [8,9] [.int .i64 y38.1,.int .i64 y38.2.1] [] (by kernel_rfl) fun s hS=>(KW.nil ?_)
 replace hS:=hS.drop
 replace hS:=hS.pull 3
 replace hS:=hS.pull 1
 replace hS:=hS.pull 2
 replace hS:=hS.pull 3
 obtain rfl:=Option.some.inj hz8
 exact⟨_,_,_,_,_,_,_,(hS.subR rfl),h46,h50,hF52⟩
 rintro s ⟨a11,z12,B14,a15,z16,B18,F9,hS,h13,h17,hF10⟩
 refine WW.seq (WW.seq ?_)
 refine WW.region (sg0 hS 2 [] [40] [.bool (z8.2.1 != 0)] [] (by kernel_rfl) fun s hS=>?_)
 refine KW.nil (bc h (fun hc53 h=>?_) fun hc53 h=>?_)
 refine WW.condK hS rfl hc53 (WW.seq ?_)
 refine WW.region (sg0 hS 5 [] [2,3,4] [.pointer none,.int .i64 z8.1,.int .i64 z8.2.1] [] (by kernel_rfl) fun s hS=>?_)
 refine KW.nil (WW.ret ?_)
 have hres:=(aM hS (t:=2) (v:= .pointer none) rfl (aM hS (t:=3) (v:= .int .i64 z8.1) rfl (aM hS (t:=4) (v:= .int .i64 z8.2.1) rfl (aw (E:=EV) (s:=s)))))
 replace hS:=hS.drop
 replace hS:=hS.drop
 replace hS:=hS.drop
 replace hS:=hS.drop
 cases h
 exact fin hS (.inr rfl) hres (v:= .tuple #[.pointer none,.int .i64 z8.1,.int .i64 z8.2.1]) rfl ⟨_,_,((FLe.trans hF5 hF10)),rfl,rfl,.inl ⟨rfl,rfl,rfl⟩⟩
 refine WW.condF hS rfl hc53 (WW.skip ?_)
 refine WW.seq (WW.region ?_)
 refine sg0 hS 4 [] [2,3,4] [.pointer (some ⟨i7,0,none⟩),.int .i64 0,.int .i64 0] [] (by kernel_rfl) fun s hS=>(KW.nil ?_)
 refine WW.ret ?_
 have hres:=(aM hS (t:=2) (v:= .pointer (some ⟨i7,0,none⟩)) rfl (aM hS (t:=3) (v:= .int .i64 0) rfl (aM hS (t:=4) (v:= .int .i64 0) rfl (aw (E:=EV) (s:=s)))))
 replace hS:=(hS.pull 3).drop
 replace hS:=hS.pull 1
 replace hS:=hS.pull 2
 cases h
 exact fin hS (.inr rfl) hres (v:= .tuple #[.pointer (some ⟨i7,0,none⟩),.int .i64 0,.int .i64 0]) rfl ⟨_,_,((FLe.trans hF5 hF10)),rfl,rfl,.inr ⟨_,_,_,_,_,_,_,_,_,_,rfl,rfl,rfl,(hI.mono (FLe.trans hF5 hF10)),h13,h17⟩⟩
end Go.Proofs.YtjcbhbncncbdjaaGreatDoorAi
