import Derived.Test.YtcafgoomipkljaaGreatDoorApE
/-
Functions of the program, told in Lean, and the proofs that their runs come to these answers (printed by ap.py, a program of this session).
-/
namespace Go.Proofs.YtcafgoomipkljaaGreatDoorAi
set_option maxHeartbeats 4000000
open Go Go.RowKit
set_option linter.unusedVariables false
set_option linter.unusedSimpArgs false
set_option maxRecDepth 100000
theorem ta:aV EV.P 101=some [aa [],aa [],aa [],aa [],aa [],aa [],aa [],aa [],aa [],aa [],aa [],aa [],aa [],aa [],aa [],aa [],aa [],aa [],aa [],aa [],aa [],aa [],aa [],aa [],aa [],aa [],aa [],aa [],aa [],aa [],aa [],aa [],aa [],aa [],aa [],aa [],aa [],aa [],aa [],aa [],aa [],aa [],aa [],aa []]:=by kernel_rfl
theorem dw:aV EV.P 24=some [.int .i64 0,.int .i64 0,.slice none 0 0]:=by kernel_rfl
theorem t0_28:aV EV.P 28=some [.int .i64 0]:=by kernel_rfl
theorem gp:aV EV.P 3=some [.int .i64 0]:=by kernel_rfl
theorem t0_4:aV EV.P 4=some [.bool false]:=by kernel_rfl
theorem t0_5:aV EV.P 5=some [.int .u8 0]:=by kernel_rfl
theorem fV:aV EV.P 50=some [.int .i64 0,.int .i64 0]:=by kernel_rfl
theorem jb:aV EV.P 73=some [aa [],aa [],.slice none 0 0,.slice none 0 0,.int .i64 0]:=by kernel_rfl
theorem t0_81:aV EV.P 81=some [.pointer none,.slice none 0 0]:=by kernel_rfl
theorem t0_9:aV EV.P 9=some [aa []]:=by kernel_rfl
theorem t0_94:aV EV.P 94=some [aa [],.slice none 0 0,.slice none 0 0,.slice none 0 0,.slice none 0 0]:=by kernel_rfl
theorem t0_99:aV EV.P 99=some [aa [],.slice none 0 0,.int .i64 0,.slice none 0 0,.bool false]:=by kernel_rfl
theorem dl:ApT EV.P #[22,22] 3 1:=lE (t:=22) (t2:=22) rfl rfl (by kernel_rfl) (u:=(.slice 3)) (by kernel_rfl) rfl (by kernel_rfl) (by kernel_rfl) (by decide)
theorem mA:ApT EV.P #[36,36] 24 3:=lE (t:=36) (t2:=36) rfl rfl (by kernel_rfl) (u:=(.slice 24)) (by kernel_rfl) rfl (by kernel_rfl) (by kernel_rfl) (by decide)
theorem jw:ApT EV.P #[46,46] 50 2:=lE (t:=46) (t2:=46) rfl rfl (by kernel_rfl) (u:=(.slice 50)) (by kernel_rfl) rfl (by kernel_rfl) (by kernel_rfl) (by decide)
theorem ta49_49:ApT EV.P #[49,49] 4 1:=lE (t:=49) (t2:=49) rfl rfl (by kernel_rfl) (u:=(.slice 4)) (by kernel_rfl) rfl (by kernel_rfl) (by kernel_rfl) (by decide)
theorem ta79_79:ApT EV.P #[79,79] 5 1:=lE (t:=79) (t2:=79) rfl rfl (by kernel_rfl) (u:=(.slice 5)) (by kernel_rfl) rfl (by kernel_rfl) (by kernel_rfl) (by decide)
theorem ta79_9:ApT EV.P #[79,9] 5 1:=lE (t:=79) (t2:=9) rfl rfl (by kernel_rfl) (u:= .string) (by kernel_rfl) rfl (by kernel_rfl) (by kernel_rfl) (by decide)
theorem tb5:bX EV.P 5=true:=by kernel_rfl
theorem tc:cN EV.P 103=some 1:=by kernel_rfl
theorem te137:cN EV.P 137=some 1:=by kernel_rfl
theorem dj:cN EV.P 22=some 1:=by kernel_rfl
theorem oT:cN EV.P 36=some 3:=by kernel_rfl
theorem te46:cN EV.P 46=some 2:=by kernel_rfl
theorem td:cN EV.P 49=some 1:=by kernel_rfl
theorem te79:cN EV.P 79=some 1:=by kernel_rfl
theorem te:fieldAt EV.P 24 0=some (0,1,3):=by kernel_rfl
theorem tg101:(EV.P.underlying 101).map cL=some true:=by kernel_rfl
theorem fL:(EV.P.underlying 22).map cL=some false:=by kernel_rfl
theorem jp:(EV.P.underlying 24).map cL=some true:=by kernel_rfl
theorem tg28:(EV.P.underlying 28).map cL=some false:=by kernel_rfl
theorem tg3:(EV.P.underlying 3).map cL=some false:=by kernel_rfl
theorem tg4:(EV.P.underlying 4).map cL=some false:=by kernel_rfl
theorem tg46:(EV.P.underlying 46).map cL=some false:=by kernel_rfl
theorem tg49:(EV.P.underlying 49).map cL=some false:=by kernel_rfl
theorem tg5:(EV.P.underlying 5).map cL=some false:=by kernel_rfl
theorem tg50:(EV.P.underlying 50).map cL=some true:=by kernel_rfl
theorem kZ:(EV.P.underlying 73).map cL=some true:=by kernel_rfl
theorem tg79:(EV.P.underlying 79).map cL=some false:=by kernel_rfl
theorem tg9:(EV.P.underlying 9).map cL=some false:=by kernel_rfl
theorem ti4:(EV.P.info? 4).map (fun i=>(i.size,Nat.ble i.bytes 140000))=some (1,true):=by kernel_rfl
theorem tl9:aD EV.P (isAgg 9)=some false:=by kernel_rfl
theorem tn83neq: ∀{nx:Nat} {ty:TypeId} {ρ:Operand→Value} {b:Option Blk} {x:Operand} {u:TypeId} {p:Bool} (hx:ρ x=sO 157 p) (hy:ρ (.const .nilIface)= .nilIface),al (.binOp .neq 83 x (.const .nilIface) u) EV.P nx ty ρ b=some (.bool p,.none):=by
  intro nx ty ρ b x u p hx hy
  show aA (ij EV.P .neq 83 x (.const .nilIface) (ρ x) (ρ (.const .nilIface)))=_
  rw[hx,hy]
  cases p
  · show aA (bGen EV.P .neq 83 x (.const .nilIface) .nilIface .nilIface)=_
    cases x<;>kernel_rfl
  · kernel_rfl
theorem oU:rh EV.P 24=some [(0,1),(1,1),(2,1)]:=by kernel_rfl
theorem tp73:rh EV.P 73=some [(0,1),(1,1),(2,1),(3,1),(4,1)]:=by kernel_rfl
theorem tp94:rh EV.P 94=some [(0,1),(1,1),(2,1),(3,1),(4,1)]:=by kernel_rfl
theorem tp99:rh EV.P 99=some [(0,1),(1,1),(2,1),(3,1),(4,1)]:=by kernel_rfl
theorem tq4eql: ∀{nx:Nat} {ty:TypeId} {ρ:Operand→Value} {b:Option Blk} {x y:Operand} {u:TypeId} {p q:Bool} (hx:ρ x= .bool p) (hy:ρ y= .bool q),al (.binOp .eql 4 x y u) EV.P nx ty ρ b=some (.bool (p==q),.none):=by
  intro nx ty ρ b x y u p q hx hy
  show aA (ij EV.P .eql 4 x y (ρ x) (ρ y))=_
  rw[hx,hy]
  cases p<;>cases q<;>kernel_rfl
theorem ts9:aD EV.P (sizeOf 9)=some 1:=by kernel_rfl
theorem tu101:EV.P.underlying 101=some (.array 44 9):=by kernel_rfl
theorem tu103:EV.P.underlying 103=some (.slice 9):=by kernel_rfl
theorem tu137:EV.P.underlying 137=some (.slice 28):=by kernel_rfl
theorem tu21:EV.P.underlying 21=some (.int .i32):=by kernel_rfl
theorem iM:EV.P.underlying 22=some (.slice 3):=by kernel_rfl
theorem tu3:EV.P.underlying 3=some (.int .i64):=by kernel_rfl
theorem tu36:EV.P.underlying 36=some (.slice 24):=by kernel_rfl
theorem tu46:EV.P.underlying 46=some (.slice 50):=by kernel_rfl
theorem tu49:EV.P.underlying 49=some (.slice 4):=by kernel_rfl
theorem tu5:EV.P.underlying 5=some (.int .u8):=by kernel_rfl
theorem tf:EV.P.underlying 50=some (.array 2 3):=by kernel_rfl
theorem jq:EV.P.underlying 79=some (.slice 5):=by kernel_rfl
theorem tu9:EV.P.underlying 9=some .string:=by kernel_rfl
theorem tv101:aD EV.P (underlying 101)=some (.array 44 9):=by kernel_rfl
theorem ty50:gv EV.P 50=some (2,1):=by kernel_rfl
theorem tz101:bh EV.P 101=some 44:=by kernel_rfl
theorem tz22:bh EV.P 22=some 1:=by kernel_rfl
theorem g6:bh EV.P 24=some 3:=by kernel_rfl
theorem tz28:bh EV.P 28=some 1:=by kernel_rfl
theorem tz3:bh EV.P 3=some 1:=by kernel_rfl
theorem tz4:bh EV.P 4=some 1:=by kernel_rfl
theorem tz46:bh EV.P 46=some 1:=by kernel_rfl
theorem tz49:bh EV.P 49=some 1:=by kernel_rfl
theorem tz5:bh EV.P 5=some 1:=by kernel_rfl
theorem ro:bh EV.P 50=some 2:=by kernel_rfl
theorem iN:bh EV.P 73=some 5:=by kernel_rfl
theorem tz79:bh EV.P 79=some 1:=by kernel_rfl
theorem tz9:bh EV.P 9=some 1:=by kernel_rfl
def tb:Tab:=⟨[((24,0),(0,1,3)),((24,1),(1,1,3)),((24,2),(2,1,22)),((73,0),(0,1,9)),((73,1),(1,1,9)),((73,2),(2,1,22)),((73,3),(3,1,46)),((73,4),(4,1,3)),((81,1),(1,1,79)),((94,0),(0,1,9)),((94,1),(1,1,79)),((94,2),(2,1,22)),((94,3),(3,1,49)),((94,4),(4,1,46)),((99,0),(0,1,9)),((99,1),(1,1,22)),((99,2),(2,1,3)),((99,3),(3,1,22)),((99,4),(4,1,4))],[(3,false),(4,false),(5,false),(9,false),(22,false),(24,true),(46,false),(49,false),(73,true),(79,false)],[(3,1),(4,1),(9,1),(22,1),(24,3),(46,1),(50,2),(73,5),(79,1),(101,44)],[22,36,46,49,79,103,137],[9]⟩
theorem tg:tb.ok EV.P:=Tab.ok_of (by kernel_rfl) (by kernel_rfl) (by kernel_rfl) (by kernel_rfl) (by kernel_rfl)
section
variable {ops:Array Oper} {Q:St→Prop} {kn:Kn} {S L:List Seg} {F F0:FZ} {nx0:Nat} {l:List Oper} {s:St}
theorem sg (hS:Stt EV s kn S F L F0 nx0) (n:Nat) (hs ts:List Nat) (vs:List Value) (is:List Nat) (S':List Seg) (h:qh tb EV.NG ops kn S (l.take n) hs ts=some (vs.map some,S',is,is,true))
    (k: ∀s',Stt EV s' (my ts vs kn) S' F L F0 nx0→QW EV (l.drop n) ops s' Q):QW EV l ops s Q:=qi tg hS n hs ts vs is S' h k
theorem sg0 (hS:Stt EV s kn S F L F0 nx0) (n:Nat) (hs ts:List Nat) (vs:List Value) (is:List Nat) (h:qh tb EV.NG ops kn S (l.take n) hs ts=some (vs.map some,S,is,is,true))
    (k: ∀s',Stt EV s' (my ts vs kn) S F L F0 nx0→QW EV (l.drop n) ops s' Q):QW EV l ops s Q:=qi tg hS n hs ts vs is S h k
theorem kg {inf:Option (List (List Nat))} {rs:List Rec} {zs:List Nat} {n:Nat} {qs ls:List Nat} {qa qn qd:List (Nat×Nat)} (hS:Stt EV s kn S F L F0 nx0) (hq:RS zs rs n qs ls qa qn qd) (m:Nat) (ts:List Nat) (vs:List Value) (h:syD tb EV.NG ops kn S l inf m ts=some (vs.map some,true,true,true))
    (k: ∀s' rs',Stt EV s' (my ts vs kn) S F L F0 nx0→RS zs rs' (n+m) (upq m n qs) ls qa qn qd→KW EV (l.drop m) ops (nG m inf) rs' s' Q):KW EV l ops inf rs s Q:=K.seg tg hS hq m ts vs h k
theorem cK {g:FuncId} {ws:List Value} {Sc:List Seg} {Φ:Value→List Seg→FZ→Prop} (hT:Cl EV g ws Sc F Φ) (hS:Stt EV s kn S F L F0 nx0) (n d c:Nat) (hc:fT c S=Sc) (h:syC tb EV.NG ops n l kn S=some (g,ws.map some,d,true))
    (k: ∀s' v S' F',Φ v S' F'→FLe F F'→Stt EV s' ((d,v)::kn) (S'++eW c S) F' L F0 nx0→QW EV (l.drop (n+1)) ops s' Q):QW EV l ops s Q:=q_cK hT tg hS n d c hc h k
theorem cR {g:FuncId} {ws:List Value} {Sc S0:List Seg} {v0:Value} (hT:Cl EV g ws Sc F (fun v S' F'=>F=F'∧v=v0∧S'=S0)) (hS:Stt EV s kn S F L F0 nx0) (n d c:Nat) (hc:fT c S=Sc) (h:syC tb EV.NG ops n l kn S=some (g,ws.map some,d,true))
    (k: ∀s',Stt EV s' ((d,v0)::kn) (S0++eW c S) F L F0 nx0→QW EV (l.drop (n+1)) ops s' Q):QW EV l ops s Q:=q_cR hT tg hS n d c hc h k
end
def dk:El (Int×Int):=⟨2,50,fun _ x c=>c= [.int .i64 x.1,.int .i64 x.2],fun h=>by rw[h]; rfl,by decide,fun _ h=>h⟩
def fM:El (Int×Int×List Int):=⟨3,24,fun F x c=> ∃(a2:Option Addr) (z2:Nat),c= [.int .i64 x.1,.int .i64 x.2.1,.slice a2 x.2.2.length z2]∧Frz (elI .i64 3) F a2 z2 x.2.2,fun h=>by obtain⟨a2,z2,rfl,h2⟩:=h; rfl,by decide,fun hf h=>by obtain⟨a2,z2,rfl,h2⟩:=h; exact⟨_,_,rfl,h2.mono hf⟩⟩
noncomputable def g_39.f (pA:Bool) (pB:Int):Option (Int) :=
  (if pA then some 0 else some pB)
theorem g_39.ok {pA:Bool} {pB:Int} {F:FZ} {r:Int} (h:g_39.f pA pB=some r) :
    Cl EV 113 [.bool pA,.int .i64 pB] [] F (fun v S' F'=>F=F'∧v= .int .i64 r∧S'= []):=by
 refine Cl.of Tryz.func113 rfl (fun _ _=>rfl) (by kernel_rfl) fun s L nx0 hS=>?_
 unfold g_39.f at h
 refine WW.seq (WW.region ?_)
 refine sg0 hS 1 [] [4] [.int .i64 0] [] (by kernel_rfl) fun s hS=>(KW.nil ?_)
 refine WW.seq (WW.seq ?_)
 refine WW.region (sg0 hS 1 [] [5] [.bool pA] [] (by kernel_rfl) fun s hS=>?_)
 refine KW.nil (bc h (fun hc1 h=>?_) fun hc1 h=>?_)
 refine WW.condK hS rfl hc1 (WW.seq ?_)
 refine WW.region (sg0 hS 1 [] [4] [.int .i64 0] [] (by kernel_rfl) fun s hS=>?_)
 refine KW.nil (WW.ret ?_)
 cases h
 exact ax hS (.inr rfl) 4 rfl rfl ⟨rfl,rfl,rfl⟩
 refine WW.condF hS rfl hc1 (WW.skip ?_)
 refine WW.seq (WW.region ?_)
 refine sg0 hS 2 [] [4] [.int .i64 pB] [] (by kernel_rfl) fun s hS=>(KW.nil ?_)
 refine WW.ret ?_
 cases h
 exact ax hS (.inr rfl) 4 rfl rfl ⟨rfl,rfl,rfl⟩
noncomputable def g_2y.f (pA:Int) (pC:UInt8):Option (Bool) :=
  some ((decide (pA<(IntKind.i32.wrap (pC.toNat:Int))))||(decide (pA>126)))
theorem g_2y.ok {iC:Nat} {pA:Int} {pC:UInt8} {F:FZ} {r:Bool} (h:g_2y.f pA pC=some r) :
    Cl EV 154 [.int .i32 pA,.pointer (some ⟨iC,0,none⟩)] [[(iC,.row [vB pC] 5 0 true)]] F (fun v S' F'=>F=F'∧v= .bool r∧S'= [[(iC,.row [vB pC] 5 0 true)]]):=by
 refine Cl.of Tryz.func154 rfl (fun _ _=>rfl) (by kernel_rfl) fun s L nx0 hS=>?_
 unfold g_2y.f at h
 refine WW.seq (WW.region ?_)
 refine sg0 hS 1 [] [3] [.bool false] [] (by kernel_rfl) fun s hS=>(KW.nil ?_)
 refine WW.seq (WW.region ?_)
 refine sg0 hS 2 [0] [4,5] [.int .i32 pA,vB pC] [iC] (by kernel_rfl) fun s hS=>(aw hS (wn rfl) rfl rfl (kr hS rfl rfl) (v:= .int .i32 (IntKind.i32.wrap (pC.toNat:Int))) (gU (hS.lk rfl) tu5 tu21) fun s hS=>?_)
 refine sg0 hS 2 [] [8] [.bool (decide (pA<(IntKind.i32.wrap (pC.toNat:Int))))] [] (by kernel_rfl) fun s hS=>(ay 3 (fun s=>Stt EV s [(11,.bool ((decide (pA<(IntKind.i32.wrap (pC.toNat:Int))))||(decide (pA>126)))),(3,.bool false)] [[(iC,.row [vB pC] 5 0 true)]] F L F nx0) ?_ fun s hS=>?_)
 rcases aj ((decide (pA<(IntKind.i32.wrap (pC.toNat:Int))))) with hcj | hcj
 replace hS:=hS.know (t:=8) rfl (congrArg Value.bool hcj)
 refine sg0 hS 3 [] [11] [.bool true] [] (by kernel_rfl) fun s hS=>(KW.nil ?_)
 exact(hS.know (t:=11) (u':= .bool ((decide (pA<(IntKind.i32.wrap (pC.toNat:Int))))||(decide (pA>126)))) rfl (bH hcj)).subR rfl
 replace hS:=hS.know (t:=8) rfl (congrArg Value.bool hcj)
 refine sg0 hS 3 [] [11] [.bool (decide (pA>126))] [] (by kernel_rfl) fun s hS=>(KW.nil ?_)
 exact(hS.know (t:=11) (u':= .bool ((decide (pA<(IntKind.i32.wrap (pC.toNat:Int))))||(decide (pA>126)))) rfl (bI hcj)).subR rfl
 refine sg0 hS 1 [] [3] [.bool ((decide (pA<(IntKind.i32.wrap (pC.toNat:Int))))||(decide (pA>126)))] [] (by kernel_rfl) fun s hS=>(KW.nil ?_)
 refine WW.ret ?_
 cases h
 exact ax hS (.inr rfl) 3 rfl rfl ⟨rfl,rfl,rfl⟩
noncomputable def g_3e.b0 (pA:List UInt8) (pC:UInt8) (pD:Bool) (x2:Nat):Option ((Nat)⊕((Nat)⊕(Int))) :=
  (if(decide (x2<pA.length)) then Option.bind (g_2y.f ((dec pA x2).1:Int) pC) fun y7=>(if(y7==pD) then some (.inr (.inr (x2:Int))) else some (.inl (x2+(dec pA x2).2))) else some (.inr (.inl x2)))
noncomputable def g_3e.f (pA:List UInt8) (pC:UInt8) (pD:Bool):Option (Int) :=
  Option.bind (iter (g_3e.b0 pA pC pD) 0) fun o3=>cu o3 fun y10=>some (-1)
theorem g_3e.ok {iC:Nat} {pA:List UInt8} {pC:UInt8} {pD:Bool} {F:FZ} {r:Int} (h:g_3e.f pA pC pD=some r) :
    Cl EV 174 [aa pA,.func (.func 154) #[] #[.pointer (some ⟨iC,0,none⟩)],.bool pD] [[(iC,.row [vB pC] 5 0 true)]] F (fun v S' F'=>F=F'∧v= .int .i64 r∧S'= [[(iC,.row [vB pC] 5 0 true)]]):=by
 refine Cl.of Tryz.func174 rfl (fun _ _=>rfl) (by kernel_rfl) fun s L nx0 hS=>?_
 unfold g_3e.f at h
 refine WW.seq (WW.region ?_)
 refine sg0 hS 1 [] [6] [.int .i64 0] [] (by kernel_rfl) fun s hS=>(KW.nil ?_)
 refine WW.seq (WW.seq ?_)
 refine WW.region (sg0 hS 1 [] [9] [aa pA] [] (by kernel_rfl) fun s hS=>?_)
 refine bA hS (wn rfl) rfl rfl rfl (v:=fun i=> .pointer (some ⟨i,0,none⟩)) (b:= .iter ⟨pA.toArray⟩ 0) (aop_rng tu9 (hS.lk rfl)) fun s i1 hS=>(KW.nil ?_)
 refine WW.block ?_
 obtain⟨o3,ho3,h⟩:=bind_some h
 refine WW.loop (LW.iterS ho3 (fun(x2:Nat) s=>Stt EV s [(1,.func (.func 154) #[] #[.pointer (some ⟨iC,0,none⟩)]),(2,.bool pD),(6,.int .i64 0),(10,.pointer (some ⟨i1,0,none⟩))] [[(i1,.iter ⟨pA.toArray⟩ x2)],[(iC,.row [vB pC] 5 0 true)]] F L F nx0) 0 (fun r=>ej EV Tryz.f174 L F nx0 (fun v S' F'=>F=F'∧v= .int .i64 r∧S'= [[(iC,.row [vB pC] 5 0 true)]])) (hS.subR rfl) ?_ ?_)
 clear hS
 rintro x2 s hS o3' h5
 unfold g_3e.b0 at h5
 refine WW.seq (WW.region ?_)
 refine bc h5 (fun hc6 h5=>?_) fun hc6 h5=>?_
 refine q_up hS (wn rfl) rfl rfl (sN hS rfl) (p:=0) rfl (aop_nx1 (hS.lk rfl) (of_decide_eq_true hc6)) fun s hS=>(sg0 hS 1 [] [12] [.bool true] [] (by kernel_rfl) fun s hS=>?_)
 refine KW.nil (WW.seq ?_)
 refine WW.condK hS rfl rfl (WW.skip ?_)
 refine WW.block (WW.seq ?_)
 refine WW.region (sg0 hS 4 [] [7,8] [.int .i64 (x2:Int),.int .i32 ((dec pA x2).1:Int)] [] (by kernel_rfl) fun s hS=>?_)
 refine KW.nil (WW.seq ?_)
 refine WW.region ?_
 obtain⟨y7,hy7,h5⟩:=bind_some h5
 replace hS:=hS.pull 1
 refine cR (g_2y.ok hy7) hS 2 17 1 rfl (by kernel_rfl) fun s hS=>(sg0 hS 1 [] [18] [.bool pD] [] (by kernel_rfl) fun s hS=>?_)
 refine aw hS (wn rfl) rfl rfl rfl (v:= .bool (y7==pD)) (tq4eql (hS.lk rfl) (hS.lk rfl)) fun s hS=>(KW.nil ?_)
 refine bc h5 (fun hc9 h5=>?_) fun hc9 h5=>?_
 refine WW.condK hS rfl hc9 (WW.seq ?_)
 refine WW.region (sg0 hS 2 [] [6] [.int .i64 (x2:Int)] [] (by kernel_rfl) fun s hS=>?_)
 refine KW.nil (WW.ret ?_)
 replace hS:=(hS.pull 1).drop
 cases h5
 exact⟨_,rfl,rfl,ax hS (.inr rfl) 6 rfl rfl ⟨rfl,rfl,rfl⟩⟩
 refine WW.condF hS rfl hc9 (WW.skip ?_)
 replace hS:=hS.pull 1
 obtain rfl:=Option.some.inj h5
 exact⟨_,rfl,(hS.subR rfl)⟩
 refine q_rd hS (wn rfl) rfl rfl (sN hS rfl) (hS.at (k:=0) rfl) (aop_nx0 (hS.lk rfl) (of_decide_eq_false hc6)) fun s hS=>(sg0 hS 1 [] [12] [.bool false] [] (by kernel_rfl) fun s hS=>?_)
 refine KW.nil (WW.seq ?_)
 refine WW.condF hS rfl rfl (WW.exit ?_)
 refine ae ?_
 obtain rfl:=Option.some.inj h5
 exact⟨_,rfl,rfl,(hS.subR rfl)⟩
 clear hS
 rcases o3 with y10 | y10
 rintro e s ⟨rfl,hS⟩
 replace h:=bp h
 refine af (WW.seq ?_)
 refine WW.region (sg0 hS 1 [] [6] [.int .i64 (-1)] [] (by kernel_rfl) fun s hS=>?_)
 refine KW.nil (WW.ret ?_)
 replace hS:=hS.drop
 cases h
 exact ax hS (.inr rfl) 6 rfl rfl ⟨rfl,rfl,rfl⟩
 rintro e s ⟨rfl,hfin⟩
 replace h:=bq h
 obtain rfl:=Option.some.inj h
 exact hfin
noncomputable def g_3d.f (pA:List UInt8) (pC:UInt8):Option (Int) :=
  Option.bind (g_3e.f pA pC true) fun y1=>some y1
theorem g_3d.ok {iC:Nat} {pA:List UInt8} {pC:UInt8} {F:FZ} {r:Int} (h:g_3d.f pA pC=some r) :
    Cl EV 153 [aa pA,.func (.func 154) #[] #[.pointer (some ⟨iC,0,none⟩)]] [[(iC,.row [vB pC] 5 0 true)]] F (fun v S' F'=>F=F'∧v= .int .i64 r∧S'= [[(iC,.row [vB pC] 5 0 true)]]):=by
 refine Cl.of Tryz.func153 rfl (fun _ _=>rfl) (by kernel_rfl) fun s L nx0 hS=>?_
 unfold g_3d.f at h
 refine WW.seq (WW.region ?_)
 refine sg0 hS 1 [] [4] [.int .i64 0] [] (by kernel_rfl) fun s hS=>(KW.nil ?_)
 refine WW.seq (WW.region ?_)
 obtain⟨y1,hy1,h⟩:=bind_some h
 refine cR (g_3e.ok hy1) hS 2 7 1 rfl (by kernel_rfl) fun s hS=>(sg0 hS 1 [] [4] [.int .i64 y1] [] (by kernel_rfl) fun s hS=>?_)
 refine KW.nil (WW.ret ?_)
 cases h
 exact ax hS (.inr rfl) 4 rfl rfl ⟨rfl,rfl,rfl⟩
noncomputable def g_2x.f (pA:List UInt8) (pB:UInt8):Option (Bool) :=
  Option.bind (g_3d.f pA pB) fun y2=>some (decide (y2<0))
theorem g_2x.ok {pA:List UInt8} {pB:UInt8} {F:FZ} {r:Bool} (h:g_2x.f pA pB=some r) :
    Cl EV 114 [aa pA,vB pB] [] F (fun v S' F'=>F=F'∧v= .bool r∧S'= []):=by
 refine Cl.of Tryz.func114 rfl (fun _ _=>rfl) (by kernel_rfl) fun s L nx0 hS=>?_
 unfold g_2x.f at h
 refine WW.seq (WW.region ?_)
 refine bA hS (wn rfl) rfl rfl rfl (v:=fun i=> .pointer (some ⟨i,0,none⟩)) (b:= .row [vB pB] 5 0 true) (co (hS.lk rfl) rfl [vB pB] rfl) fun s i1 hS=>(sg0 hS 1 [] [4] [.bool false] [] (by kernel_rfl) fun s hS=>?_)
 refine KW.nil (WW.seq ?_)
 refine WW.region (sg0 hS 1 [] [5] [aa pA] [] (by kernel_rfl) fun s hS=>?_)
 refine aw hS (wn rfl) rfl rfl rfl (v:= .func (.func 154) #[] #[.pointer (some ⟨i1,0,none⟩)]) (cF (bb hS (vs:=[]) rfl) (bb hS (vs:=[.pointer (some ⟨i1,0,none⟩)]) rfl)) fun s hS=>?_
 obtain⟨y2,hy2,h⟩:=bind_some h
 refine cR (g_3d.ok hy2) hS 0 7 1 rfl (by kernel_rfl) fun s hS=>(sg0 hS 2 [] [4] [.bool (decide (y2<0))] [] (by kernel_rfl) fun s hS=>?_)
 refine KW.nil (WW.ret ?_)
 replace hS:=hS.drop
 cases h
 exact ax hS (.inr rfl) 4 rfl rfl ⟨rfl,rfl,rfl⟩
noncomputable def g_2u.b0 (pA:List Int) (x1:Int):Option ((Int)⊕((Int)⊕(Int))) :=
  (if(decide (x1<(pA.length:Int))) then(if 0≤x1∧x1<(pA.length:Int) then(if((gt pA x1) != 0) then some (.inr (.inr (gt pA x1))) else some (.inl (w64 (x1+1)))) else none) else some (.inr (.inl x1)))
noncomputable def g_2u.f (pA:List Int):Option (Int) :=
  Option.bind (iter (g_2u.b0 pA) 0) fun o2=>cu o2 fun y16=>some 0
theorem g_2u.ok {aC:Option Addr} {zD:Nat} {pA:List Int} {F:FZ} {r:Int} (h:g_2u.f pA=some r) (hE:Frz (elI .i64 28) F aC zD pA) :
    Cl EV 112 [.slice aC pA.length zD] [] F (fun v S' F'=>F=F'∧v= .int .i64 r∧S'= []):=by
 refine Cl.of Tryz.func112 rfl (fun _ _=>rfl) (by kernel_rfl) fun s L nx0 hS=>?_
 unfold g_2u.f at h
 refine WW.seq (WW.region ?_)
 refine sg0 hS 1 [] [2] [.int .i64 0] [] (by kernel_rfl) fun s hS=>(KW.nil ?_)
 refine WW.seq (WW.seq ?_)
 refine WW.region (sg0 hS 3 [] [5,6,7] [.slice aC pA.length zD,.int .i64 (pA.length:Int),.int .i64 0] [] (by kernel_rfl) fun s hS=>?_)
 refine KW.nil (WW.block ?_)
 obtain⟨o2,ho2,h⟩:=bind_some h
 refine WW.loop (LW.iterS ho2 (fun(x1:Int) s=>Stt EV s [(2,.int .i64 0),(5,.slice aC pA.length zD),(6,.int .i64 (pA.length:Int)),(7,.int .i64 x1)] [] F L F nx0) 0 (fun r=>ej EV Tryz.f112 L F nx0 (fun v S' F'=>F=F'∧v= .int .i64 r∧S'= [])) (hS.subR rfl) ?_ ?_)
 clear hS
 rintro x1 s hS o2' h4
 unfold g_2u.b0 at h4
 refine WW.seq (WW.region ?_)
 refine sg0 hS 1 [] [8] [.bool (decide (x1<(pA.length:Int)))] [] (by kernel_rfl) fun s hS=>(KW.nil ?_)
 refine WW.seq (bc h4 (fun hc5 h4=>?_) fun hc5 h4=>?_)
 refine WW.condK hS rfl hc5 (WW.skip ?_)
 refine WW.seq (WW.block ?_)
 refine WW.seq (WW.region ?_)
 obtain⟨hk6,h4⟩:=ac h4
 obtain⟨i12,of13,rfl⟩:=Frz.addr hE (by omega)
 obtain⟨_,_,_,_,c7,hF14,hR8,hN9,hN10,hT11⟩:=Frz.at hE hk6 (m:=1) rfl
 obtain rfl:=hR8
 refine aw hS (wn rfl) rfl rfl rfl (v:= .pointer (some ⟨i12,of13+(x1).toNat*1,none⟩)) (aF (hS.lk rfl) (hS.lk rfl) te137 hk6) fun s hS=>(eu hS (wn rfl) rfl rfl rfl (hS.fat hF14) tg28 (v:= .int .i64 (gt pA x1)) hN9 fun s hS=>?_)
 refine sg0 hS 1 [] [4] [.int .i64 (gt pA x1)] [] (by kernel_rfl) fun s hS=>(KW.nil ?_)
 refine WW.seq (WW.region ?_)
 refine sg0 hS 2 [] [12] [.bool ((gt pA x1) != 0)] [] (by kernel_rfl) fun s hS=>(KW.nil ?_)
 refine bc h4 (fun hc15 h4=>?_) fun hc15 h4=>?_
 refine WW.condK hS rfl hc15 (WW.seq ?_)
 refine WW.region (sg0 hS 2 [] [2] [.int .i64 (gt pA x1)] [] (by kernel_rfl) fun s hS=>?_)
 refine KW.nil (WW.ret ?_)
 cases h4
 exact⟨_,rfl,rfl,ax hS (.inr rfl) 2 rfl rfl ⟨rfl,rfl,rfl⟩⟩
 refine WW.condF hS rfl hc15 (WW.skip ?_)
 refine WW.region (sg0 hS 2 [] [7] [.int .i64 (w64 (x1+1))] [] (by kernel_rfl) fun s hS=>?_)
 refine KW.nil ?_
 obtain rfl:=Option.some.inj h4
 exact⟨_,rfl,(hS.subR rfl)⟩
 refine WW.condF hS rfl hc5 (WW.exit ?_)
 refine ae ?_
 obtain rfl:=Option.some.inj h4
 exact⟨_,rfl,rfl,(hS.subR rfl)⟩
 clear hS
 rcases o2 with y16 | y16
 rintro e s ⟨rfl,hS⟩
 replace h:=bp h
 refine af (WW.seq ?_)
 refine WW.region (sg0 hS 1 [] [2] [.int .i64 0] [] (by kernel_rfl) fun s hS=>?_)
 refine KW.nil (WW.ret ?_)
 cases h
 exact ax hS (.inr rfl) 2 rfl rfl ⟨rfl,rfl,rfl⟩
 rintro e s ⟨rfl,hfin⟩
 replace h:=bq h
 obtain rfl:=Option.some.inj h
 exact hfin
noncomputable def g_38.f (pA:List UInt8):Option (Int) :=
  Option.bind (g_39.f (decide ((pA.length:Int)≤1320)) 8) fun y1=>Option.bind (g_2x.f pA 32) fun y3=>Option.bind (g_39.f y3 3) fun y5=>Option.bind (g_2u.f ([y1,y5]:List Int)) fun y12=>some y12
theorem g_38.ok {pA:List UInt8} {F:FZ} {r:Int} (h:g_38.f pA=some r) :
    Cl EV 87 [aa pA] [] F (fun v S' F'=>FLe F F'∧v= .int .i64 r∧S'= []):=by
 refine Cl.of Tryz.func87 rfl (fun _ _=>rfl) (by kernel_rfl) fun s L nx0 hS=>?_
 unfold g_38.f at h
 refine WW.seq (WW.region ?_)
 refine sg0 hS 1 [] [2] [.int .i64 0] [] (by kernel_rfl) fun s hS=>(KW.nil ?_)
 refine WW.seq (WW.region ?_)
 obtain⟨y1,hy1,h⟩:=bind_some h
 refine cR (g_39.ok hy1) hS 3 6 0 rfl (by kernel_rfl) fun s hS=>?_
 obtain⟨y3,hy3,h⟩:=bind_some h
 refine cR (g_2x.ok hy3) hS 1 8 0 rfl (by kernel_rfl) fun s hS=>?_
 obtain⟨y5,hy5,h⟩:=bind_some h
 refine cR (g_39.ok hy5) hS 0 9 0 rfl (by kernel_rfl) fun s hS=>(bA hS (wn rfl) rfl rfl rfl (v:=fun i=> .slice (some ⟨i,0,none⟩) 2 1) (b:= .row [.int .i64 y1,.int .i64 y5] 28 1 true) (aW tu137 tz28 t0_28 rfl [(0,.int .i64 y1),(1,.int .i64 y5)] (av hS rfl) rfl) fun s i7 hS=>?_)
 have hC8:ai (elI .i64 28) F ([y1,y5]:List Int) [.int .i64 y1,.int .i64 y5]:=⟨[.int .i64 y1],[.int .i64 y5],rfl,rfl,⟨[.int .i64 y5],[],rfl,rfl,rfl⟩⟩
 obtain⟨F9,hF10,hS,hz11⟩:=hS.frzO (Own.blk0 hC8)
 obtain⟨y12,hy12,h⟩:=bind_some h
 refine cR (g_2u.ok hy12 hz11) hS 0 11 0 rfl (by kernel_rfl) fun s hS=>(sg0 hS 1 [] [2] [.int .i64 y12] [] (by kernel_rfl) fun s hS=>?_)
 refine KW.nil (WW.ret ?_)
 cases h
 exact ax hS (.inr rfl) 2 rfl rfl ⟨(hF10),rfl,rfl⟩
noncomputable def g_2w.f (pA:UInt8):Option (Bool) :=
  some (((pA.toNat:Int)==((39:UInt8).toNat:Int))||((pA.toNat:Int)==((34:UInt8).toNat:Int)))
theorem g_2w.ok {pA:UInt8} {F:FZ} {r:Bool} (h:g_2w.f pA=some r) :
    Cl EV 115 [vB pA] [] F (fun v S' F'=>F=F'∧v= .bool r∧S'= []):=by
 refine Cl.of Tryz.func115 rfl (fun _ _=>rfl) (by kernel_rfl) fun s L nx0 hS=>?_
 unfold g_2w.f at h
 refine WW.seq (WW.region ?_)
 refine sg0 hS 1 [] [2] [.bool false] [] (by kernel_rfl) fun s hS=>(KW.nil ?_)
 refine WW.seq (WW.region ?_)
 refine sg0 hS 3 [] [5] [.bool ((pA.toNat:Int)==((39:UInt8).toNat:Int))] [] (by kernel_rfl) fun s hS=>(ay 3 (fun s=>Stt EV s [(8,.bool (((pA.toNat:Int)==((39:UInt8).toNat:Int))||((pA.toNat:Int)==((34:UInt8).toNat:Int)))),(2,.bool false)] [] F L F nx0) ?_ fun s hS=>?_)
 rcases aj (((pA.toNat:Int)==((39:UInt8).toNat:Int))) with hcj | hcj
 replace hS:=hS.know (t:=5) rfl (congrArg Value.bool hcj)
 refine sg0 hS 3 [] [8] [.bool true] [] (by kernel_rfl) fun s hS=>(KW.nil ?_)
 exact(hS.know (t:=8) (u':= .bool (((pA.toNat:Int)==((39:UInt8).toNat:Int))||((pA.toNat:Int)==((34:UInt8).toNat:Int)))) rfl (bH hcj)).subR rfl
 replace hS:=hS.know (t:=5) rfl (congrArg Value.bool hcj)
 refine sg0 hS 3 [] [8] [.bool ((pA.toNat:Int)==((34:UInt8).toNat:Int))] [] (by kernel_rfl) fun s hS=>(KW.nil ?_)
 exact(hS.know (t:=8) (u':= .bool (((pA.toNat:Int)==((39:UInt8).toNat:Int))||((pA.toNat:Int)==((34:UInt8).toNat:Int)))) rfl (bI hcj)).subR rfl
 refine sg0 hS 1 [] [2] [.bool (((pA.toNat:Int)==((39:UInt8).toNat:Int))||((pA.toNat:Int)==((34:UInt8).toNat:Int)))] [] (by kernel_rfl) fun s hS=>(KW.nil ?_)
 refine WW.ret ?_
 cases h
 exact ax hS (.inr rfl) 2 rfl rfl ⟨rfl,rfl,rfl⟩
noncomputable def g_2b.f (pA:List UInt8) (pB:UInt8):Option (Int) :=
  Option.bind (g_idx.f pA pB) fun y1=>some y1
theorem g_2b.ok {pA:List UInt8} {pB:UInt8} {F:FZ} {r:Int} (h:g_2b.f pA pB=some r) :
    Cl EV 97 [aa pA,vB pB] [] F (fun v S' F'=>F=F'∧v= .int .i64 r∧S'= []):=by
 refine Cl.of Tryz.func97 rfl (fun _ _=>rfl) (by kernel_rfl) fun s L nx0 hS=>?_
 unfold g_2b.f at h
 refine WW.seq (WW.region ?_)
 refine sg0 hS 1 [] [4] [.int .i64 0] [] (by kernel_rfl) fun s hS=>(KW.nil ?_)
 refine WW.seq (WW.region ?_)
 obtain⟨y1,hy1,h⟩:=bind_some h
 refine cR (g_idx.ok hy1) hS 2 7 0 rfl (by kernel_rfl) fun s hS=>(sg0 hS 1 [] [4] [.int .i64 y1] [] (by kernel_rfl) fun s hS=>?_)
 refine KW.nil (WW.ret ?_)
 cases h
 exact ax hS (.inr rfl) 4 rfl rfl ⟨rfl,rfl,rfl⟩
noncomputable def g_3c.f (pA:List UInt8) (pB:UInt8):Option (Int) :=
  Option.bind (g_2b.f pA pB) fun y1=>some y1
theorem g_3c.ok {pA:List UInt8} {pB:UInt8} {F:FZ} {r:Int} (h:g_3c.f pA pB=some r) :
    Cl EV 72 [aa pA,vB pB] [] F (fun v S' F'=>F=F'∧v= .int .i64 r∧S'= []):=by
 refine Cl.of Tryz.func72 rfl (fun _ _=>rfl) (by kernel_rfl) fun s L nx0 hS=>?_
 unfold g_3c.f at h
 refine WW.seq (WW.region ?_)
 refine sg0 hS 1 [] [4] [.int .i64 0] [] (by kernel_rfl) fun s hS=>(KW.nil ?_)
 refine WW.seq (WW.region ?_)
 obtain⟨y1,hy1,h⟩:=bind_some h
 refine cR (g_2b.ok hy1) hS 2 7 0 rfl (by kernel_rfl) fun s hS=>(sg0 hS 1 [] [4] [.int .i64 y1] [] (by kernel_rfl) fun s hS=>?_)
 refine KW.nil (WW.ret ?_)
 cases h
 exact ax hS (.inr rfl) 4 rfl rfl ⟨rfl,rfl,rfl⟩
noncomputable def g_37.f (pC:List UInt8) (pJ:List Int) (pP:List Bool) (pAC:UInt8) (pAD:Int) (pAE:Bool):Option (List UInt8×List Int×List Bool) :=
  (if pC.length+([pAC]:List UInt8).length<1000000000 then(if pJ.length+([pAD]:List Int).length<1000000000 then(if pP.length+([pAE]:List Bool).length<1000000000 then some ((pC++([pAC]:List UInt8)),(pJ++([pAD]:List Int)),(pP++([pAE]:List Bool))) else none) else none) else none)
theorem g_37.ok {iB:Nat} {aE:Option Addr} {zH:Nat} {BJ:Seg} {aM:Option Addr} {zN:Nat} {BP:Seg} {aU:Option Addr} {zV:Nat} {BX:Seg} {aZ:Option Addr} {zAA:Nat} {BAC:Seg} {pB:List UInt8} {pC:List UInt8} {pJ:List Int} {pP:List Bool} {pX:List (Int×Int)} {pAC:UInt8} {pAD:Int} {pAE:Bool} {F:FZ} {r:List UInt8×List Int×List Bool} (h:g_37.f pC pJ pP pAC pAD pAE=some r) (hI:Own (elB 5) F aE zH pC BJ) (hO:Own (elI .i64 3) F aM zN pJ BP) (hW:Own (bt 4) F aU zV pP BX) :
    Cl EV 119 [.pointer (some ⟨iB,0,none⟩),vB pAC,.int .i64 pAD,.bool pAE] [[(iB,.row [aa pB,.slice aE pC.length zH,.slice aM pJ.length zN,.slice aU pP.length zV,.slice aZ pX.length zAA] 94 0 true)],BJ,BP,BX,BAC] F (fun v S' F'=> ∃(ra1:Option Addr) (rz2:Nat) (rB4:Seg) (ra5:Option Addr) (rz6:Nat) (rB8:Seg) (ra9:Option Addr) (rz10:Nat) (rB12:Seg),F=F'∧v= .tuple #[]∧S'= [[(iB,.row [aa pB,.slice ra1 r.1.length rz2,.slice ra5 r.2.1.length rz6,.slice ra9 r.2.2.length rz10,.slice aZ pX.length zAA] 94 0 true)],rB4,rB8,rB12,BAC]∧Own (elB 5) F' ra1 rz2 r.1 rB4∧Own (elI .i64 3) F' ra5 rz6 r.2.1 rB8∧Own (bt 4) F' ra9 rz10 r.2.2 rB12):=by
 refine Cl.of Tryz.func119 rfl (fun _ _=>rfl) (by kernel_rfl) fun s L nx0 hS=>?_
 unfold g_37.f at h
 refine WW.regionD (i:=[[],[0],[1,0],[2,1,0],[2,1,0],[2,1,0],[2,1,0],[6,5,4,3,2,1,0],[6,5,4,3,2,1,0],[2,1,0],[9,8,7,6,5,4,3,2,1,0],[9,8,7,6,5,4,3,2,1,0],[9,8,7,6,5,4,3,2,1,0],[9,8,7,6,5,4,3,2,1,0],[13,12,11,10,9,8,7,6,5,4,3,2,1,0],[13,12,11,10,9,8,7,6,5,4,3,2,1,0],[2,1,0],[16,15,14,13,12,11,10,9,8,7,6,5,4,3,2,1,0],[16,15,14,13,12,11,10,9,8,7,6,5,4,3,2,1,0],[16,15,14,13,12,11,10,9,8,7,6,5,4,3,2,1,0],[16,15,14,13,12,11,10,9,8,7,6,5,4,3,2,1,0],[20,19,18,17,16,15,14,13,12,11,10,9,8,7,6,5,4,3,2,1,0],[20,19,18,17,16,15,14,13,12,11,10,9,8,7,6,5,4,3,2,1,0],[2,1,0],[2,1],[2,1],[2,1],[2],[2],[2],[],[],[]]) (by kernel_rfl) ?_
 have hq:=RS.start [iB]
 refine kg hS hq 6 [8,9,10,13] [.pointer (some ⟨iB,0,none⟩),.pointer (some ⟨iB,0,none⟩),.pointer (some ⟨iB,0,none⟩),.pointer (some ⟨iB,1,none⟩)] (by kernel_rfl) fun s rs hS hq=>(K.ld hS hq rfl (wn rfl) rfl rfl rfl (hS.at (k:=0) rfl) tg79 (v:= .slice aE pC.length zH) rfl 0 rfl rfl fun s rs hS hq=>?_)
 refine kg hS hq 1 [15] [vB pAC] (by kernel_rfl) fun s rs hS hq=>(K.nw hS hq rfl (wn rfl) rfl rfl rfl (v:=fun i=> .slice (some ⟨i,0,none⟩) 1 1) (b:= .row [vB pAC] 5 1 true) (aW jq tz5 t0_5 rfl [(0,vB pAC)] (av hS rfl) rfl) [0] (aP rfl mm0 bn) rfl rfl rfl fun s rs i1 hS hq=>?_)
 have hC2:ai (elB 5) F ([pAC]:List UInt8) [vB pAC]:=⟨[vB pAC],[],rfl,rfl,rfl⟩
 obtain⟨hk6,h⟩:=ac h
 replace hS:=hS.pull 2
 replace hS:=hS.pull 1
 refine K.app [] hS hq rfl (wn rfl) (dd:=(elB 5)) (lst:=pC) (m:=([pAC]:List UInt8)) rfl rfl ta79_79 rfl rfl hI (Nat.succ_pos _) hC2 hk6 [0] rfl rfl (aP rfl mm0 bn) fun s rs i3 cs4 hC5 hS hq=>(kg hS hq 3 [20] [.pointer (some ⟨iB,2,none⟩)] (by kernel_rfl) fun s rs hS hq=>?_)
 refine K.ld hS hq rfl (wn rfl) rfl rfl rfl (hS.at (k:=1) rfl) fL (v:= .slice aM pJ.length zN) rfl 0 rfl rfl fun s rs hS hq=>(kg hS hq 1 [22] [.int .i64 pAD] (by kernel_rfl) fun s rs hS hq=>?_)
 refine K.nw hS hq rfl (wn rfl) rfl rfl rfl (v:=fun i=> .slice (some ⟨i,0,none⟩) 1 1) (b:= .row [.int .i64 pAD] 3 1 true) (aW iM tz3 gp rfl [(0,.int .i64 pAD)] (av hS rfl) rfl) [0] (aP rfl (mm1 mm0) bn) rfl rfl rfl fun s rs i7 hS hq=>?_
 have hC8:ai (elI .i64 3) F ([pAD]:List Int) [.int .i64 pAD]:=⟨[.int .i64 pAD],[],rfl,rfl,rfl⟩
 obtain⟨hk12,h⟩:=ac h
 replace hS:=hS.pull 3
 replace hS:=hS.pull 1
 refine K.app [] hS hq rfl (wn rfl) (dd:=(elI .i64 3)) (lst:=pJ) (m:=([pAD]:List Int)) rfl rfl dl rfl rfl hO (Nat.succ_pos _) hC8 hk12 [0] rfl rfl (aP rfl (mm1 mm0) bn) fun s rs i9 cs10 hC11 hS hq=>(kg hS hq 3 [27] [.pointer (some ⟨iB,3,none⟩)] (by kernel_rfl) fun s rs hS hq=>?_)
 refine K.ld hS hq rfl (wn rfl) rfl rfl rfl (hS.at (k:=2) rfl) tg49 (v:= .slice aU pP.length zV) rfl 0 rfl rfl fun s rs hS hq=>(kg hS hq 1 [29] [.bool pAE] (by kernel_rfl) fun s rs hS hq=>?_)
 refine K.nw hS hq rfl (wn rfl) rfl rfl rfl (v:=fun i=> .slice (some ⟨i,0,none⟩) 1 1) (b:= .row [.bool pAE] 4 1 true) (aW tu49 tz4 t0_4 rfl [(0,.bool pAE)] (av hS rfl) rfl) [0] (aP rfl (mm1 (mm1 mm0)) bn) rfl rfl rfl fun s rs i13 hS hq=>?_
 have hC14:ai (bt 4) F ([pAE]:List Bool) [.bool pAE]:=⟨[.bool pAE],[],rfl,rfl,rfl⟩
 obtain⟨hk18,h⟩:=ac h
 replace hS:=hS.pull 4
 replace hS:=hS.pull 1
 refine K.app [] hS hq rfl (wn rfl) (dd:=(bt 4)) (lst:=pP) (m:=([pAE]:List Bool)) rfl rfl ta49_49 rfl rfl hW (Nat.succ_pos _) hC14 hk18 [0] rfl rfl (aP rfl (mm1 (mm1 mm0)) bn) fun s rs i15 cs16 hC17 hS hq=>(kg hS hq 2 [33] [.pointer (some ⟨iB,1,none⟩)] (by kernel_rfl) fun s rs hS hq=>?_)
 refine K.sto hS hq rfl (wn rfl) rfl rfl rfl rfl (p:=3) rfl tz79 rfl [aa pB,.slice (some ⟨i3,0,none⟩) (pC++([pAC]:List UInt8)).length 1,.slice aM pJ.length zN,.slice aU pP.length zV,.slice aZ pX.length zAA] rfl [] rfl bn fun s rs hS hq=>(kg hS hq 2 [35] [.pointer (some ⟨iB,2,none⟩)] (by kernel_rfl) fun s rs hS hq=>?_)
 refine K.sto hS hq rfl (wn rfl) rfl rfl rfl rfl (p:=3) rfl tz22 rfl [aa pB,.slice (some ⟨i3,0,none⟩) (pC++([pAC]:List UInt8)).length 1,.slice (some ⟨i9,0,none⟩) (pJ++([pAD]:List Int)).length 1,.slice aU pP.length zV,.slice aZ pX.length zAA] rfl [] rfl bn fun s rs hS hq=>(kg hS hq 2 [37] [.pointer (some ⟨iB,3,none⟩)] (by kernel_rfl) fun s rs hS hq=>?_)
 refine K.sto hS hq rfl (wn rfl) rfl rfl rfl rfl (p:=3) rfl tz49 rfl [aa pB,.slice (some ⟨i3,0,none⟩) (pC++([pAC]:List UInt8)).length 1,.slice (some ⟨i9,0,none⟩) (pJ++([pAD]:List Int)).length 1,.slice (some ⟨i15,0,none⟩) (pP++([pAE]:List Bool)).length 1,.slice aZ pX.length zAA] rfl [] rfl bn fun s rs hS hq=>(KW.nil ?_)
 replace hS:=hS.pull 4
 replace hS:=hS.pull 1
 replace hS:=hS.pull 2
 replace hS:=hS.pull 3
 replace hS:=hS.pull 4
 cases h
 exact aG hS (.inl rfl) rfl ⟨_,_,_,_,_,_,_,_,_,rfl,rfl,rfl,(Own.blk0 hC5),(Own.blk0 hC11),(Own.blk0 hC17)⟩
noncomputable def g_31.b0 (pB:List UInt8) (pAD:Int) (x1:Int×List UInt8×List Int×List Bool):Option ((Int×List UInt8×List Int×List Bool)⊕(Int×List UInt8×List Int×List Bool)) :=
  (if(decide (x1.1<pAD)) then(if 0≤x1.1∧x1.1<(pB.length:Int) then Option.bind (g_37.f x1.2.1 x1.2.2.1 x1.2.2.2 (gt pB x1.1) x1.1 true) fun y31=>some (.inl ((w64 (x1.1+1)),y31.1,y31.2.1,y31.2.2)) else none) else some (.inr (x1.1,x1.2.1,x1.2.2.1,x1.2.2.2)))
noncomputable def g_31.f (pB:List UInt8) (pC:List UInt8) (pJ:List Int) (pP:List Bool) (pAC:Int) (pAD:Int):Option (List UInt8×List Int×List Bool) :=
  Option.bind (iter (g_31.b0 pB pAD) (pAC,pC,pJ,pP)) fun o14=>some (o14.2.1,o14.2.2.1,o14.2.2.2)
theorem g_31.ok {iB:Nat} {aE:Option Addr} {zH:Nat} {BJ:Seg} {aM:Option Addr} {zN:Nat} {BP:Seg} {aU:Option Addr} {zV:Nat} {BX:Seg} {aZ:Option Addr} {zAA:Nat} {BAC:Seg} {pB:List UInt8} {pC:List UInt8} {pJ:List Int} {pP:List Bool} {pX:List (Int×Int)} {pAC:Int} {pAD:Int} {F:FZ} {r:List UInt8×List Int×List Bool} (h:g_31.f pB pC pJ pP pAC pAD=some r) (hI:Own (elB 5) F aE zH pC BJ) (hO:Own (elI .i64 3) F aM zN pJ BP) (hW:Own (bt 4) F aU zV pP BX) :
    Cl EV 155 [.pointer (some ⟨iB,0,none⟩),.int .i64 pAC,.int .i64 pAD] [[(iB,.row [aa pB,.slice aE pC.length zH,.slice aM pJ.length zN,.slice aU pP.length zV,.slice aZ pX.length zAA] 94 0 true)],BJ,BP,BX,BAC] F (fun v S' F'=> ∃(ra1:Option Addr) (rz2:Nat) (rB4:Seg) (ra5:Option Addr) (rz6:Nat) (rB8:Seg) (ra9:Option Addr) (rz10:Nat) (rB12:Seg),F=F'∧v= .tuple #[]∧S'= [[(iB,.row [aa pB,.slice ra1 r.1.length rz2,.slice ra5 r.2.1.length rz6,.slice ra9 r.2.2.length rz10,.slice aZ pX.length zAA] 94 0 true)],rB4,rB8,rB12,BAC]∧Own (elB 5) F' ra1 rz2 r.1 rB4∧Own (elI .i64 3) F' ra5 rz6 r.2.1 rB8∧Own (bt 4) F' ra9 rz10 r.2.2 rB12):=by
 refine Cl.of Tryz.func155 rfl (fun _ _=>rfl) (by kernel_rfl) fun s L nx0 hS=>?_
 unfold g_31.f at h
 refine WW.seq (WW.region ?_)
 refine sg0 hS 2 [] [6] [.int .i64 pAC] [] (by kernel_rfl) fun s hS=>(KW.nil ?_)
 refine WW.block ?_
 obtain⟨o14,ho14,h⟩:=bind_some h
 refine WW.loop (LW.iterE ho14 (fun(x1:Int×List UInt8×List Int×List Bool) s=> ∃(a2:Option Addr) (z3:Nat) (B5:Seg) (a6:Option Addr) (z7:Nat) (B9:Seg) (a10:Option Addr) (z11:Nat) (B13:Seg),Stt EV s [(0,.pointer (some ⟨iB,0,none⟩)),(2,.int .i64 pAD),(6,.int .i64 x1.1)] [[(iB,.row [aa pB,.slice a2 x1.2.1.length z3,.slice a6 x1.2.2.1.length z7,.slice a10 x1.2.2.2.length z11,.slice aZ pX.length zAA] 94 0 true)],B5,B9,B13,BAC] F L F nx0∧Own (elB 5) F a2 z3 x1.2.1 B5∧Own (elI .i64 3) F a6 z7 x1.2.2.1 B9∧Own (bt 4) F a10 z11 x1.2.2.2 B13) 0 ⟨_,_,_,_,_,_,_,_,_,(hS.subR rfl),hI,hO,hW⟩ ?_ ?_)
 clear hS
 rintro x1 s ⟨a2,z3,B5,a6,z7,B9,a10,z11,B13,hS,h4,h8,h12⟩ o14' h28
 unfold g_31.b0 at h28
 refine WW.seq (WW.seq ?_)
 refine WW.region (sg0 hS 3 [] [10] [.bool (decide (x1.1<pAD))] [] (by kernel_rfl) fun s hS=>?_)
 refine KW.nil (bc h28 (fun hc29 h28=>?_) fun hc29 h28=>?_)
 refine WW.condK hS rfl hc29 (WW.skip ?_)
 refine WW.seq (WW.block ?_)
 refine WW.region (sg0 hS 6 [0] [13,17,18] [.pointer (some ⟨iB,0,none⟩),aa pB,.int .i64 x1.1] [iB] (by kernel_rfl) fun s hS=>?_)
 obtain⟨hk30,h28⟩:=ac h28
 refine aw hS (wn rfl) rfl rfl rfl (v:=vB (gt pB x1.1)) (au tu9 (hS.lk rfl) (hS.lk rfl) hk30) fun s hS=>?_
 obtain⟨y31,hy31,h28⟩:=bind_some h28
 refine cK (g_37.ok hy31 h4 h8 h12) hS 1 21 5 rfl (by kernel_rfl) fun s v S' F' hp32 hF hS=>?_
 obtain⟨a33,z34,B36,a37,z38,B40,a41,z42,B44,rfl,rfl,rfl,h35,h39,h43⟩:=hp32
 refine KW.nil (WW.region ?_)
 refine sg0 hS 3 [] [6] [.int .i64 (w64 (x1.1+1))] [] (by kernel_rfl) fun s hS=>(KW.nil ?_)
 obtain rfl:=Option.some.inj h28
 exact⟨_,rfl,_,_,_,_,_,_,_,_,_,(hS.subR rfl),h35,h39,h43⟩
 refine WW.condF hS rfl hc29 (WW.exit ?_)
 refine ae ?_
 obtain rfl:=Option.some.inj h28
 exact⟨_,rfl,rfl,_,_,_,_,_,_,_,_,_,(hS.subR rfl),h4,h8,h12⟩
 clear hS
 rintro e s ⟨rfl,a45,z46,B48,a49,z50,B52,a53,z54,B56,hS,h47,h51,h55⟩
 refine af ?_
 cases h
 exact aG hS (.inl rfl) rfl ⟨_,_,_,_,_,_,_,_,_,rfl,rfl,rfl,h47,h51,h55⟩
noncomputable def g_30.f (pB:List UInt8) (pC:List UInt8) (pJ:List Int) (pP:List Bool) (pX:List (Int×Int)) (pAC:Int):Option (Int×Int×List UInt8×List Int×List Bool×(List (Int×Int))) :=
  (if 0≤(w64 (pAC+1))∧(w64 (pAC+1))≤(pB.length:Int)∧(pB.length:Int)≤(pB.length:Int) then(if 0≤pAC∧pAC<(pB.length:Int) then Option.bind (g_3c.f (mid pB (w64 (pAC+1)) (pB.length:Int)) (gt pB pAC)) fun y3=>(if(decide (y3<0)) then some (0,21,pC,pJ,pP,pX) else(if pX.length+([(pAC,(w64 ((w64 (pAC+y3))+2)))]:List (Int×Int)).length<1000000000 then Option.bind (g_31.f pB pC pJ pP pAC (w64 ((w64 (pAC+y3))+2))) fun y12=>some ((w64 ((w64 (pAC+y3))+2)),0,y12.1,y12.2.1,y12.2.2,(pX++([(pAC,(w64 ((w64 (pAC+y3))+2)))]:List (Int×Int)))) else none)) else none) else none)
theorem g_30.ok {iB:Nat} {aE:Option Addr} {zH:Nat} {BJ:Seg} {aM:Option Addr} {zN:Nat} {BP:Seg} {aU:Option Addr} {zV:Nat} {BX:Seg} {aZ:Option Addr} {zAA:Nat} {BAC:Seg} {pB:List UInt8} {pC:List UInt8} {pJ:List Int} {pP:List Bool} {pX:List (Int×Int)} {pAC:Int} {F:FZ} {r:Int×Int×List UInt8×List Int×List Bool×(List (Int×Int))} (h:g_30.f pB pC pJ pP pX pAC=some r) (hI:Own (elB 5) F aE zH pC BJ) (hO:Own (elI .i64 3) F aM zN pJ BP) (hW:Own (bt 4) F aU zV pP BX) (hAB:Own dk F aZ zAA pX BAC) :
    Cl EV 116 [.pointer (some ⟨iB,0,none⟩),.int .i64 pAC] [[(iB,.row [aa pB,.slice aE pC.length zH,.slice aM pJ.length zN,.slice aU pP.length zV,.slice aZ pX.length zAA] 94 0 true)],BJ,BP,BX,BAC] F (fun v S' F'=> ∃(ra1:Option Addr) (rz2:Nat) (rB4:Seg) (ra5:Option Addr) (rz6:Nat) (rB8:Seg) (ra9:Option Addr) (rz10:Nat) (rB12:Seg) (ra13:Option Addr) (rz14:Nat) (rB16:Seg),F=F'∧v= .tuple #[.int .i64 r.1,.int .i64 r.2.1]∧S'= [[(iB,.row [aa pB,.slice ra1 r.2.2.1.length rz2,.slice ra5 r.2.2.2.1.length rz6,.slice ra9 r.2.2.2.2.1.length rz10,.slice ra13 r.2.2.2.2.2.length rz14] 94 0 true)],rB4,rB8,rB12,rB16]∧Own (elB 5) F' ra1 rz2 r.2.2.1 rB4∧Own (elI .i64 3) F' ra5 rz6 r.2.2.2.1 rB8∧Own (bt 4) F' ra9 rz10 r.2.2.2.2.1 rB12∧Own dk F' ra13 rz14 r.2.2.2.2.2 rB16):=by
 refine Cl.of Tryz.func116 rfl (fun _ _=>rfl) (by kernel_rfl) fun s L nx0 hS=>?_
 unfold g_30.f at h
 refine WW.seq (WW.region ?_)
 refine sg0 hS 2 [] [4,5] [.int .i64 0,.int .i64 0] [] (by kernel_rfl) fun s hS=>(KW.nil ?_)
 refine WW.seq (WW.regionD (i:=[[],[],[],[],[3,2,1,0],[3,2,1,0],[],[6,5,4,3,2,1,0],[6,5,4,3,2,1,0],[6,5,4,3,2,1,0],[6,5,4,3,2,1,0],[10,9,8,7,6,5,4,3,2,1,0],[6,5,4,3,2,1,0],[],[]]) (by kernel_rfl) ?_)
 have hq:=RS.start [iB]
 refine kg hS hq 3 [10] [.pointer (some ⟨iB,0,none⟩)] (by kernel_rfl) fun s rs hS hq=>(K.ld hS hq rfl (wn rfl) rfl rfl rfl (hS.at (k:=0) rfl) tg9 (v:=aa pB) rfl 0 rfl rfl fun s rs hS hq=>?_)
 refine kg hS hq 2 [13] [.int .i64 (w64 (pAC+1))] (by kernel_rfl) fun s rs hS hq=>?_
 obtain⟨hk1,h⟩:=ac h
 refine K.pu hS hq rfl (wn rfl) rfl rfl rfl (v:=aa (mid pB (w64 (pAC+1)) (pB.length:Int))) (cU tu9 (hS.lk rfl) (i:=(w64 (pAC+1))) (j:=(pB.length:Int)) (bF hS rfl) rfl hk1) fun s rs hS hq=>(kg hS hq 3 [17] [.pointer (some ⟨iB,0,none⟩)] (by kernel_rfl) fun s rs hS hq=>?_)
 refine K.ld hS hq rfl (wn rfl) rfl rfl rfl (hS.at (k:=0) rfl) tg9 (v:=aa pB) rfl 0 rfl rfl fun s rs hS hq=>(kg hS hq 1 [19] [.int .i64 pAC] (by kernel_rfl) fun s rs hS hq=>?_)
 obtain⟨hk2,h⟩:=ac h
 refine K.pu hS hq rfl (wn rfl) rfl rfl rfl (v:=vB (gt pB pAC)) (au tu9 (hS.lk rfl) (hS.lk rfl) hk2) fun s rs hS hq=>?_
 obtain⟨y3,hy3,h⟩:=bind_some h
 refine K.cl hS hq rfl (wn rfl) (vs:=[aa (mid pB (w64 (pAC+1)) (pB.length:Int)),vB (gt pB pAC)]) (ws:=[aa (mid pB (w64 (pAC+1)) (pB.length:Int)),vB (gt pB pAC)]) rfl rfl rfl rfl rfl 0 rfl (g_3c.ok hy3)  [0] rfl rfl (aP rfl mm0 bn) fun s rs v S' F' hp4 hF hS hq=>?_
 obtain⟨rfl,rfl,rfl⟩:=hp4
 refine kg hS hq 1 [6] [.int .i64 y3] (by kernel_rfl) fun s rs hS hq=>(KW.nil ?_)
 refine WW.seq (WW.seq ?_)
 refine WW.region (sg0 hS 2 [] [23] [.bool (decide (y3<0))] [] (by kernel_rfl) fun s hS=>?_)
 refine KW.nil (bc h (fun hc5 h=>?_) fun hc5 h=>?_)
 refine WW.condK hS rfl hc5 (WW.seq ?_)
 refine WW.region (sg0 hS 2 [] [4,5] [.int .i64 0,.int .i64 21] [] (by kernel_rfl) fun s hS=>?_)
 refine KW.nil (WW.ret ?_)
 cases h
 exact bP hS (.inr rfl) 4 5 rfl rfl rfl ⟨_,_,_,_,_,_,_,_,_,_,_,_,rfl,rfl,rfl,hI,hO,hW,hAB⟩
 refine WW.condF hS rfl hc5 (WW.skip ?_)
 refine WW.seq (WW.region ?_)
 refine sg0 hS 5 [] [7] [.int .i64 (w64 ((w64 (pAC+y3))+2))] [] (by kernel_rfl) fun s hS=>(KW.nil ?_)
 refine WW.seq (WW.region ?_)
 refine sg0 hS 7 [0] [28,32,33,34] [.pointer (some ⟨iB,0,none⟩),.slice aZ pX.length zAA,.int .i64 pAC,.int .i64 (w64 ((w64 (pAC+y3))+2))] [iB] (by kernel_rfl) fun s hS=>(aw hS (wn rfl) rfl rfl rfl (v:= .agg #[.int .i64 pAC,.int .i64 (w64 ((w64 (pAC+y3))+2))]) (eq fV tf tz3 [(0,.int .i64 pAC),(1,.int .i64 (w64 ((w64 (pAC+y3))+2)))] (av hS rfl) (cs:=[.int .i64 pAC,.int .i64 (w64 ((w64 (pAC+y3))+2))]) rfl) fun s hS=>?_)
 refine bA hS (wn rfl) rfl rfl rfl (v:=fun i=> .slice (some ⟨i,0,none⟩) 1 2) (b:= .row [.int .i64 pAC,.int .i64 (w64 ((w64 (pAC+y3))+2))] 50 2 true) (aW tu46 ro fV rfl [(0,.agg #[.int .i64 pAC,.int .i64 (w64 ((w64 (pAC+y3))+2))])] (av hS rfl) rfl) fun s i6 hS=>?_
 have hC7:ai dk F ([(pAC,(w64 ((w64 (pAC+y3))+2)))]:List (Int×Int)) [.int .i64 pAC,.int .i64 (w64 ((w64 (pAC+y3))+2))]:=⟨[.int .i64 pAC,.int .i64 (w64 ((w64 (pAC+y3))+2))],[],rfl,rfl,rfl⟩
 obtain⟨hk11,h⟩:=ac h
 replace hS:=hS.pull 5
 replace hS:=hS.pull 1
 refine fU hS (wn rfl) (dd:=dk) (lst:=pX) (m:=([(pAC,(w64 ((w64 (pAC+y3))+2)))]:List (Int×Int))) rfl rfl jw rfl rfl hAB (Nat.succ_pos _) hC7 hk11 fun s i8 cs9 hC10 hS=>(sg hS 3 [1] [] [] [iB] [[(i8,.row cs9 50 2 true)],[(iB,.row [aa pB,.slice aE pC.length zH,.slice aM pJ.length zN,.slice aU pP.length zV,.slice (some ⟨i8,0,none⟩) (pX++([(pAC,(w64 ((w64 (pAC+y3))+2)))]:List (Int×Int))).length 2] 94 0 true)],BJ,BP,BX] (by kernel_rfl) fun s hS=>?_)
 refine KW.nil (WW.seq ?_)
 refine WW.region ?_
 obtain⟨y12,hy12,h⟩:=bind_some h
 replace hS:=hS.pull 4
 replace hS:=hS.pull 4
 replace hS:=hS.pull 4
 replace hS:=hS.pull 4
 refine cK (g_31.ok hy12 hI hO hW) hS 3 43 5 rfl (by kernel_rfl) fun s v S' F' hp13 hF hS=>?_
 obtain⟨a14,z15,B17,a18,z19,B21,a22,z23,B25,rfl,rfl,rfl,h16,h20,h24⟩:=hp13
 refine KW.nil (WW.seq ?_)
 refine WW.region (sg0 hS 3 [] [4,5] [.int .i64 (w64 ((w64 (pAC+y3))+2)),.int .i64 0] [] (by kernel_rfl) fun s hS=>?_)
 refine KW.nil (WW.ret ?_)
 cases h
 exact bP hS (.inr rfl) 4 5 rfl rfl rfl ⟨_,_,_,_,_,_,_,_,_,_,_,_,rfl,rfl,rfl,h16,h20,h24,(Own.blk0 hC10)⟩
noncomputable def g_2v.f (pA:UInt8):Option (Bool) :=
  some ((decide (((48:UInt8).toNat:Int)≤(pA.toNat:Int)))&&(decide ((pA.toNat:Int)≤((57:UInt8).toNat:Int))))
theorem g_2v.ok {pA:UInt8} {F:FZ} {r:Bool} (h:g_2v.f pA=some r) :
    Cl EV 175 [vB pA] [] F (fun v S' F'=>F=F'∧v= .bool r∧S'= []):=by
 refine Cl.of Tryz.func175 rfl (fun _ _=>rfl) (by kernel_rfl) fun s L nx0 hS=>?_
 unfold g_2v.f at h
 refine WW.seq (WW.region ?_)
 refine sg0 hS 1 [] [2] [.bool false] [] (by kernel_rfl) fun s hS=>(KW.nil ?_)
 refine WW.seq (WW.region ?_)
 refine sg0 hS 3 [] [5] [.bool (decide (((48:UInt8).toNat:Int)≤(pA.toNat:Int)))] [] (by kernel_rfl) fun s hS=>(ay 3 (fun s=>Stt EV s [(8,.bool ((decide (((48:UInt8).toNat:Int)≤(pA.toNat:Int)))&&(decide ((pA.toNat:Int)≤((57:UInt8).toNat:Int))))),(2,.bool false)] [] F L F nx0) ?_ fun s hS=>?_)
 rcases aj ((decide (((48:UInt8).toNat:Int)≤(pA.toNat:Int)))) with hcj | hcj
 replace hS:=hS.know (t:=5) rfl (congrArg Value.bool hcj)
 refine sg0 hS 3 [] [8] [.bool (decide ((pA.toNat:Int)≤((57:UInt8).toNat:Int)))] [] (by kernel_rfl) fun s hS=>(KW.nil ?_)
 exact(hS.know (t:=8) (u':= .bool ((decide (((48:UInt8).toNat:Int)≤(pA.toNat:Int)))&&(decide ((pA.toNat:Int)≤((57:UInt8).toNat:Int))))) rfl (aJ hcj)).subR rfl
 replace hS:=hS.know (t:=5) rfl (congrArg Value.bool hcj)
 refine sg0 hS 3 [] [8] [.bool false] [] (by kernel_rfl) fun s hS=>(KW.nil ?_)
 exact(hS.know (t:=8) (u':= .bool ((decide (((48:UInt8).toNat:Int)≤(pA.toNat:Int)))&&(decide ((pA.toNat:Int)≤((57:UInt8).toNat:Int))))) rfl (aL hcj)).subR rfl
 refine sg0 hS 1 [] [2] [.bool ((decide (((48:UInt8).toNat:Int)≤(pA.toNat:Int)))&&(decide ((pA.toNat:Int)≤((57:UInt8).toNat:Int))))] [] (by kernel_rfl) fun s hS=>(KW.nil ?_)
 refine WW.ret ?_
 cases h
 exact ax hS (.inr rfl) 2 rfl rfl ⟨rfl,rfl,rfl⟩
noncomputable def g_33.b0 (pC:List UInt8) (pP:List Bool) (x1:Int):Option ((Int)⊕(Int)) :=
  Option.bind ((if(decide (x1>0)) then(if 0≤(w64 (x1-1))∧(w64 (x1-1))<(pP.length:Int) then some (!(gt pP (w64 (x1-1)))) else none) else some false)) fun z5=>Option.bind ((if z5 then(if 0≤(w64 (x1-1))∧(w64 (x1-1))<(pC.length:Int) then Option.bind (g_2v.f (gt pC (w64 (x1-1)))) fun y29=>some y29 else none) else some false)) fun z17=>(if z17 then some (.inl (w64 (x1-1))) else some (.inr x1))
noncomputable def g_33.f (pC:List UInt8) (pP:List Bool) (pAC:Int):Option (Int) :=
  Option.bind (iter (g_33.b0 pC pP) pAC) fun o2=>some o2
theorem g_33.ok {iB:Nat} {aE:Option Addr} {zH:Nat} {BJ:Seg} {aM:Option Addr} {zN:Nat} {BP:Seg} {aU:Option Addr} {zV:Nat} {BX:Seg} {aZ:Option Addr} {zAA:Nat} {BAC:Seg} {pB:List UInt8} {pC:List UInt8} {pJ:List Int} {pP:List Bool} {pX:List (Int×Int)} {pAC:Int} {F:FZ} {r:Int} (h:g_33.f pC pP pAC=some r) (hI:Own (elB 5) F aE zH pC BJ) (hW:Own (bt 4) F aU zV pP BX) :
    Cl EV 156 [.pointer (some ⟨iB,0,none⟩),.int .i64 pAC] [[(iB,.row [aa pB,.slice aE pC.length zH,.slice aM pJ.length zN,.slice aU pP.length zV,.slice aZ pX.length zAA] 94 0 true)],BJ,BP,BX,BAC] F (fun v S' F'=>F=F'∧v= .int .i64 r∧S'= [[(iB,.row [aa pB,.slice aE pC.length zH,.slice aM pJ.length zN,.slice aU pP.length zV,.slice aZ pX.length zAA] 94 0 true)],BJ,BP,BX,BAC]):=by
 refine Cl.of Tryz.func156 rfl (fun _ _=>rfl) (by kernel_rfl) fun s L nx0 hS=>?_
 unfold g_33.f at h
 refine WW.seq (WW.region ?_)
 refine sg0 hS 1 [] [4] [.int .i64 0] [] (by kernel_rfl) fun s hS=>(KW.nil ?_)
 refine WW.seq (WW.block ?_)
 obtain⟨o2,ho2,h⟩:=bind_some h
 refine WW.loop (LW.iterE ho2 (fun(x1:Int) s=>Stt EV s [(0,.pointer (some ⟨iB,0,none⟩)),(1,.int .i64 x1),(4,.int .i64 0)] [[(iB,.row [aa pB,.slice aE pC.length zH,.slice aM pJ.length zN,.slice aU pP.length zV,.slice aZ pX.length zAA] 94 0 true)],BJ,BP,BX,BAC] F L F nx0) 0 (hS.subR rfl) ?_ ?_)
 clear hS
 rintro x1 s hS o2' h4
 unfold g_33.b0 at h4
 refine WW.seq (WW.seq ?_)
 refine WW.region (sg0 hS 3 [] [7] [.bool (decide (x1>0))] [] (by kernel_rfl) fun s hS=>?_)
 obtain⟨z5,hz5,h4⟩:=bind_some h4
 refine ay 10 (fun s=>Stt EV s [(17,.bool z5),(0,.pointer (some ⟨iB,0,none⟩)),(1,.int .i64 x1),(4,.int .i64 0)] [[(iB,.row [aa pB,.slice aE pC.length zH,.slice aM pJ.length zN,.slice aU pP.length zV,.slice aZ pX.length zAA] 94 0 true)],BJ,BP,BX,BAC] F L F nx0) ?_ fun s hS=>?_
 refine bc hz5 (fun hc6 hz5=>?_) fun hc6 hz5=>?_
 replace hS:=hS.kb 7 hc6 rfl
 refine sg0 hS 6 [0] [11,13] [.slice aU pP.length zV,.int .i64 (w64 (x1-1))] [iB] (by kernel_rfl) fun s hS=>?_
 obtain⟨hk7,hz5⟩:=ac hz5
 obtain⟨i13,cs14,ex15,rfl,rfl,rfl,hC16⟩:=Own.some_ hW (by omega)
 obtain⟨c8,hR9,hN11,hN10,hT12⟩:=ai.loadF hC16 ex15 hk7 (z:=1) rfl
 obtain rfl:=hR9
 refine aw hS (wt hS rfl rfl rfl rfl) rfl rfl rfl (v:= .pointer (some ⟨i13,0+((w64 (x1-1))).toNat*1,none⟩)) (aF (hS.lk rfl) (hS.lk rfl) td hk7) fun s hS=>(eu hS (wt hS rfl rfl rfl rfl) rfl rfl rfl (hS.at (k:=3) rfl) tg4 (v:= .bool (gt pP (w64 (x1-1)))) hN10 fun s hS=>?_)
 refine sg0 hS 2 [] [17] [.bool (!(gt pP (w64 (x1-1))))] [] (by kernel_rfl) fun s hS=>(KW.nil ?_)
 obtain rfl:=Option.some.inj hz5
 exact hS.subR rfl
 replace hS:=hS.kb 7 hc6 rfl
 refine sg0 hS 10 [] [17] [.bool false] [] (by kernel_rfl) fun s hS=>(KW.nil ?_)
 obtain rfl:=Option.some.inj hz5
 exact hS.subR rfl
 refine sg0 hS 1 [] [18] [.bool z5] [] (by kernel_rfl) fun s hS=>?_
 obtain⟨z17,hz17,h4⟩:=bind_some h4
 refine ay 10 (fun s=>Stt EV s [(28,.bool z17),(0,.pointer (some ⟨iB,0,none⟩)),(1,.int .i64 x1),(4,.int .i64 0)] [[(iB,.row [aa pB,.slice aE pC.length zH,.slice aM pJ.length zN,.slice aU pP.length zV,.slice aZ pX.length zAA] 94 0 true)],BJ,BP,BX,BAC] F L F nx0) ?_ fun s hS=>?_
 refine bc hz17 (fun hc18 hz17=>?_) fun hc18 hz17=>?_
 replace hS:=hS.kb 17 hc18 rfl
 replace hS:=hS.kb 18 hc18 rfl
 refine sg0 hS 6 [0] [22,24] [.slice aE pC.length zH,.int .i64 (w64 (x1-1))] [iB] (by kernel_rfl) fun s hS=>?_
 obtain⟨hk19,hz17⟩:=ac hz17
 obtain⟨i25,cs26,ex27,rfl,rfl,rfl,hC28⟩:=Own.some_ hI (by omega)
 obtain⟨c20,hR21,hN23,hN22,hT24⟩:=ai.loadF hC28 ex27 hk19 (z:=1) rfl
 obtain rfl:=hR21
 refine aw hS (wt hS rfl rfl rfl rfl) rfl rfl rfl (v:= .pointer (some ⟨i25,0+((w64 (x1-1))).toNat*1,none⟩)) (aF (hS.lk rfl) (hS.lk rfl) te79 hk19) fun s hS=>(eu hS (wt hS rfl rfl rfl rfl) rfl rfl rfl (hS.at (k:=1) rfl) tg5 (v:=vB (gt pC (w64 (x1-1)))) hN22 fun s hS=>?_)
 obtain⟨y29,hy29,hz17⟩:=bind_some hz17
 refine bu hS (wt hS rfl rfl rfl rfl) (vs:=[vB (gt pC (w64 (x1-1)))]) (ws:=[vB (gt pC (w64 (x1-1)))]) rfl rfl rfl rfl rfl 0 rfl (g_2v.ok hy29) fun s v S' F' hp30 hF hS=>?_
 obtain⟨rfl,rfl,rfl⟩:=hp30
 refine sg0 hS 1 [] [28] [.bool y29] [] (by kernel_rfl) fun s hS=>(KW.nil ?_)
 obtain rfl:=Option.some.inj hz17
 exact hS.subR rfl
 replace hS:=hS.kb 17 hc18 rfl
 replace hS:=hS.kb 18 hc18 rfl
 refine sg0 hS 10 [] [28] [.bool false] [] (by kernel_rfl) fun s hS=>(KW.nil ?_)
 obtain rfl:=Option.some.inj hz17
 exact hS.subR rfl
 refine KW.nil (bc h4 (fun hc31 h4=>?_) fun hc31 h4=>?_)
 refine WW.condK hS rfl hc31 (WW.skip ?_)
 refine WW.block (WW.region ?_)
 refine sg0 hS 3 [] [1] [.int .i64 (w64 (x1-1))] [] (by kernel_rfl) fun s hS=>(KW.nil ?_)
 obtain rfl:=Option.some.inj h4
 exact⟨_,rfl,(hS.subR rfl)⟩
 refine WW.condF hS rfl hc31 (WW.exit ?_)
 refine ae ?_
 obtain rfl:=Option.some.inj h4
 exact⟨_,rfl,rfl,(hS.subR rfl)⟩
 clear hS
 rintro e s ⟨rfl,hS⟩
 refine af (WW.seq ?_)
 refine WW.region (sg0 hS 2 [] [4] [.int .i64 o2] [] (by kernel_rfl) fun s hS=>?_)
 refine KW.nil (WW.ret ?_)
 cases h
 exact ax hS (.inr rfl) 4 rfl rfl ⟨rfl,rfl,rfl⟩
noncomputable def g_35.f (pC:List UInt8) (pP:List Bool) (pAC:Int) (pAD:List UInt8):Option (Bool) :=
  Option.bind ((if(decide (pAC>0)) then(if 0≤(w64 (pAC-1))∧(w64 (pAC-1))<(pP.length:Int) then some (!(gt pP (w64 (pAC-1)))) else none) else some false)) fun z1=>Option.bind ((if z1 then(if 0≤(w64 (pAC-1))∧(w64 (pAC-1))<(pC.length:Int) then Option.bind (g_3c.f pAD (gt pC (w64 (pAC-1)))) fun y25=>some (decide (y25≥0)) else none) else some false)) fun z13=>some z13
theorem g_35.ok {iB:Nat} {aE:Option Addr} {zH:Nat} {BJ:Seg} {aM:Option Addr} {zN:Nat} {BP:Seg} {aU:Option Addr} {zV:Nat} {BX:Seg} {aZ:Option Addr} {zAA:Nat} {BAC:Seg} {pB:List UInt8} {pC:List UInt8} {pJ:List Int} {pP:List Bool} {pX:List (Int×Int)} {pAC:Int} {pAD:List UInt8} {F:FZ} {r:Bool} (h:g_35.f pC pP pAC pAD=some r) (hI:Own (elB 5) F aE zH pC BJ) (hW:Own (bt 4) F aU zV pP BX) :
    Cl EV 157 [.pointer (some ⟨iB,0,none⟩),.int .i64 pAC,aa pAD] [[(iB,.row [aa pB,.slice aE pC.length zH,.slice aM pJ.length zN,.slice aU pP.length zV,.slice aZ pX.length zAA] 94 0 true)],BJ,BP,BX,BAC] F (fun v S' F'=>F=F'∧v= .bool r∧S'= [[(iB,.row [aa pB,.slice aE pC.length zH,.slice aM pJ.length zN,.slice aU pP.length zV,.slice aZ pX.length zAA] 94 0 true)],BJ,BP,BX,BAC]):=by
 refine Cl.of Tryz.func157 rfl (fun _ _=>rfl) (by kernel_rfl) fun s L nx0 hS=>?_
 unfold g_35.f at h
 refine WW.seq (WW.region ?_)
 refine sg0 hS 1 [] [6] [.bool false] [] (by kernel_rfl) fun s hS=>(KW.nil ?_)
 refine WW.seq (WW.region ?_)
 refine sg0 hS 3 [] [9] [.bool (decide (pAC>0))] [] (by kernel_rfl) fun s hS=>?_
 obtain⟨z1,hz1,h⟩:=bind_some h
 refine ay 10 (fun s=>Stt EV s [(19,.bool z1),(0,.pointer (some ⟨iB,0,none⟩)),(1,.int .i64 pAC),(2,aa pAD),(6,.bool false)] [[(iB,.row [aa pB,.slice aE pC.length zH,.slice aM pJ.length zN,.slice aU pP.length zV,.slice aZ pX.length zAA] 94 0 true)],BJ,BP,BX,BAC] F L F nx0) ?_ fun s hS=>?_
 refine bc hz1 (fun hc2 hz1=>?_) fun hc2 hz1=>?_
 replace hS:=hS.kb 9 hc2 rfl
 refine sg0 hS 6 [0] [13,15] [.slice aU pP.length zV,.int .i64 (w64 (pAC-1))] [iB] (by kernel_rfl) fun s hS=>?_
 obtain⟨hk3,hz1⟩:=ac hz1
 obtain⟨i9,cs10,ex11,rfl,rfl,rfl,hC12⟩:=Own.some_ hW (by omega)
 obtain⟨c4,hR5,hN7,hN6,hT8⟩:=ai.loadF hC12 ex11 hk3 (z:=1) rfl
 obtain rfl:=hR5
 refine aw hS (wt hS rfl rfl rfl rfl) rfl rfl rfl (v:= .pointer (some ⟨i9,0+((w64 (pAC-1))).toNat*1,none⟩)) (aF (hS.lk rfl) (hS.lk rfl) td hk3) fun s hS=>(eu hS (wt hS rfl rfl rfl rfl) rfl rfl rfl (hS.at (k:=3) rfl) tg4 (v:= .bool (gt pP (w64 (pAC-1)))) hN6 fun s hS=>?_)
 refine sg0 hS 2 [] [19] [.bool (!(gt pP (w64 (pAC-1))))] [] (by kernel_rfl) fun s hS=>(KW.nil ?_)
 obtain rfl:=Option.some.inj hz1
 exact hS.subR rfl
 replace hS:=hS.kb 9 hc2 rfl
 refine sg0 hS 10 [] [19] [.bool false] [] (by kernel_rfl) fun s hS=>(KW.nil ?_)
 obtain rfl:=Option.some.inj hz1
 exact hS.subR rfl
 refine sg0 hS 1 [] [20] [.bool z1] [] (by kernel_rfl) fun s hS=>?_
 obtain⟨z13,hz13,h⟩:=bind_some h
 refine ay 12 (fun s=>Stt EV s [(32,.bool z13),(6,.bool false)] [[(iB,.row [aa pB,.slice aE pC.length zH,.slice aM pJ.length zN,.slice aU pP.length zV,.slice aZ pX.length zAA] 94 0 true)],BJ,BP,BX,BAC] F L F nx0) ?_ fun s hS=>?_
 refine bc hz13 (fun hc14 hz13=>?_) fun hc14 hz13=>?_
 replace hS:=hS.kb 19 hc14 rfl
 replace hS:=hS.kb 20 hc14 rfl
 refine sg0 hS 7 [0] [21,25,27] [aa pAD,.slice aE pC.length zH,.int .i64 (w64 (pAC-1))] [iB] (by kernel_rfl) fun s hS=>?_
 obtain⟨hk15,hz13⟩:=ac hz13
 obtain⟨i21,cs22,ex23,rfl,rfl,rfl,hC24⟩:=Own.some_ hI (by omega)
 obtain⟨c16,hR17,hN19,hN18,hT20⟩:=ai.loadF hC24 ex23 hk15 (z:=1) rfl
 obtain rfl:=hR17
 refine aw hS (wt hS rfl rfl rfl rfl) rfl rfl rfl (v:= .pointer (some ⟨i21,0+((w64 (pAC-1))).toNat*1,none⟩)) (aF (hS.lk rfl) (hS.lk rfl) te79 hk15) fun s hS=>(eu hS (wt hS rfl rfl rfl rfl) rfl rfl rfl (hS.at (k:=1) rfl) tg5 (v:=vB (gt pC (w64 (pAC-1)))) hN18 fun s hS=>?_)
 obtain⟨y25,hy25,hz13⟩:=bind_some hz13
 refine bu hS (wt hS rfl rfl rfl rfl) (vs:=[aa pAD,vB (gt pC (w64 (pAC-1)))]) (ws:=[aa pAD,vB (gt pC (w64 (pAC-1)))]) rfl rfl rfl rfl rfl 0 rfl (g_3c.ok hy25) fun s v S' F' hp26 hF hS=>?_
 obtain⟨rfl,rfl,rfl⟩:=hp26
 refine sg0 hS 2 [] [32] [.bool (decide (y25≥0))] [] (by kernel_rfl) fun s hS=>(KW.nil ?_)
 obtain rfl:=Option.some.inj hz13
 exact hS.subR rfl
 replace hS:=hS.kb 19 hc14 rfl
 replace hS:=hS.kb 20 hc14 rfl
 refine sg0 hS 12 [] [32] [.bool false] [] (by kernel_rfl) fun s hS=>(KW.nil ?_)
 obtain rfl:=Option.some.inj hz13
 exact hS.subR rfl
 refine sg0 hS 1 [] [6] [.bool z13] [] (by kernel_rfl) fun s hS=>(KW.nil ?_)
 refine WW.ret ?_
 cases h
 exact ax hS (.inr rfl) 6 rfl rfl ⟨rfl,rfl,rfl⟩
noncomputable def g_34.f (pC:List UInt8) (pP:List Bool):Option (Int×Bool) :=
  Option.bind (g_33.f pC pP (pC.length:Int)) fun y1=>(if(y1==(pC.length:Int)) then some (0,false) else Option.bind (g_35.f pC pP y1 ([40,44,47,61])) fun y4=>(if y4 then some (y1,true) else Option.bind (g_35.f pC pP y1 ([42])) fun y7=>(if(!y7) then some (0,false) else Option.bind (g_33.f pC pP (w64 (y1-1))) fun y10=>Option.bind ((if(decide (y10<(w64 (y1-1)))) then Option.bind (g_35.f pC pP y10 ([40,44,47,61])) fun y14=>some y14 else some false)) fun z12=>some (y1,z12))))
theorem g_34.ok {iB:Nat} {aE:Option Addr} {zH:Nat} {BJ:Seg} {aM:Option Addr} {zN:Nat} {BP:Seg} {aU:Option Addr} {zV:Nat} {BX:Seg} {aZ:Option Addr} {zAA:Nat} {BAC:Seg} {pB:List UInt8} {pC:List UInt8} {pJ:List Int} {pP:List Bool} {pX:List (Int×Int)} {F:FZ} {r:Int×Bool} (h:g_34.f pC pP=some r) (hI:Own (elB 5) F aE zH pC BJ) (hW:Own (bt 4) F aU zV pP BX) :
    Cl EV 117 [.pointer (some ⟨iB,0,none⟩)] [[(iB,.row [aa pB,.slice aE pC.length zH,.slice aM pJ.length zN,.slice aU pP.length zV,.slice aZ pX.length zAA] 94 0 true)],BJ,BP,BX,BAC] F (fun v S' F'=>F=F'∧v= .tuple #[.int .i64 r.1,.bool r.2]∧S'= [[(iB,.row [aa pB,.slice aE pC.length zH,.slice aM pJ.length zN,.slice aU pP.length zV,.slice aZ pX.length zAA] 94 0 true)],BJ,BP,BX,BAC]):=by
 refine Cl.of Tryz.func117 rfl (fun _ _=>rfl) (by kernel_rfl) fun s L nx0 hS=>?_
 unfold g_34.f at h
 refine WW.seq (WW.region ?_)
 refine sg0 hS 2 [] [2,3] [.int .i64 0,.bool false] [] (by kernel_rfl) fun s hS=>(KW.nil ?_)
 refine WW.seq (WW.region ?_)
 refine sg0 hS 6 [0] [4] [.int .i64 (pC.length:Int)] [iB] (by kernel_rfl) fun s hS=>(KW.nil ?_)
 refine WW.seq (WW.region ?_)
 obtain⟨y1,hy1,h⟩:=bind_some h
 refine cR (g_33.ok hy1 hI hW) hS 2 14 5 rfl (by kernel_rfl) fun s hS=>(sg0 hS 1 [] [5] [.int .i64 y1] [] (by kernel_rfl) fun s hS=>?_)
 refine KW.nil (WW.seq ?_)
 refine WW.seq (WW.region ?_)
 refine sg0 hS 3 [] [17] [.bool (y1==(pC.length:Int))] [] (by kernel_rfl) fun s hS=>(KW.nil ?_)
 refine bc h (fun hc3 h=>?_) fun hc3 h=>?_
 refine WW.condK hS rfl hc3 (WW.seq ?_)
 refine WW.region (sg0 hS 2 [] [2,3] [.int .i64 0,.bool false] [] (by kernel_rfl) fun s hS=>?_)
 refine KW.nil (WW.ret ?_)
 cases h
 exact bP hS (.inr rfl) 2 3 rfl rfl rfl ⟨rfl,rfl,rfl⟩
 refine WW.condF hS rfl hc3 (WW.skip ?_)
 refine WW.seq (WW.seq ?_)
 refine WW.region ?_
 obtain⟨y4,hy4,h⟩:=bind_some h
 refine cR (g_35.ok hy4 hI hW) hS 2 20 5 rfl (by kernel_rfl) fun s hS=>(KW.nil ?_)
 refine bc h (fun hc6 h=>?_) fun hc6 h=>?_
 refine WW.condK hS rfl hc6 (WW.seq ?_)
 refine WW.region (sg0 hS 3 [] [2,3] [.int .i64 y1,.bool true] [] (by kernel_rfl) fun s hS=>?_)
 refine KW.nil (WW.ret ?_)
 cases h
 exact bP hS (.inr rfl) 2 3 rfl rfl rfl ⟨rfl,rfl,rfl⟩
 refine WW.condF hS rfl hc6 (WW.skip ?_)
 refine WW.seq (WW.seq ?_)
 refine WW.region ?_
 obtain⟨y7,hy7,h⟩:=bind_some h
 refine cR (g_35.ok hy7 hI hW) hS 2 24 5 rfl (by kernel_rfl) fun s hS=>(sg0 hS 1 [] [25] [.bool (!y7)] [] (by kernel_rfl) fun s hS=>?_)
 refine KW.nil (bc h (fun hc9 h=>?_) fun hc9 h=>?_)
 refine WW.condK hS rfl hc9 (WW.seq ?_)
 refine WW.region (sg0 hS 2 [] [2,3] [.int .i64 0,.bool false] [] (by kernel_rfl) fun s hS=>?_)
 refine KW.nil (WW.ret ?_)
 cases h
 exact bP hS (.inr rfl) 2 3 rfl rfl rfl ⟨rfl,rfl,rfl⟩
 refine WW.condF hS rfl hc9 (WW.skip ?_)
 refine WW.seq (WW.region ?_)
 obtain⟨y10,hy10,h⟩:=bind_some h
 refine cR (g_33.ok hy10 hI hW) hS 3 29 5 rfl (by kernel_rfl) fun s hS=>(sg0 hS 1 [] [6] [.int .i64 y10] [] (by kernel_rfl) fun s hS=>?_)
 refine KW.nil (WW.seq ?_)
 refine WW.region (sg0 hS 6 [] [30,35] [.int .i64 y1,.bool (decide (y10<(w64 (y1-1))))] [] (by kernel_rfl) fun s hS=>?_)
 obtain⟨z12,hz12,h⟩:=bind_some h
 refine ay 4 (fun s=>Stt EV s [(39,.bool z12),(2,.int .i64 0),(3,.bool false),(30,.int .i64 y1)] [[(iB,.row [aa pB,.slice aE pC.length zH,.slice aM pJ.length zN,.slice aU pP.length zV,.slice aZ pX.length zAA] 94 0 true)],BJ,BP,BX,BAC] F L F nx0) ?_ fun s hS=>?_
 refine bc hz12 (fun hc13 hz12=>?_) fun hc13 hz12=>?_
 replace hS:=hS.kb 35 hc13 rfl
 refine sg0 hS 2 [] [36,37] [.pointer (some ⟨iB,0,none⟩),.int .i64 y10] [] (by kernel_rfl) fun s hS=>?_
 obtain⟨y14,hy14,hz12⟩:=bind_some hz12
 refine bu hS (wt hS rfl rfl rfl rfl) (vs:=[.pointer (some ⟨iB,0,none⟩),.int .i64 y10,aa ([40,44,47,61])]) (ws:=[.pointer (some ⟨iB,0,none⟩),.int .i64 y10,aa ([40,44,47,61])]) rfl rfl rfl rfl rfl 5 rfl (g_35.ok hy14 hI hW) fun s v S' F' hp15 hF hS=>?_
 obtain⟨rfl,rfl,rfl⟩:=hp15
 refine sg0 hS 1 [] [39] [.bool y14] [] (by kernel_rfl) fun s hS=>(KW.nil ?_)
 obtain rfl:=Option.some.inj hz12
 exact hS.subR rfl
 replace hS:=hS.kb 35 hc13 rfl
 refine sg0 hS 4 [] [39] [.bool false] [] (by kernel_rfl) fun s hS=>(KW.nil ?_)
 obtain rfl:=Option.some.inj hz12
 exact hS.subR rfl
 refine sg0 hS 2 [] [2,3] [.int .i64 y1,.bool z12] [] (by kernel_rfl) fun s hS=>(KW.nil ?_)
 refine WW.ret ?_
 cases h
 exact bP hS (.inr rfl) 2 3 rfl rfl rfl ⟨rfl,rfl,rfl⟩
noncomputable def g_32.f (pB:List UInt8) (pC:List UInt8) (pJ:List Int) (pP:List Bool) (pX:List (Int×Int)) (pAC:Int) (pAD:Int):Option (Int×Int×List UInt8×List Int×List Bool×(List (Int×Int))) :=
  (if 0≤pAC∧pAC≤(pC.length:Int)∧(pC.length:Int)≤(pC.length:Int) then Option.bind (g_atoi.f (mid pC pAC (pC.length:Int))) fun y5=>(if(y5.2||(decide (y5.1>(w64 ((w64 ((pB.length:Int)-pAD))-1))))) then some (0,21,pC,pJ,pP,pX) else(if(y5.1==0) then some (0,11,pC,pJ,pP,pX) else(if 0≤pAC∧pAC<(pJ.length:Int) then(if pX.length+([((gt pJ pAC),(w64 ((w64 (pAD+1))+y5.1)))]:List (Int×Int)).length<1000000000 then Option.bind (g_37.f pC pJ pP 72 pAD false) fun y25=>Option.bind (g_31.f pB y25.1 y25.2.1 y25.2.2 (w64 (pAD+1)) (w64 ((w64 (pAD+1))+y5.1))) fun y39=>some ((w64 ((w64 (pAD+1))+y5.1)),0,y39.1,y39.2.1,y39.2.2,(pX++([((gt pJ pAC),(w64 ((w64 (pAD+1))+y5.1)))]:List (Int×Int)))) else none) else none))) else none)
theorem g_32.ok {iB:Nat} {aE:Option Addr} {zH:Nat} {BJ:Seg} {aM:Option Addr} {zN:Nat} {BP:Seg} {aU:Option Addr} {zV:Nat} {BX:Seg} {aZ:Option Addr} {zAA:Nat} {BAC:Seg} {pB:List UInt8} {pC:List UInt8} {pJ:List Int} {pP:List Bool} {pX:List (Int×Int)} {pAC:Int} {pAD:Int} {F:FZ} {r:Int×Int×List UInt8×List Int×List Bool×(List (Int×Int))} (h:g_32.f pB pC pJ pP pX pAC pAD=some r) (hI:Own (elB 5) F aE zH pC BJ) (hO:Own (elI .i64 3) F aM zN pJ BP) (hW:Own (bt 4) F aU zV pP BX) (hAB:Own dk F aZ zAA pX BAC) (hG:Gl F) :
    Cl EV 118 [.pointer (some ⟨iB,0,none⟩),.int .i64 pAC,.int .i64 pAD] [[(iB,.row [aa pB,.slice aE pC.length zH,.slice aM pJ.length zN,.slice aU pP.length zV,.slice aZ pX.length zAA] 94 0 true)],BJ,BP,BX,BAC] F (fun v S' F'=> ∃(ra1:Option Addr) (rz2:Nat) (rB4:Seg) (ra5:Option Addr) (rz6:Nat) (rB8:Seg) (ra9:Option Addr) (rz10:Nat) (rB12:Seg) (ra13:Option Addr) (rz14:Nat) (rB16:Seg),F=F'∧v= .tuple #[.int .i64 r.1,.int .i64 r.2.1]∧S'= [[(iB,.row [aa pB,.slice ra1 r.2.2.1.length rz2,.slice ra5 r.2.2.2.1.length rz6,.slice ra9 r.2.2.2.2.1.length rz10,.slice ra13 r.2.2.2.2.2.length rz14] 94 0 true)],rB4,rB8,rB12,rB16]∧Own (elB 5) F' ra1 rz2 r.2.2.1 rB4∧Own (elI .i64 3) F' ra5 rz6 r.2.2.2.1 rB8∧Own (bt 4) F' ra9 rz10 r.2.2.2.2.1 rB12∧Own dk F' ra13 rz14 r.2.2.2.2.2 rB16):=by
 refine Cl.of Tryz.func118 rfl (fun _ _=>rfl) (by kernel_rfl) fun s L nx0 hS=>?_
 unfold g_32.f at h
 refine WW.seq (WW.region ?_)
 refine sg0 hS 2 [] [6,7] [.int .i64 0,.int .i64 0] [] (by kernel_rfl) fun s hS=>(KW.nil ?_)
 refine WW.seq (WW.region ?_)
 refine sg0 hS 5 [0] [15,16] [.slice aE pC.length zH,.int .i64 pAC] [iB] (by kernel_rfl) fun s hS=>?_
 obtain⟨hk1,h⟩:=ac h
 obtain⟨a2,he3,hz4⟩:=Own.view hI hk1 (m:=1) rfl
 refine aw hS (wn rfl) rfl rfl rfl (v:= .slice a2 (mid pC pAC (pC.length:Int)).length zH) (fi te79 (hS.lk rfl) (i:=pAC) (h:=(pC.length:Int)) (bF hS rfl) rfl he3) fun s hS=>(q_cvV hS (wn rfl) rfl rfl (lst:=(mid pC pAC (pC.length:Int))) rfl hz4 (p:=1) rfl (cf0 jq tb5 tu9) (cf1 jq tb5 tu9) fun s hS=>?_)
 obtain⟨y5,hy5,h⟩:=bind_some h
 refine cR (g_atoi.ok hy5 hG) hS 0 19 0 rfl (by kernel_rfl) fun s hS=>(sg0 hS 5 [] [8,9] [.int .i64 y5.1,sO 157 y5.2] [] (by kernel_rfl) fun s hS=>?_)
 refine KW.nil (WW.seq ?_)
 refine WW.seq (WW.region ?_)
 refine sg0 hS 1 [] [22] [sO 157 y5.2] [] (by kernel_rfl) fun s hS=>(aw hS (wn rfl) rfl rfl rfl (v:= .bool y5.2) (tn83neq (hS.lk rfl) (hS.lk rfl)) fun s hS=>?_)
 refine sg0 hS 1 [] [24] [.bool y5.2] [] (by kernel_rfl) fun s hS=>(ay 11 (fun s=>Stt EV s [(35,.bool (y5.2||(decide (y5.1>(w64 ((w64 ((pB.length:Int)-pAD))-1)))))),(0,.pointer (some ⟨iB,0,none⟩)),(1,.int .i64 pAC),(2,.int .i64 pAD),(6,.int .i64 0),(7,.int .i64 0),(8,.int .i64 y5.1)] [[(iB,.row [aa pB,.slice aE pC.length zH,.slice aM pJ.length zN,.slice aU pP.length zV,.slice aZ pX.length zAA] 94 0 true)],BJ,BP,BX,BAC] F L F nx0) ?_ fun s hS=>?_)
 rcases aj (y5.2) with hcj | hcj
 replace hS:=hS.know (t:=23) rfl (congrArg Value.bool hcj)
 replace hS:=hS.know (t:=24) rfl (congrArg Value.bool hcj)
 refine sg0 hS 11 [] [35] [.bool true] [] (by kernel_rfl) fun s hS=>(KW.nil ?_)
 exact(hS.know (t:=35) (u':= .bool (y5.2||(decide (y5.1>(w64 ((w64 ((pB.length:Int)-pAD))-1)))))) rfl (bH hcj)).subR rfl
 replace hS:=hS.know (t:=23) rfl (congrArg Value.bool hcj)
 replace hS:=hS.know (t:=24) rfl (congrArg Value.bool hcj)
 refine sg0 hS 11 [0] [35] [.bool (decide (y5.1>(w64 ((w64 ((pB.length:Int)-pAD))-1))))] [iB] (by kernel_rfl) fun s hS=>(KW.nil ?_)
 exact(hS.know (t:=35) (u':= .bool (y5.2||(decide (y5.1>(w64 ((w64 ((pB.length:Int)-pAD))-1)))))) rfl (bI hcj)).subR rfl
 refine KW.nil (bc h (fun hc7 h=>?_) fun hc7 h=>?_)
 refine WW.condK hS rfl hc7 (WW.seq ?_)
 refine WW.region (sg0 hS 2 [] [6,7] [.int .i64 0,.int .i64 21] [] (by kernel_rfl) fun s hS=>?_)
 refine KW.nil (WW.ret ?_)
 cases h
 exact bP hS (.inr rfl) 6 7 rfl rfl rfl ⟨_,_,_,_,_,_,_,_,_,_,_,_,rfl,rfl,rfl,hI,hO,hW,hAB⟩
 refine WW.condF hS rfl hc7 (WW.skip ?_)
 refine WW.seq (WW.seq ?_)
 refine WW.region (sg0 hS 2 [] [37] [.bool (y5.1==0)] [] (by kernel_rfl) fun s hS=>?_)
 refine KW.nil (bc h (fun hc8 h=>?_) fun hc8 h=>?_)
 refine WW.condK hS rfl hc8 (WW.seq ?_)
 refine WW.region (sg0 hS 2 [] [6,7] [.int .i64 0,.int .i64 11] [] (by kernel_rfl) fun s hS=>?_)
 refine KW.nil (WW.ret ?_)
 cases h
 exact bP hS (.inr rfl) 6 7 rfl rfl rfl ⟨_,_,_,_,_,_,_,_,_,_,_,_,rfl,rfl,rfl,hI,hO,hW,hAB⟩
 refine WW.condF hS rfl hc8 (WW.skip ?_)
 refine WW.seq (WW.region ?_)
 refine sg0 hS 5 [] [10] [.int .i64 (w64 ((w64 (pAD+1))+y5.1))] [] (by kernel_rfl) fun s hS=>(KW.nil ?_)
 refine WW.seq (WW.regionD (i:=[[],[0],[0],[0],[0],[4,3,2,1,0],[4,3,2,1,0],[4,3,2,1,0],[4,3,2,1,0],[8,7,6,5,4,3,2,1,0],[4,3,2,1,0],[4,3,2,1,0],[11,10,9,8,7,6,5,4,3,2,1,0],[4,3,2,1,0],[4,3,2,1,0],[0],[],[],[]]) (by kernel_rfl) ?_)
 have hq:=RS.start [iB]
 refine kg hS hq 4 [42,45] [.pointer (some ⟨iB,0,none⟩),.pointer (some ⟨iB,4,none⟩)] (by kernel_rfl) fun s rs hS hq=>(K.ld hS hq rfl (wn rfl) rfl rfl rfl (hS.at (k:=0) rfl) tg46 (v:= .slice aZ pX.length zAA) rfl 0 rfl rfl fun s rs hS hq=>?_)
 refine kg hS hq 3 [49] [.pointer (some ⟨iB,2,none⟩)] (by kernel_rfl) fun s rs hS hq=>(K.ld hS hq rfl (wn rfl) rfl rfl rfl (hS.at (k:=0) rfl) fL (v:= .slice aM pJ.length zN) rfl 0 rfl rfl fun s rs hS hq=>?_)
 refine kg hS hq 1 [51] [.int .i64 pAC] (by kernel_rfl) fun s rs hS hq=>?_
 obtain⟨hk9,h⟩:=ac h
 obtain⟨i15,cs16,ex17,rfl,rfl,rfl,hC18⟩:=Own.some_ hO (by omega)
 obtain⟨c10,hR11,hN13,hN12,hT14⟩:=ai.loadF hC18 ex17 hk9 (z:=1) rfl
 obtain rfl:=hR11
 refine K.pu hS hq rfl (wn rfl) rfl rfl rfl (v:= .pointer (some ⟨i15,0+(pAC).toNat*1,none⟩)) (aF (hS.lk rfl) (hS.lk rfl) dj hk9) fun s rs hS hq=>?_
 replace hq:=hq.more i15 rfl rfl rfl
 refine K.ld hS hq rfl (wn rfl) rfl rfl rfl (hS.at (k:=2) rfl) tg3 (v:= .int .i64 (gt pJ pAC)) hN12 1 rfl rfl fun s rs hS hq=>(kg hS hq 1 [54] [.int .i64 (w64 ((w64 (pAD+1))+y5.1))] (by kernel_rfl) fun s rs hS hq=>?_)
 refine K.pu hS hq rfl (wn rfl) rfl rfl rfl (v:= .agg #[.int .i64 (gt pJ pAC),.int .i64 (w64 ((w64 (pAD+1))+y5.1))]) (eq fV tf tz3 [(0,.int .i64 (gt pJ pAC)),(1,.int .i64 (w64 ((w64 (pAD+1))+y5.1)))] (av hS rfl) (cs:=[.int .i64 (gt pJ pAC),.int .i64 (w64 ((w64 (pAD+1))+y5.1))]) rfl) fun s rs hS hq=>(K.nw hS hq rfl (wn rfl) rfl rfl rfl (v:=fun i=> .slice (some ⟨i,0,none⟩) 1 2) (b:= .row [.int .i64 (gt pJ pAC),.int .i64 (w64 ((w64 (pAD+1))+y5.1))] 50 2 true) (aW tu46 ro fV rfl [(0,.agg #[.int .i64 (gt pJ pAC),.int .i64 (w64 ((w64 (pAD+1))+y5.1))])] (av hS rfl) rfl) [0,1] (aP rfl mm0 (aP rfl (mm1 (mm1 mm0)) bn)) rfl rfl rfl fun s rs i19 hS hq=>?_)
 have hC20:ai dk F ([((gt pJ pAC),(w64 ((w64 (pAD+1))+y5.1)))]:List (Int×Int)) [.int .i64 (gt pJ pAC),.int .i64 (w64 ((w64 (pAD+1))+y5.1))]:=⟨[.int .i64 (gt pJ pAC),.int .i64 (w64 ((w64 (pAD+1))+y5.1))],[],rfl,rfl,rfl⟩
 obtain⟨hk24,h⟩:=ac h
 replace hS:=hS.pull 5
 replace hS:=hS.pull 1
 refine K.app [] hS hq rfl (wn rfl) (dd:=dk) (lst:=pX) (m:=([((gt pJ pAC),(w64 ((w64 (pAD+1))+y5.1)))]:List (Int×Int))) rfl rfl jw rfl rfl hAB (Nat.succ_pos _) hC20 hk24 [0,1] rfl rfl (aP rfl mm0 (aP rfl (mm1 (mm1 mm0)) bn)) fun s rs i21 cs22 hC23 hS hq=>(kg hS hq 2 [59] [.pointer (some ⟨iB,4,none⟩)] (by kernel_rfl) fun s rs hS hq=>?_)
 refine K.sto hS hq rfl (wn rfl) rfl rfl rfl rfl (p:=1) rfl tz46 rfl [aa pB,.slice aE pC.length zH,.slice (some ⟨i15,0,none⟩) pJ.length 1,.slice aU pP.length zV,.slice (some ⟨i21,0,none⟩) (pX++([((gt pJ pAC),(w64 ((w64 (pAD+1))+y5.1)))]:List (Int×Int))).length 2] rfl [1] rfl (aP rfl (mm1 (mm1 mm0)) bn) fun s rs hS hq=>(KW.nil ?_)
 refine WW.seq (WW.region ?_)
 obtain⟨y25,hy25,h⟩:=bind_some h
 replace hS:=hS.pull 4
 replace hS:=hS.pull 4
 replace hS:=hS.pull 4
 replace hS:=hS.pull 4
 refine cK (g_37.ok hy25 hI (Own.blk ex17 hC18) hW) hS 2 62 5 rfl (by kernel_rfl) fun s v S' F' hp26 hF hS=>?_
 obtain⟨a27,z28,B30,a31,z32,B34,a35,z36,B38,rfl,rfl,rfl,h29,h33,h37⟩:=hp26
 refine KW.nil (WW.seq ?_)
 refine WW.region ?_
 obtain⟨y39,hy39,h⟩:=bind_some h
 refine cK (g_31.ok hy39 h29 h33 h37) hS 4 67 5 rfl (by kernel_rfl) fun s v S' F' hp40 hF hS=>?_
 obtain⟨a41,z42,B44,a45,z46,B48,a49,z50,B52,rfl,rfl,rfl,h43,h47,h51⟩:=hp40
 refine KW.nil (WW.seq ?_)
 refine WW.region (sg0 hS 3 [] [6,7] [.int .i64 (w64 ((w64 (pAD+1))+y5.1)),.int .i64 0] [] (by kernel_rfl) fun s hS=>?_)
 refine KW.nil (WW.ret ?_)
 cases h
 exact bP hS (.inr rfl) 6 7 rfl rfl rfl ⟨_,_,_,_,_,_,_,_,_,_,_,_,rfl,rfl,rfl,h43,h47,h51,(Own.blk0 hC23)⟩
noncomputable def g_36.f (pB:List UInt8) (pC:List UInt8) (pJ:List Int) (pP:List Bool) (pX:List (Int×Int)) (pAC:Int):Option (Int×Int×List UInt8×List Int×List Bool×(List (Int×Int))) :=
  (if 0≤pAC∧pAC<(pB.length:Int) then Option.bind (g_2w.f (gt pB pAC)) fun y2=>(if y2 then Option.bind (g_30.f pB pC pJ pP pX pAC) fun y5=>some (y5.1,y5.2.1,y5.2.2.1,y5.2.2.2.1,y5.2.2.2.2.1,y5.2.2.2.2.2) else Option.bind ((if((decide (((97:UInt8).toNat:Int)≤((gt pB pAC).toNat:Int)))&&(decide (((gt pB pAC).toNat:Int)≤((122:UInt8).toNat:Int)))) then some ((gt pB pAC)-32) else some (gt pB pAC))) fun z23=>(if((z23.toNat:Int)==((72:UInt8).toNat:Int)) then Option.bind (g_34.f pC pP) fun y26=>(if y26.2 then Option.bind (g_32.f pB pC pJ pP pX y26.1 pAC) fun y29=>some (y29.1,y29.2.1,y29.2.2.1,y29.2.2.2.1,y29.2.2.2.2.1,y29.2.2.2.2.2) else Option.bind ((if((z23.toNat:Int) != ((32:UInt8).toNat:Int)) then Option.bind (g_37.f pC pJ pP z23 pAC false) fun y61=>some (y61.1,y61.2.1,y61.2.2) else some (pC,pJ,pP))) fun z47=>some ((w64 (pAC+1)),0,z47.1,z47.2.1,z47.2.2,pX)) else Option.bind ((if((z23.toNat:Int) != ((32:UInt8).toNat:Int)) then Option.bind (g_37.f pC pJ pP z23 pAC false) fun y89=>some (y89.1,y89.2.1,y89.2.2) else some (pC,pJ,pP))) fun z75=>some ((w64 (pAC+1)),0,z75.1,z75.2.1,z75.2.2,pX))) else none)
theorem g_36.ok {iB:Nat} {aE:Option Addr} {zH:Nat} {BJ:Seg} {aM:Option Addr} {zN:Nat} {BP:Seg} {aU:Option Addr} {zV:Nat} {BX:Seg} {aZ:Option Addr} {zAA:Nat} {BAC:Seg} {pB:List UInt8} {pC:List UInt8} {pJ:List Int} {pP:List Bool} {pX:List (Int×Int)} {pAC:Int} {F:FZ} {r:Int×Int×List UInt8×List Int×List Bool×(List (Int×Int))} (h:g_36.f pB pC pJ pP pX pAC=some r) (hI:Own (elB 5) F aE zH pC BJ) (hO:Own (elI .i64 3) F aM zN pJ BP) (hW:Own (bt 4) F aU zV pP BX) (hAB:Own dk F aZ zAA pX BAC) (hG:Gl F) :
    Cl EV 88 [.pointer (some ⟨iB,0,none⟩),.int .i64 pAC] [[(iB,.row [aa pB,.slice aE pC.length zH,.slice aM pJ.length zN,.slice aU pP.length zV,.slice aZ pX.length zAA] 94 0 true)],BJ,BP,BX,BAC] F (fun v S' F'=> ∃(ra1:Option Addr) (rz2:Nat) (rB4:Seg) (ra5:Option Addr) (rz6:Nat) (rB8:Seg) (ra9:Option Addr) (rz10:Nat) (rB12:Seg) (ra13:Option Addr) (rz14:Nat) (rB16:Seg),F=F'∧v= .tuple #[.int .i64 r.1,.int .i64 r.2.1]∧S'= [[(iB,.row [aa pB,.slice ra1 r.2.2.1.length rz2,.slice ra5 r.2.2.2.1.length rz6,.slice ra9 r.2.2.2.2.1.length rz10,.slice ra13 r.2.2.2.2.2.length rz14] 94 0 true)],rB4,rB8,rB12,rB16]∧Own (elB 5) F' ra1 rz2 r.2.2.1 rB4∧Own (elI .i64 3) F' ra5 rz6 r.2.2.2.1 rB8∧Own (bt 4) F' ra9 rz10 r.2.2.2.2.1 rB12∧Own dk F' ra13 rz14 r.2.2.2.2.2 rB16):=by
 refine Cl.of Tryz.func88 rfl (fun _ _=>rfl) (by kernel_rfl) fun s L nx0 hS=>?_
 unfold g_36.f at h
 refine WW.seq (WW.region ?_)
 refine sg0 hS 2 [] [4,5] [.int .i64 0,.int .i64 0] [] (by kernel_rfl) fun s hS=>(KW.nil ?_)
 refine WW.seq (WW.region ?_)
 refine sg0 hS 5 [0] [12,13] [aa pB,.int .i64 pAC] [iB] (by kernel_rfl) fun s hS=>?_
 obtain⟨hk1,h⟩:=ac h
 refine aw hS (wn rfl) rfl rfl rfl (v:=vB (gt pB pAC)) (au tu9 (hS.lk rfl) (hS.lk rfl) hk1) fun s hS=>(sg0 hS 1 [] [6] [vB (gt pB pAC)] [] (by kernel_rfl) fun s hS=>?_)
 refine KW.nil (WW.seq ?_)
 refine WW.seq (WW.region ?_)
 obtain⟨y2,hy2,h⟩:=bind_some h
 refine cR (g_2w.ok hy2) hS 1 16 0 rfl (by kernel_rfl) fun s hS=>(KW.nil ?_)
 refine bc h (fun hc4 h=>?_) fun hc4 h=>?_
 refine WW.condK hS rfl hc4 (WW.seq ?_)
 refine WW.region ?_
 obtain⟨y5,hy5,h⟩:=bind_some h
 refine cK (g_30.ok hy5 hI hO hW hAB) hS 2 19 5 rfl (by kernel_rfl) fun s v S' F' hp6 hF hS=>?_
 obtain⟨a7,z8,B10,a11,z12,B14,a15,z16,B18,a19,z20,B22,rfl,rfl,rfl,h9,h13,h17,h21⟩:=hp6
 refine sg0 hS 4 [] [4,5] [.int .i64 y5.1,.int .i64 y5.2.1] [] (by kernel_rfl) fun s hS=>(KW.nil ?_)
 refine WW.ret ?_
 cases h
 exact bP hS (.inr rfl) 4 5 rfl rfl rfl ⟨_,_,_,_,_,_,_,_,_,_,_,_,rfl,rfl,rfl,h9,h13,h17,h21⟩
 refine WW.condF hS rfl hc4 (WW.skip ?_)
 obtain⟨z23,hz23,h⟩:=bind_some h
 refine WW.seqJ (fun s=>Stt EV s [(0,.pointer (some ⟨iB,0,none⟩)),(1,.int .i64 pAC),(4,.int .i64 0),(5,.int .i64 0),(6,vB z23)] [[(iB,.row [aa pB,.slice aE pC.length zH,.slice aM pJ.length zN,.slice aU pP.length zV,.slice aZ pX.length zAA] 94 0 true)],BJ,BP,BX,BAC] F L F nx0) ?_ ?_
 refine WW.seq (WW.region ?_)
 refine sg0 hS 3 [] [24] [.bool (decide (((97:UInt8).toNat:Int)≤((gt pB pAC).toNat:Int)))] [] (by kernel_rfl) fun s hS=>(ay 3 (fun s=>Stt EV s [(27,.bool ((decide (((97:UInt8).toNat:Int)≤((gt pB pAC).toNat:Int)))&&(decide (((gt pB pAC).toNat:Int)≤((122:UInt8).toNat:Int))))),(0,.pointer (some ⟨iB,0,none⟩)),(1,.int .i64 pAC),(4,.int .i64 0),(5,.int .i64 0),(6,vB (gt pB pAC))] [[(iB,.row [aa pB,.slice aE pC.length zH,.slice aM pJ.length zN,.slice aU pP.length zV,.slice aZ pX.length zAA] 94 0 true)],BJ,BP,BX,BAC] F L F nx0) ?_ fun s hS=>?_)
 rcases aj ((decide (((97:UInt8).toNat:Int)≤((gt pB pAC).toNat:Int)))) with hcj | hcj
 replace hS:=hS.know (t:=24) rfl (congrArg Value.bool hcj)
 refine sg0 hS 3 [] [27] [.bool (decide (((gt pB pAC).toNat:Int)≤((122:UInt8).toNat:Int)))] [] (by kernel_rfl) fun s hS=>(KW.nil ?_)
 exact(hS.know (t:=27) (u':= .bool ((decide (((97:UInt8).toNat:Int)≤((gt pB pAC).toNat:Int)))&&(decide (((gt pB pAC).toNat:Int)≤((122:UInt8).toNat:Int))))) rfl (aJ hcj)).subR rfl
 replace hS:=hS.know (t:=24) rfl (congrArg Value.bool hcj)
 refine sg0 hS 3 [] [27] [.bool false] [] (by kernel_rfl) fun s hS=>(KW.nil ?_)
 exact(hS.know (t:=27) (u':= .bool ((decide (((97:UInt8).toNat:Int)≤((gt pB pAC).toNat:Int)))&&(decide (((gt pB pAC).toNat:Int)≤((122:UInt8).toNat:Int))))) rfl (aL hcj)).subR rfl
 refine KW.nil (bc hz23 (fun hc24 hz23=>?_) fun hc24 hz23=>?_)
 refine WW.condK hS rfl hc24 (WW.region ?_)
 refine sg0 hS 1 [] [28] [vB (gt pB pAC)] [] (by kernel_rfl) fun s hS=>(aw hS (wn rfl) rfl rfl rfl (v:=vB ((gt pB pAC)-32)) (iG (hS.lk rfl) (hS.lk rfl)) fun s hS=>?_)
 refine sg0 hS 1 [] [6] [vB ((gt pB pAC)-32)] [] (by kernel_rfl) fun s hS=>(KW.nil ?_)
 obtain rfl:=Option.some.inj hz23
 exact(hS.subR rfl)
 refine WW.condF hS rfl hc24 (WW.skip ?_)
 obtain rfl:=Option.some.inj hz23
 exact(hS.subR rfl)
 rintro s hS
 refine WW.seq (WW.seq ?_)
 refine WW.region (sg0 hS 2 [] [31] [.bool ((z23.toNat:Int)==((72:UInt8).toNat:Int))] [] (by kernel_rfl) fun s hS=>?_)
 refine KW.nil (bc h (fun hc25 h=>?_) fun hc25 h=>?_)
 refine WW.condK hS rfl hc25 (WW.seq ?_)
 refine WW.region ?_
 obtain⟨y26,hy26,h⟩:=bind_some h
 refine cR (g_34.ok hy26 hI hW) hS 1 34 5 rfl (by kernel_rfl) fun s hS=>(sg0 hS 5 [] [7,8] [.int .i64 y26.1,.bool y26.2] [] (by kernel_rfl) fun s hS=>?_)
 refine KW.nil (WW.seq ?_)
 refine WW.region (sg0 hS 1 [] [37] [.bool y26.2] [] (by kernel_rfl) fun s hS=>?_)
 refine KW.nil (bc h (fun hc28 h=>?_) fun hc28 h=>?_)
 refine WW.condK hS rfl hc28 (WW.seq ?_)
 refine WW.region ?_
 obtain⟨y29,hy29,h⟩:=bind_some h
 refine cK (g_32.ok hy29 hI hO hW hAB hG) hS 3 41 5 rfl (by kernel_rfl) fun s v S' F' hp30 hF hS=>?_
 obtain⟨a31,z32,B34,a35,z36,B38,a39,z40,B42,a43,z44,B46,rfl,rfl,rfl,h33,h37,h41,h45⟩:=hp30
 refine sg0 hS 4 [] [4,5] [.int .i64 y29.1,.int .i64 y29.2.1] [] (by kernel_rfl) fun s hS=>(KW.nil ?_)
 refine WW.ret ?_
 cases h
 exact bP hS (.inr rfl) 4 5 rfl rfl rfl ⟨_,_,_,_,_,_,_,_,_,_,_,_,rfl,rfl,rfl,h33,h37,h41,h45⟩
 refine WW.condF hS rfl hc28 (WW.skip ?_)
 obtain⟨z47,hz47,h⟩:=bind_some h
 refine WW.seqJ (fun s=> ∃(a48:Option Addr) (z49:Nat) (B51:Seg) (a52:Option Addr) (z53:Nat) (B55:Seg) (a56:Option Addr) (z57:Nat) (B59:Seg),Stt EV s [(1,.int .i64 pAC),(4,.int .i64 0),(5,.int .i64 0)] [[(iB,.row [aa pB,.slice a48 z47.1.length z49,.slice a52 z47.2.1.length z53,.slice a56 z47.2.2.length z57,.slice aZ pX.length zAA] 94 0 true)],B51,B55,B59,BAC] F L F nx0∧Own (elB 5) F a48 z49 z47.1 B51∧Own (elI .i64 3) F a52 z53 z47.2.1 B55∧Own (bt 4) F a56 z57 z47.2.2 B59) ?_ ?_
 refine WW.seq (WW.region ?_)
 refine sg0 hS 2 [] [45] [.bool ((z23.toNat:Int) != ((32:UInt8).toNat:Int))] [] (by kernel_rfl) fun s hS=>(KW.nil ?_)
 refine bc hz47 (fun hc60 hz47=>?_) fun hc60 hz47=>?_
 refine WW.condK hS rfl hc60 (WW.region ?_)
 obtain⟨y61,hy61,hz47⟩:=bind_some hz47
 refine cK (g_37.ok hy61 hI hO hW) hS 3 49 5 rfl (by kernel_rfl) fun s v S' F' hp62 hF hS=>?_
 obtain⟨a63,z64,B66,a67,z68,B70,a71,z72,B74,rfl,rfl,rfl,h65,h69,h73⟩:=hp62
 refine KW.nil ?_
 obtain rfl:=Option.some.inj hz47
 exact⟨_,_,_,_,_,_,_,_,_,(hS.subR rfl),h65,h69,h73⟩
 refine WW.condF hS rfl hc60 (WW.skip ?_)
 obtain rfl:=Option.some.inj hz47
 exact⟨_,_,_,_,_,_,_,_,_,(hS.subR rfl),hI,hO,hW⟩
 rintro s ⟨a48,z49,B51,a52,z53,B55,a56,z57,B59,hS,h50,h54,h58⟩
 refine WW.seq (WW.region ?_)
 refine sg0 hS 4 [] [4,5] [.int .i64 (w64 (pAC+1)),.int .i64 0] [] (by kernel_rfl) fun s hS=>(KW.nil ?_)
 refine WW.ret ?_
 cases h
 exact bP hS (.inr rfl) 4 5 rfl rfl rfl ⟨_,_,_,_,_,_,_,_,_,_,_,_,rfl,rfl,rfl,h50,h54,h58,hAB⟩
 refine WW.condF hS rfl hc25 (WW.skip ?_)
 obtain⟨z75,hz75,h⟩:=bind_some h
 refine WW.seqJ (fun s=> ∃(a76:Option Addr) (z77:Nat) (B79:Seg) (a80:Option Addr) (z81:Nat) (B83:Seg) (a84:Option Addr) (z85:Nat) (B87:Seg),Stt EV s [(1,.int .i64 pAC),(4,.int .i64 0),(5,.int .i64 0)] [[(iB,.row [aa pB,.slice a76 z75.1.length z77,.slice a80 z75.2.1.length z81,.slice a84 z75.2.2.length z85,.slice aZ pX.length zAA] 94 0 true)],B79,B83,B87,BAC] F L F nx0∧Own (elB 5) F a76 z77 z75.1 B79∧Own (elI .i64 3) F a80 z81 z75.2.1 B83∧Own (bt 4) F a84 z85 z75.2.2 B87) ?_ ?_
 refine WW.seq (WW.region ?_)
 refine sg0 hS 2 [] [45] [.bool ((z23.toNat:Int) != ((32:UInt8).toNat:Int))] [] (by kernel_rfl) fun s hS=>(KW.nil ?_)
 refine bc hz75 (fun hc88 hz75=>?_) fun hc88 hz75=>?_
 refine WW.condK hS rfl hc88 (WW.region ?_)
 obtain⟨y89,hy89,hz75⟩:=bind_some hz75
 refine cK (g_37.ok hy89 hI hO hW) hS 3 49 5 rfl (by kernel_rfl) fun s v S' F' hp90 hF hS=>?_
 obtain⟨a91,z92,B94,a95,z96,B98,a99,z100,B102,rfl,rfl,rfl,h93,h97,h101⟩:=hp90
 refine KW.nil ?_
 obtain rfl:=Option.some.inj hz75
 exact⟨_,_,_,_,_,_,_,_,_,(hS.subR rfl),h93,h97,h101⟩
 refine WW.condF hS rfl hc88 (WW.skip ?_)
 obtain rfl:=Option.some.inj hz75
 exact⟨_,_,_,_,_,_,_,_,_,(hS.subR rfl),hI,hO,hW⟩
 rintro s ⟨a76,z77,B79,a80,z81,B83,a84,z85,B87,hS,h78,h82,h86⟩
 refine WW.seq (WW.region ?_)
 refine sg0 hS 4 [] [4,5] [.int .i64 (w64 (pAC+1)),.int .i64 0] [] (by kernel_rfl) fun s hS=>(KW.nil ?_)
 refine WW.ret ?_
 cases h
 exact bP hS (.inr rfl) 4 5 rfl rfl rfl ⟨_,_,_,_,_,_,_,_,_,_,_,_,rfl,rfl,rfl,h78,h82,h86,hAB⟩
noncomputable def g_2z.b0 (pA:List UInt8) (x7:Int×List UInt8×List Int×List Bool×(List (Int×Int))):Option ((Int×List UInt8×List Int×List Bool×(List (Int×Int)))⊕((Int×List UInt8×List Int×List Bool×(List (Int×Int)))⊕((Option (List UInt8×List UInt8×List Int×List Bool×(List (Int×Int))))×Int))) :=
  (if(decide (x7.1<(pA.length:Int))) then Option.bind (g_36.f pA x7.2.1 x7.2.2.1 x7.2.2.2.1 x7.2.2.2.2 x7.1) fun y44=>(if(y44.2.1 != 0) then some (.inr (.inr (none,y44.2.1))) else some (.inl (y44.1,y44.2.2.1,y44.2.2.2.1,y44.2.2.2.2.1,y44.2.2.2.2.2))) else some (.inr (.inl (x7.1,x7.2.1,x7.2.2.1,x7.2.2.2.1,x7.2.2.2.2))))
noncomputable def g_2z.f (pA:List UInt8):Option ((Option (List UInt8×List UInt8×List Int×List Bool×(List (Int×Int))))×Int) :=
  Option.bind (g_38.f pA) fun y1=>(if(y1 != 0) then some (none,y1) else Option.bind (iter (g_2z.b0 pA) (0,([]:List UInt8),([]:List Int),([]:List Bool),([]:List (Int×Int)))) fun o24=>cu o24 fun y63=>some ((some (pA,y63.2.1,y63.2.2.1,y63.2.2.2.1,y63.2.2.2.2)),0))
theorem g_2z.ok {pA:List UInt8} {F:FZ} {r:(Option (List UInt8×List UInt8×List Int×List Bool×(List (Int×Int))))×Int} (h:g_2z.f pA=some r) (hG:Gl F) :
    Cl EV 54 [aa pA] [] F (fun v S' F'=> ∃(rv:Value) (rS:List Seg),FLe F F'∧v= .tuple #[rv,.int .i64 r.2]∧S'= []++rS∧((r.1=none∧rv= .pointer none∧rS= [])∨(∃(rq:List UInt8×List UInt8×List Int×List Bool×(List (Int×Int))) (ri1:Nat) (ra2:Option Addr) (rz3:Nat) (rB5:Seg) (ra6:Option Addr) (rz7:Nat) (rB9:Seg) (ra10:Option Addr) (rz11:Nat) (rB13:Seg) (ra14:Option Addr) (rz15:Nat) (rB17:Seg),r.1=some rq∧rv= .pointer (some ⟨ri1,0,none⟩)∧rS= [[(ri1,.row [aa rq.1,.slice ra2 rq.2.1.length rz3,.slice ra6 rq.2.2.1.length rz7,.slice ra10 rq.2.2.2.1.length rz11,.slice ra14 rq.2.2.2.2.length rz15] 94 0 true)],rB5,rB9,rB13,rB17]∧Own (elB 5) F' ra2 rz3 rq.2.1 rB5∧Own (elI .i64 3) F' ra6 rz7 rq.2.2.1 rB9∧Own (bt 4) F' ra10 rz11 rq.2.2.2.1 rB13∧Own dk F' ra14 rz15 rq.2.2.2.2 rB17))):=by
 refine Cl.of Tryz.func54 rfl (fun _ _=>rfl) (by kernel_rfl) fun s L nx0 hS=>?_
 unfold g_2z.f at h
 refine WW.seq (WW.region ?_)
 refine sg0 hS 2 [] [2,3] [.pointer none,.int .i64 0] [] (by kernel_rfl) fun s hS=>(KW.nil ?_)
 refine WW.seq (WW.seq ?_)
 refine WW.region ?_
 obtain⟨y1,hy1,h⟩:=bind_some h
 refine cK (g_38.ok hy1) hS 1 10 0 rfl (by kernel_rfl) fun s v S' F3 hp2 hF hS=>?_
 obtain⟨hF4,rfl,rfl⟩:=hp2
 refine sg0 hS 1 [] [4] [.int .i64 y1] [] (by kernel_rfl) fun s hS=>(KW.nil ?_)
 refine WW.seq (WW.region ?_)
 refine sg0 hS 2 [] [12] [.bool (y1 != 0)] [] (by kernel_rfl) fun s hS=>(KW.nil ?_)
 refine bc h (fun hc5 h=>?_) fun hc5 h=>?_
 refine WW.condK hS rfl hc5 (WW.seq ?_)
 refine WW.region (sg0 hS 3 [] [2,3] [.pointer none,.int .i64 y1] [] (by kernel_rfl) fun s hS=>?_)
 refine KW.nil (WW.ret ?_)
 cases h
 exact bP hS (.inr rfl) 2 3 rfl rfl rfl ⟨_,_,(hF4),rfl,rfl,.inl ⟨rfl,rfl,rfl⟩⟩
 refine WW.condF hS rfl hc5 (WW.skip ?_)
 refine WW.seq (WW.region ?_)
 refine sg0 hS 1 [] [14] [aa pA] [] (by kernel_rfl) fun s hS=>(aw hS (wn rfl) rfl rfl rfl (v:= .agg #[aa pA,.slice none 0 0,.slice none 0 0,.slice none 0 0,.slice none 0 0]) (cn t0_94 tp94 [(0,aa pA)] (av hS rfl) (cs:=[aa pA,.slice none 0 0,.slice none 0 0,.slice none 0 0,.slice none 0 0]) rfl) fun s hS=>?_)
 refine bA hS (wn rfl) rfl rfl rfl (v:=fun i=> .pointer (some ⟨i,0,none⟩)) (b:= .row [aa pA,.slice none 0 0,.slice none 0 0,.slice none 0 0,.slice none 0 0] 94 0 true) (co (hS.lk rfl) rfl [aa pA,.slice none 0 0,.slice none 0 0,.slice none 0 0,.slice none 0 0] rfl) fun s i6 hS=>(sg0 hS 1 [] [5] [.pointer (some ⟨i6,0,none⟩)] [] (by kernel_rfl) fun s hS=>?_)
 refine KW.nil (WW.seq ?_)
 refine WW.seq (WW.region ?_)
 refine sg0 hS 1 [] [6] [.int .i64 0] [] (by kernel_rfl) fun s hS=>(KW.nil ?_)
 refine WW.block ?_
 replace hS:=hS.gap0
 replace hS:=hS.gap0
 replace hS:=hS.gap0
 replace hS:=hS.gap0
 obtain⟨o24,ho24,h⟩:=bind_some h
 refine WW.loop (LW.iterS ho24 (fun(x7:Int×List UInt8×List Int×List Bool×(List (Int×Int))) s=> ∃(a8:Option Addr) (z9:Nat) (B11:Seg) (a12:Option Addr) (z13:Nat) (B15:Seg) (a16:Option Addr) (z17:Nat) (B19:Seg) (a20:Option Addr) (z21:Nat) (B23:Seg),Stt EV s [(0,aa pA),(2,.pointer none),(3,.int .i64 0),(5,.pointer (some ⟨i6,0,none⟩)),(6,.int .i64 x7.1)] [B23,B19,B15,B11,[(i6,.row [aa pA,.slice a8 x7.2.1.length z9,.slice a12 x7.2.2.1.length z13,.slice a16 x7.2.2.2.1.length z17,.slice a20 x7.2.2.2.2.length z21] 94 0 true)]] F3 L F nx0∧Own (elB 5) F3 a8 z9 x7.2.1 B11∧Own (elI .i64 3) F3 a12 z13 x7.2.2.1 B15∧Own (bt 4) F3 a16 z17 x7.2.2.2.1 B19∧Own dk F3 a20 z21 x7.2.2.2.2 B23) 0 (fun r=>ej EV Tryz.f54 L F nx0 (fun v S' F'=> ∃(rv:Value) (rS:List Seg),FLe F F'∧v= .tuple #[rv,.int .i64 r.2]∧S'= []++rS∧((r.1=none∧rv= .pointer none∧rS= [])∨(∃(rq:List UInt8×List UInt8×List Int×List Bool×(List (Int×Int))) (ri1:Nat) (ra2:Option Addr) (rz3:Nat) (rB5:Seg) (ra6:Option Addr) (rz7:Nat) (rB9:Seg) (ra10:Option Addr) (rz11:Nat) (rB13:Seg) (ra14:Option Addr) (rz15:Nat) (rB17:Seg),r.1=some rq∧rv= .pointer (some ⟨ri1,0,none⟩)∧rS= [[(ri1,.row [aa rq.1,.slice ra2 rq.2.1.length rz3,.slice ra6 rq.2.2.1.length rz7,.slice ra10 rq.2.2.2.1.length rz11,.slice ra14 rq.2.2.2.2.length rz15] 94 0 true)],rB5,rB9,rB13,rB17]∧Own (elB 5) F' ra2 rz3 rq.2.1 rB5∧Own (elI .i64 3) F' ra6 rz7 rq.2.2.1 rB9∧Own (bt 4) F' ra10 rz11 rq.2.2.2.1 rB13∧Own dk F' ra14 rz15 rq.2.2.2.2 rB17)))) ⟨_,_,_,_,_,_,_,_,_,_,_,_,(hS.subR rfl),Own.nil,Own.nil,Own.nil,Own.nil⟩ ?_ ?_)
 clear hS
 rintro x7 s ⟨a8,z9,B11,a12,z13,B15,a16,z17,B19,a20,z21,B23,hS,h10,h14,h18,h22⟩ o24' h42
 unfold g_2z.b0 at h42
 refine WW.seq (WW.seq ?_)
 refine WW.region (sg0 hS 4 [] [20] [.bool (decide (x7.1<(pA.length:Int)))] [] (by kernel_rfl) fun s hS=>?_)
 refine KW.nil (bc h42 (fun hc43 h42=>?_) fun hc43 h42=>?_)
 refine WW.condK hS rfl hc43 (WW.skip ?_)
 refine WW.block (WW.seq ?_)
 refine WW.region ?_
 obtain⟨y44,hy44,h42⟩:=bind_some h42
 replace hS:=hS.pull 1
 replace hS:=hS.pull 2
 replace hS:=hS.pull 3
 replace hS:=hS.pull 4
 refine cK (g_36.ok hy44 h10 h14 h18 h22 (hG.mono hF4)) hS 2 24 5 rfl (by kernel_rfl) fun s v S' F' hp45 hF hS=>?_
 obtain⟨a46,z47,B49,a50,z51,B53,a54,z55,B57,a58,z59,B61,rfl,rfl,rfl,h48,h52,h56,h60⟩:=hp45
 refine sg0 hS 5 [] [7,8] [.int .i64 y44.1,.int .i64 y44.2.1] [] (by kernel_rfl) fun s hS=>(KW.nil ?_)
 refine WW.seq (WW.seq ?_)
 refine WW.region (sg0 hS 2 [] [28] [.bool (y44.2.1 != 0)] [] (by kernel_rfl) fun s hS=>?_)
 refine KW.nil (bc h42 (fun hc62 h42=>?_) fun hc62 h42=>?_)
 refine WW.condK hS rfl hc62 (WW.seq ?_)
 refine WW.region (sg0 hS 3 [] [2,3] [.pointer none,.int .i64 y44.2.1] [] (by kernel_rfl) fun s hS=>?_)
 refine KW.nil (WW.ret ?_)
 replace hS:=hS.drop
 replace hS:=hS.drop
 replace hS:=hS.drop
 replace hS:=hS.drop
 replace hS:=hS.drop
 cases h42
 exact⟨_,rfl,rfl,bP hS (.inr rfl) 2 3 rfl rfl rfl ⟨_,_,(hF4),rfl,rfl,.inl ⟨rfl,rfl,rfl⟩⟩⟩
 refine WW.condF hS rfl hc62 (WW.skip ?_)
 refine WW.region (sg0 hS 2 [] [6] [.int .i64 y44.1] [] (by kernel_rfl) fun s hS=>?_)
 refine KW.nil ?_
 replace hS:=hS.pull 1
 replace hS:=hS.pull 2
 replace hS:=hS.pull 3
 replace hS:=hS.pull 4
 obtain rfl:=Option.some.inj h42
 exact⟨_,rfl,_,_,_,_,_,_,_,_,_,_,_,_,(hS.subR rfl),h48,h52,h56,h60⟩
 refine WW.condF hS rfl hc43 (WW.exit ?_)
 refine ae ?_
 obtain rfl:=Option.some.inj h42
 exact⟨_,rfl,rfl,_,_,_,_,_,_,_,_,_,_,_,_,(hS.subR rfl),h10,h14,h18,h22⟩
 clear hS
 rcases o24 with y63 | y63
 rintro e s ⟨rfl,a64,z65,B67,a68,z69,B71,a72,z73,B75,a76,z77,B79,hS,h66,h70,h74,h78⟩
 replace h:=bp h
 refine af (WW.seq ?_)
 refine WW.region (sg0 hS 3 [] [2,3] [.pointer (some ⟨i6,0,none⟩),.int .i64 0] [] (by kernel_rfl) fun s hS=>?_)
 refine KW.nil (WW.ret ?_)
 replace hS:=hS.pull 1
 replace hS:=hS.pull 2
 replace hS:=hS.pull 3
 replace hS:=hS.pull 4
 cases h
 exact bP hS (.inr rfl) 2 3 rfl rfl rfl ⟨_,_,(hF4),rfl,rfl,.inr ⟨_,_,_,_,_,_,_,_,_,_,_,_,_,_,rfl,rfl,rfl,h66,h70,h74,h78⟩⟩
 rintro e s ⟨rfl,hfin⟩
 replace h:=bq h
 obtain rfl:=Option.some.inj h
 exact hfin
noncomputable def g_2t.f (pA:List UInt8):Option (List UInt8×List Int×Int) :=
  Option.bind (g_2z.f pA) fun y1=>(lF y1.1 ((if(y1.2 != 0) then some ([],([]:List Int),y1.2) else none)) fun x9=>(if(y1.2 != 0) then some ([],([]:List Int),y1.2) else some (x9.2.1,x9.2.2.1,0)))
theorem g_2t.ok {pA:List UInt8} {F:FZ} {r:List UInt8×List Int×Int} (h:g_2t.f pA=some r) (hG:Gl F) :
    Cl EV 21 [aa pA] [] F (fun v S' F'=> ∃(ra1:Option Addr) (rz2:Nat) (rB4:Seg),FLe F F'∧v= .tuple #[aa r.1,.slice ra1 r.2.1.length rz2,.int .i64 r.2.2]∧S'= [rB4]∧Own (elI .i64 3) F' ra1 rz2 r.2.1 rB4):=by
 refine Cl.of Tryz.func21 rfl (fun _ _=>rfl) (by kernel_rfl) fun s L nx0 hS=>?_
 unfold g_2t.f at h
 refine WW.seq (WW.region ?_)
 refine sg0 hS 3 [] [2,3,4] [aa ([]),.slice none 0 0,.int .i64 0] [] (by kernel_rfl) fun s hS=>(KW.nil ?_)
 refine WW.seq (WW.region ?_)
 obtain⟨y1,hy1,h⟩:=bind_some h
 refine cK (g_2z.ok hy1 hG) hS 1 9 0 rfl (by kernel_rfl) fun s v S' F3 hp2 hF hS=>?_
 obtain⟨v5,S6,hF4,rfl,rfl,ho7⟩:=hp2
 rcases ho7 with⟨hq8,rfl,rfl⟩ | ⟨x9,i10,a11,z12,B14,a15,z16,B18,a19,z20,B22,a23,z24,B26,hq8,rfl,rfl,h13,h17,h21,h25⟩
 rw[hq8] at h; replace h:=kt h
 refine sg0 hS 5 [] [5,6] [.pointer none,.int .i64 y1.2] [] (by kernel_rfl) fun s hS=>(KW.nil ?_)
 refine WW.seq (WW.seq ?_)
 refine WW.region (sg0 hS 2 [] [13] [.bool (y1.2 != 0)] [] (by kernel_rfl) fun s hS=>?_)
 refine KW.nil (bc h (fun hc27 h=>?_) fun hc27 h=>?_)
 refine WW.condK hS rfl hc27 (WW.seq ?_)
 refine WW.region (sg0 hS 4 [] [2,3,4] [aa ([]),.slice none 0 0,.int .i64 y1.2] [] (by kernel_rfl) fun s hS=>?_)
 refine KW.nil (WW.ret ?_)
 replace hS:=hS.gap0
 have hres:=(br hS (t:=2) (v:=aa ([])) rfl (br hS (t:=3) (v:= .slice none ([]:List Int).length 0) rfl (br hS (t:=4) (v:= .int .i64 y1.2) rfl (aY (E:=EV) (s:=s)))))
 cases h
 exact fin hS (.inr rfl) hres (v:= .tuple #[aa ([]),.slice none ([]:List Int).length 0,.int .i64 y1.2]) rfl ⟨_,_,_,(hF4),rfl,rfl,Own.nil⟩
 refine WW.condF hS rfl hc27 (WW.skip ?_)
 refine WW.seq (WW.regionD (i:=[[],[],[],[],[],[4,3,2,1,0],[4,3,2,1,0],[4,3,2,1,0],[4,3,2,1,0],[8,7,6,5],[],[]]) (by kernel_rfl) ?_)
 have hq:=RS.start []
 refine kg hS hq 1 [15] [.pointer none] (by kernel_rfl) fun s rs hS hq=>?_
 exact nomatch h
 rw[hq8] at h; replace h:=ku h
 refine sg0 hS 5 [] [5,6] [.pointer (some ⟨i10,0,none⟩),.int .i64 y1.2] [] (by kernel_rfl) fun s hS=>(KW.nil ?_)
 refine WW.seq (WW.seq ?_)
 refine WW.region (sg0 hS 2 [] [13] [.bool (y1.2 != 0)] [] (by kernel_rfl) fun s hS=>?_)
 refine KW.nil (bc h (fun hc28 h=>?_) fun hc28 h=>?_)
 refine WW.condK hS rfl hc28 (WW.seq ?_)
 refine WW.region (sg0 hS 4 [] [2,3,4] [aa ([]),.slice none 0 0,.int .i64 y1.2] [] (by kernel_rfl) fun s hS=>?_)
 refine KW.nil (WW.ret ?_)
 replace hS:=hS.gap0
 have hres:=(br hS (t:=2) (v:=aa ([])) rfl (br hS (t:=3) (v:= .slice none ([]:List Int).length 0) rfl (br hS (t:=4) (v:= .int .i64 y1.2) rfl (aY (E:=EV) (s:=s)))))
 replace hS:=(hS.pull 1).drop
 replace hS:=(hS.pull 1).drop
 replace hS:=(hS.pull 1).drop
 replace hS:=(hS.pull 1).drop
 replace hS:=(hS.pull 1).drop
 cases h
 exact fin hS (.inr rfl) hres (v:= .tuple #[aa ([]),.slice none ([]:List Int).length 0,.int .i64 y1.2]) rfl ⟨_,_,_,(hF4),rfl,rfl,Own.nil⟩
 refine WW.condF hS rfl hc28 (WW.skip ?_)
 refine WW.seq (WW.regionD (i:=[[],[],[],[],[],[4,3,2,1,0],[4,3,2,1,0],[4,3,2,1,0],[4,3,2,1,0],[8,7,6,5],[],[]]) (by kernel_rfl) ?_)
 have hq:=RS.start [i10]
 refine kg hS hq 3 [17] [.pointer (some ⟨i10,1,none⟩)] (by kernel_rfl) fun s rs hS hq=>(K.ld hS hq rfl (wn rfl) rfl rfl rfl (hS.at (k:=0) rfl) tg79 (v:= .slice a11 x9.2.1.length z12) rfl 0 rfl rfl fun s rs hS hq=>?_)
 refine K.cvO (e:=0) hS hq rfl (wn rfl) rfl rfl (lst:=x9.2.1) rfl h13 (p:=1) rfl (cv0 jq tb5 tu9) (cv1 jq tb5 tu9) rfl fun s rs hS hq=>(kg hS hq 3 [22] [.pointer (some ⟨i10,2,none⟩)] (by kernel_rfl) fun s rs hS hq=>?_)
 refine K.ld hS hq rfl (wn rfl) rfl rfl rfl (hS.at (k:=0) rfl) fL (v:= .slice a15 x9.2.2.1.length z16) rfl 0 rfl rfl fun s rs hS hq=>(kg hS hq 3 [2,3,4] [aa x9.2.1,.slice a15 x9.2.2.1.length z16,.int .i64 0] (by kernel_rfl) fun s rs hS hq=>?_)
 refine KW.nil (WW.ret ?_)
 have hres:=(br hS (t:=2) (v:=aa x9.2.1) rfl (br hS (t:=3) (v:= .slice a15 x9.2.2.1.length z16) rfl (br hS (t:=4) (v:= .int .i64 0) rfl (aY (E:=EV) (s:=s)))))
 replace hS:=hS.drop
 replace hS:=hS.drop
 replace hS:=(hS.pull 1).drop
 replace hS:=(hS.pull 1).drop
 cases h
 exact fin hS (.inr rfl) hres (v:= .tuple #[aa x9.2.1,.slice a15 x9.2.2.1.length z16,.int .i64 0]) rfl ⟨_,_,_,(hF4),rfl,rfl,h17⟩
noncomputable def g_2s.f (pA:List UInt8):Option ((List (Int×Int))×Int) :=
  Option.bind (g_2z.f pA) fun y1=>(lF y1.1 ((if(y1.2 != 0) then some (([]:List (Int×Int)),y1.2) else none)) fun x9=>(if(y1.2 != 0) then some (([]:List (Int×Int)),y1.2) else some (x9.2.2.2.2,0)))
theorem g_2s.ok {pA:List UInt8} {F:FZ} {r:(List (Int×Int))×Int} (h:g_2s.f pA=some r) (hG:Gl F) :
    Cl EV 24 [aa pA] [] F (fun v S' F'=> ∃(ra1:Option Addr) (rz2:Nat) (rB4:Seg),FLe F F'∧v= .tuple #[.slice ra1 r.1.length rz2,.int .i64 r.2]∧S'= [rB4]∧Own dk F' ra1 rz2 r.1 rB4):=by
 refine Cl.of Tryz.func24 rfl (fun _ _=>rfl) (by kernel_rfl) fun s L nx0 hS=>?_
 unfold g_2s.f at h
 refine WW.seq (WW.region ?_)
 refine sg0 hS 2 [] [2,3] [.slice none 0 0,.int .i64 0] [] (by kernel_rfl) fun s hS=>(KW.nil ?_)
 refine WW.seq (WW.region ?_)
 obtain⟨y1,hy1,h⟩:=bind_some h
 refine cK (g_2z.ok hy1 hG) hS 1 8 0 rfl (by kernel_rfl) fun s v S' F3 hp2 hF hS=>?_
 obtain⟨v5,S6,hF4,rfl,rfl,ho7⟩:=hp2
 rcases ho7 with⟨hq8,rfl,rfl⟩ | ⟨x9,i10,a11,z12,B14,a15,z16,B18,a19,z20,B22,a23,z24,B26,hq8,rfl,rfl,h13,h17,h21,h25⟩
 rw[hq8] at h; replace h:=kt h
 refine sg0 hS 5 [] [4,5] [.pointer none,.int .i64 y1.2] [] (by kernel_rfl) fun s hS=>(KW.nil ?_)
 refine WW.seq (WW.seq ?_)
 refine WW.region (sg0 hS 2 [] [12] [.bool (y1.2 != 0)] [] (by kernel_rfl) fun s hS=>?_)
 refine KW.nil (bc h (fun hc27 h=>?_) fun hc27 h=>?_)
 refine WW.condK hS rfl hc27 (WW.seq ?_)
 refine WW.region (sg0 hS 3 [] [2,3] [.slice none 0 0,.int .i64 y1.2] [] (by kernel_rfl) fun s hS=>?_)
 refine KW.nil (WW.ret ?_)
 replace hS:=hS.gap0
 cases h
 exact bP hS (.inr rfl) 2 3 rfl rfl rfl ⟨_,_,_,(hF4),rfl,rfl,Own.nil⟩
 refine WW.condF hS rfl hc27 (WW.skip ?_)
 refine WW.seq (WW.region ?_)
 refine sg0 hS 1 [] [14] [.pointer none] [] (by kernel_rfl) fun s hS=>?_
 exact nomatch h
 rw[hq8] at h; replace h:=ku h
 refine sg0 hS 5 [] [4,5] [.pointer (some ⟨i10,0,none⟩),.int .i64 y1.2] [] (by kernel_rfl) fun s hS=>(KW.nil ?_)
 refine WW.seq (WW.seq ?_)
 refine WW.region (sg0 hS 2 [] [12] [.bool (y1.2 != 0)] [] (by kernel_rfl) fun s hS=>?_)
 refine KW.nil (bc h (fun hc28 h=>?_) fun hc28 h=>?_)
 refine WW.condK hS rfl hc28 (WW.seq ?_)
 refine WW.region (sg0 hS 3 [] [2,3] [.slice none 0 0,.int .i64 y1.2] [] (by kernel_rfl) fun s hS=>?_)
 refine KW.nil (WW.ret ?_)
 replace hS:=hS.gap0
 replace hS:=(hS.pull 1).drop
 replace hS:=(hS.pull 1).drop
 replace hS:=(hS.pull 1).drop
 replace hS:=(hS.pull 1).drop
 replace hS:=(hS.pull 1).drop
 cases h
 exact bP hS (.inr rfl) 2 3 rfl rfl rfl ⟨_,_,_,(hF4),rfl,rfl,Own.nil⟩
 refine WW.condF hS rfl hc28 (WW.skip ?_)
 refine WW.seq (WW.region ?_)
 refine sg0 hS 6 [0] [2,3] [.slice a23 x9.2.2.2.2.length z24,.int .i64 0] [i10] (by kernel_rfl) fun s hS=>(KW.nil ?_)
 refine WW.ret ?_
 replace hS:=hS.drop
 replace hS:=hS.drop
 replace hS:=hS.drop
 replace hS:=hS.drop
 cases h
 exact bP hS (.inr rfl) 2 3 rfl rfl rfl ⟨_,_,_,(hF4),rfl,rfl,h25⟩
noncomputable def g_i.b1 (y4:(List (Int×Int))×Int) (x12:List Bool×Int) (x36:List Bool×Int):Option ((List Bool×Int)⊕(List Bool×Int)) :=
  (if(decide (x36.2<((gt y4.1 x12.2).2))) then(if 0≤x36.2∧x36.2<(x36.1.length:Int) then some (.inl ((rj x36.1 x36.2 (true:Bool)),(w64 (x36.2+1)))) else none) else some (.inr (x36.1,x36.2)))
noncomputable def g_i.b0 (y4:(List (Int×Int))×Int) (x12:List Bool×Int):Option ((List Bool×Int)⊕(List Bool×Int)) :=
  (if(decide (x12.2<(y4.1.length:Int))) then(if 0≤x12.2∧x12.2<(y4.1.length:Int) then Option.bind (iter (g_i.b1 y4 x12) (x12.1,((gt y4.1 x12.2).1))) fun o41=>some (.inl (o41.1,(w64 (x12.2+1)))) else none) else some (.inr (x12.1,x12.2)))
noncomputable def g_i.f (pA:List UInt8):Option (List Bool) :=
  (if 0≤(pA.length:Int)∧(pA.length:Int)<1000000000 then Option.bind (g_2s.f pA) fun y4=>Option.bind (iter (g_i.b0 y4) ((List.replicate ((pA.length:Int)).toNat (false:Bool)),0)) fun o17=>some o17.1 else none)
theorem g_i.ok {pA:List UInt8} {F:FZ} {r:List Bool} (h:g_i.f pA=some r) (hG:Gl F) :
    Cl EV 71 [aa pA] [] F (fun v S' F'=> ∃(ra1:Option Addr) (rz2:Nat) (rB4:Seg),FLe F F'∧v= .slice ra1 r.length rz2∧S'= [rB4]∧Own (bt 4) F' ra1 rz2 r rB4):=by
 refine Cl.of Tryz.func71 rfl (fun _ _=>rfl) (by kernel_rfl) fun s L nx0 hS=>?_
 unfold g_i.f at h
 refine WW.seq (WW.region ?_)
 refine sg0 hS 1 [] [2] [.slice none 0 0] [] (by kernel_rfl) fun s hS=>(KW.nil ?_)
 refine WW.seq (WW.region ?_)
 refine sg0 hS 2 [] [10] [.int .i64 (pA.length:Int)] [] (by kernel_rfl) fun s hS=>?_
 obtain⟨hk1,h⟩:=ac h
 refine bA hS (wn rfl) rfl rfl rfl (v:=fun i=> .slice (some ⟨i,0,none⟩) (List.replicate ((pA.length:Int)).toNat (false:Bool)).length 1) (b:= .row (f0 [.bool false] ((pA.length:Int)).toNat) 4 1 true) (aop_mks (x0:=(false:Bool)) (hS.lk rfl) (hS.lk rfl) tu49 ti4 t0_4 rfl (by decide) hk1) fun s i2 hS=>?_
 have hC3:ai (bt 4) F (List.replicate ((pA.length:Int)).toNat (false:Bool)) (f0 [.bool false] ((pA.length:Int)).toNat):=ai.rep rfl _
 refine sg0 hS 1 [] [3] [.slice (some ⟨i2,0,none⟩) (List.replicate ((pA.length:Int)).toNat (false:Bool)).length 1] [] (by kernel_rfl) fun s hS=>(KW.nil ?_)
 refine WW.seq (WW.region ?_)
 obtain⟨y4,hy4,h⟩:=bind_some h
 refine cK (g_2s.ok hy4 hG) hS 1 14 0 rfl (by kernel_rfl) fun s v S' F6 hp5 hF hS=>?_
 obtain⟨a7,z8,B10,hF11,rfl,rfl,h9⟩:=hp5
 refine sg0 hS 5 [] [4] [.slice a7 y4.1.length z8] [] (by kernel_rfl) fun s hS=>(KW.nil ?_)
 refine WW.seq (WW.seq ?_)
 refine WW.region (sg0 hS 3 [] [17,18,19] [.slice a7 y4.1.length z8,.int .i64 (y4.1.length:Int),.int .i64 0] [] (by kernel_rfl) fun s hS=>?_)
 refine KW.nil (WW.block ?_)
 obtain⟨o17,ho17,h⟩:=bind_some h
 refine WW.loop (LW.iterE ho17 (fun(x12:List Bool×Int) s=> ∃(a13:Option Addr) (z14:Nat) (B16:Seg),Stt EV s [(2,.slice none 0 0),(3,.slice a13 x12.1.length z14),(17,.slice a7 y4.1.length z8),(18,.int .i64 (y4.1.length:Int)),(19,.int .i64 x12.2)] [B10,B16] F6 L F nx0∧Own (bt 4) F6 a13 z14 x12.1 B16) 0 ⟨_,_,_,(hS.subR rfl),(Own.blk0 (hC3.mono hF11))⟩ ?_ ?_)
 clear hS
 rintro x12 s ⟨a13,z14,B16,hS,h15⟩ o17' h23
 unfold g_i.b0 at h23
 refine WW.seq (WW.region ?_)
 refine sg0 hS 1 [] [20] [.bool (decide (x12.2<(y4.1.length:Int)))] [] (by kernel_rfl) fun s hS=>(KW.nil ?_)
 refine WW.seq (bc h23 (fun hc24 h23=>?_) fun hc24 h23=>?_)
 refine WW.condK hS rfl hc24 (WW.skip ?_)
 refine WW.seq (WW.block ?_)
 refine WW.seq (WW.region ?_)
 obtain⟨hk25,h23⟩:=ac h23
 obtain⟨i31,cs32,ex33,rfl,rfl,rfl,hC34⟩:=Own.some_ h9 (by omega)
 obtain⟨c26,hR27,hN29,hN28,hT30⟩:=ai.loadF hC34 ex33 hk25 (z:=2) rfl
 obtain rfl:=hR27
 refine aw hS (wn rfl) rfl rfl rfl (v:= .pointer (some ⟨i31,0+(x12.2).toNat*2,none⟩)) (aF (hS.lk rfl) (hS.lk rfl) te46 hk25) fun s hS=>(ja hS (wn rfl) rfl rfl rfl (hS.at (k:=0) rfl) tg50 ro (vs:=[.int .i64 ((gt y4.1 x12.2).1),.int .i64 ((gt y4.1 x12.2).2)]) hT30 fun s hS=>?_)
 refine bA hS (wn rfl) rfl rfl rfl (v:=fun i=> .pointer (some ⟨i,0,none⟩)) (b:= .row [.int .i64 0,.int .i64 0] 50 0 true) (bf fV) fun s i35 hS=>(sg hS 1 [0] [] [] [i35] [[(i35,.row [.int .i64 ((gt y4.1 x12.2).1),.int .i64 ((gt y4.1 x12.2).2)] 50 0 true)],[(i31,.row (cs32++ex33) 50 2 true)],B16] (by kernel_rfl) fun s hS=>?_)
 refine KW.nil (WW.seq ?_)
 refine WW.region (aw hS (wn rfl) rfl rfl rfl (v:= .pointer (some ⟨i35,0,none⟩)) (qg (hS.lk rfl) (hS.lk rfl) ty50 (by decide) rfl) fun s hS=>?_)
 refine sg0 hS 2 [0] [8] [.int .i64 ((gt y4.1 x12.2).1)] [i35] (by kernel_rfl) fun s hS=>(KW.nil ?_)
 refine WW.block ?_
 obtain⟨o41,ho41,h23⟩:=bind_some h23
 refine WW.loop (LW.iterE ho41 (fun(x36:List Bool×Int) s=> ∃(a37:Option Addr) (z38:Nat) (B40:Seg),Stt EV s [(2,.slice none 0 0),(3,.slice a37 x36.1.length z38),(7,.pointer (some ⟨i35,0,none⟩)),(8,.int .i64 x36.2),(17,.slice (some ⟨i31,0,none⟩) y4.1.length 2),(18,.int .i64 (y4.1.length:Int)),(19,.int .i64 x12.2)] [[(i35,.row [.int .i64 ((gt y4.1 x12.2).1),.int .i64 ((gt y4.1 x12.2).2)] 50 0 true)],[(i31,.row (cs32++ex33) 50 2 true)],B40] F6 L F nx0∧Own (bt 4) F6 a37 z38 x36.1 B40) 2 ⟨_,_,_,(hS.subR rfl),h15⟩ ?_ ?_)
 clear hS
 rintro x36 s ⟨a37,z38,B40,hS,h39⟩ o41' h47
 unfold g_i.b1 at h47
 refine WW.seq (WW.seq ?_)
 refine WW.region (sg0 hS 1 [] [25] [.int .i64 x36.2] [] (by kernel_rfl) fun s hS=>?_)
 refine aw hS (wn rfl) rfl rfl rfl (v:= .pointer (some ⟨i35,1,none⟩)) (qg (hS.lk rfl) (hS.lk rfl) ty50 (by decide) rfl) fun s hS=>(sg0 hS 2 [0] [28] [.bool (decide (x36.2<((gt y4.1 x12.2).2)))] [i35] (by kernel_rfl) fun s hS=>?_)
 refine KW.nil (bc h47 (fun hc48 h47=>?_) fun hc48 h47=>?_)
 refine WW.condK hS rfl hc48 (WW.skip ?_)
 refine WW.seq (WW.block ?_)
 refine WW.region (sg0 hS 2 [] [31,32] [.slice a37 x36.1.length z38,.int .i64 x36.2] [] (by kernel_rfl) fun s hS=>?_)
 obtain⟨hk49,h47⟩:=ac h47
 obtain⟨i55,cs56,ex57,rfl,rfl,rfl,hC58⟩:=Own.some_ h39 (by omega)
 obtain⟨c50,hR51,hN53,hN52,hT54⟩:=ai.loadF hC58 ex57 hk49 (z:=1) rfl
 obtain rfl:=hR51
 refine aw hS (wn rfl) rfl rfl rfl (v:= .pointer (some ⟨i55,0+(x36.2).toNat*1,none⟩)) (aF (hS.lk rfl) (hS.lk rfl) td hk49) fun s hS=>(q_sto hS (wn rfl) rfl rfl rfl rfl (p:=2) rfl tz4 (sto_ok hC58 ex57 hk49 rfl rfl rfl rfl) ((setCells cs56 (0+(x36.2).toNat*1) [.bool true])++ex57) (sto_cs hC58 ex57 hk49 rfl rfl rfl) fun s hS=>?_)
 have hC59:ai (bt 4) F6 (rj x36.1 x36.2 (true:Bool)) (setCells cs56 (0+(x36.2).toNat*1) [.bool true]):=ai.set hC58 hk49 rfl rfl
 replace hS:=hS.know (t:=3) (u':= .slice (some ⟨i55,0,none⟩) (rj x36.1 x36.2 (true:Bool)).length 1) rfl (congrArg (fun n=>Value.slice (some ⟨i55,0,none⟩) n 1) (nE x36.1 x36.2 (true:Bool)).symm)
 replace hS:=hS.know (t:=31) (u':= .slice (some ⟨i55,0,none⟩) (rj x36.1 x36.2 (true:Bool)).length 1) rfl (congrArg (fun n=>Value.slice (some ⟨i55,0,none⟩) n 1) (nE x36.1 x36.2 (true:Bool)).symm)
 refine KW.nil (WW.region ?_)
 refine sg0 hS 3 [] [8] [.int .i64 (w64 (x36.2+1))] [] (by kernel_rfl) fun s hS=>(KW.nil ?_)
 obtain rfl:=Option.some.inj h47
 exact⟨_,rfl,_,_,_,(hS.subR rfl),(Own.blk ex57 hC59)⟩
 refine WW.condF hS rfl hc48 (WW.exit ?_)
 refine ae ?_
 obtain rfl:=Option.some.inj h47
 exact⟨_,rfl,rfl,_,_,_,(hS.subR rfl),h39⟩
 clear hS
 rintro e s ⟨rfl,a60,z61,B63,hS,h62⟩
 refine af (WW.region ?_)
 refine sg0 hS 2 [] [19] [.int .i64 (w64 (x12.2+1))] [] (by kernel_rfl) fun s hS=>(KW.nil ?_)
 replace hS:=hS.drop
 obtain rfl:=Option.some.inj h23
 exact⟨_,rfl,_,_,_,(hS.subR rfl),h62⟩
 refine WW.condF hS rfl hc24 (WW.exit ?_)
 refine ae ?_
 obtain rfl:=Option.some.inj h23
 exact⟨_,rfl,rfl,_,_,_,(hS.subR rfl),h15⟩
 clear hS
 rintro e s ⟨rfl,a64,z65,B67,hS,h66⟩
 refine af (WW.seq ?_)
 refine WW.region (sg0 hS 2 [] [2] [.slice a64 o17.1.length z65] [] (by kernel_rfl) fun s hS=>?_)
 refine KW.nil (WW.ret ?_)
 replace hS:=hS.drop
 cases h
 exact ax hS (.inr rfl) 2 rfl rfl ⟨_,_,_,(hF11),rfl,rfl,h66⟩
noncomputable def g_a.b0 (pA:List UInt8) (y1:List UInt8×List Int×Int) (x12:Int):Option ((Int)⊕(Int)) :=
  (if(decide (x12<(if(pA.length:Int)<(y1.1.length:Int) then(pA.length:Int) else(y1.1.length:Int)))) then(if 0≤x12∧x12<(y1.1.length:Int) then(if 0≤x12∧x12<(pA.length:Int) then(if(((gt y1.1 x12).toNat:Int)==((gt pA x12).toNat:Int)) then some (.inl (w64 (x12+1))) else some (.inr x12)) else none) else none) else some (.inr x12))
noncomputable def g_a.b1 (pA:List UInt8) (y20:List Bool) (x28:List Int×Int):Option ((List Int×Int)⊕((List Int×Int)⊕(Int×Int))) :=
  (if(decide (x28.2<(y20.length:Int))) then(if 0≤x28.2∧x28.2<(y20.length:Int) then(if(gt y20 x28.2) then some (.inl (x28.1,(w64 (x28.2+1)))) else(if 0≤x28.2∧x28.2<(pA.length:Int) then(if(((gt pA x28.2).toNat:Int)==((40:UInt8).toNat:Int)) then(if x28.1.length+([x28.2]:List Int).length<1000000000 then some (.inl ((x28.1++([x28.2]:List Int)),(w64 (x28.2+1)))) else none) else(if 0≤x28.2∧x28.2<(pA.length:Int) then(if(((gt pA x28.2).toNat:Int)==((41:UInt8).toNat:Int)) then(if((x28.1.length:Int)==0) then some (.inr (.inr (x28.2,10))) else(if 0≤(0:Int)∧(0:Int)≤(w64 ((x28.1.length:Int)-1))∧(w64 ((x28.1.length:Int)-1))≤(x28.1.length:Int) then some (.inl ((mid x28.1 (0:Int) (w64 ((x28.1.length:Int)-1))),(w64 (x28.2+1)))) else none)) else some (.inl (x28.1,(w64 (x28.2+1))))) else none)) else none)) else none) else some (.inr (.inl (x28.1,x28.2))))
noncomputable def g_a.f (pA:List UInt8):Option (Int×Int) :=
  Option.bind (g_2t.f pA) fun y1=>(if(y1.2.2 != 0) then some (0,y1.2.2) else(if(decide (pA= [])) then some (0,17) else(if(!decide (y1.1=pA)) then Option.bind (iter (g_a.b0 pA y1) 0) fun o13=>some (o13,3) else Option.bind (g_i.f pA) fun y20=>Option.bind (iter (g_a.b1 pA y20) (([]:List Int),0)) fun o33=>cu o33 fun y66=>(if(decide ((y66.1.length:Int)>0)) then(if 0≤(w64 ((y66.1.length:Int)-1))∧(w64 ((y66.1.length:Int)-1))<(y66.1.length:Int) then some ((gt y66.1 (w64 ((y66.1.length:Int)-1))),10) else none) else some (0,0)))))
theorem g_a.ok {pA:List UInt8} {F:FZ} {r:Int×Int} (h:g_a.f pA=some r) (hG:Gl F) :
    Cl EV 37 [aa pA] [] F (fun v S' F'=>FLe F F'∧v= .tuple #[.int .i64 r.1,.int .i64 r.2]∧S'= []):=by
 refine Cl.of Tryz.func37 rfl (fun _ _=>rfl) (by kernel_rfl) fun s L nx0 hS=>?_
 unfold g_a.f at h
 refine WW.seq (WW.region ?_)
 refine sg0 hS 2 [] [2,3] [.int .i64 0,.int .i64 0] [] (by kernel_rfl) fun s hS=>(KW.nil ?_)
 refine WW.seq (WW.region ?_)
 obtain⟨y1,hy1,h⟩:=bind_some h
 refine cK (g_2t.ok hy1 hG) hS 1 13 0 rfl (by kernel_rfl) fun s v S' F3 hp2 hF hS=>?_
 obtain⟨a4,z5,B7,hF8,rfl,rfl,h6⟩:=hp2
 refine sg0 hS 7 [] [4,6] [aa y1.1,.int .i64 y1.2.2] [] (by kernel_rfl) fun s hS=>(KW.nil ?_)
 refine WW.seq (WW.block ?_)
 refine WW.seq (WW.region ?_)
 refine sg0 hS 3 [] [17] [.bool (y1.2.2 != 0)] [] (by kernel_rfl) fun s hS=>(KW.nil ?_)
 refine bc h (fun hc9 h=>?_) fun hc9 h=>?_
 refine WW.condK hS rfl hc9 (WW.seq ?_)
 refine WW.region (sg0 hS 3 [] [2,3] [.int .i64 0,.int .i64 y1.2.2] [] (by kernel_rfl) fun s hS=>?_)
 refine KW.nil (WW.ret ?_)
 replace hS:=hS.drop
 cases h
 exact bP hS (.inr rfl) 2 3 rfl rfl rfl ⟨(hF8),rfl,rfl⟩
 refine WW.condF hS rfl hc9 (WW.seq ?_)
 refine WW.region (sg0 hS 1 [] [22] [aa pA] [] (by kernel_rfl) fun s hS=>?_)
 refine aw hS (wn rfl) rfl rfl rfl (v:= .bool (decide (pA= []))) (gV (hS.lk rfl) (hS.lk rfl)) fun s hS=>(sg0 hS 1 [] [21] [.bool (decide (pA= []))] [] (by kernel_rfl) fun s hS=>?_)
 refine KW.nil (bc h (fun hc10 h=>?_) fun hc10 h=>?_)
 refine WW.condK hS rfl hc10 (WW.seq ?_)
 refine WW.region (sg0 hS 2 [] [2,3] [.int .i64 0,.int .i64 17] [] (by kernel_rfl) fun s hS=>?_)
 refine KW.nil (WW.ret ?_)
 replace hS:=hS.drop
 cases h
 exact bP hS (.inr rfl) 2 3 rfl rfl rfl ⟨(hF8),rfl,rfl⟩
 refine WW.condF hS rfl hc10 (WW.seq ?_)
 refine WW.region (sg0 hS 2 [] [25,26] [aa y1.1,aa pA] [] (by kernel_rfl) fun s hS=>?_)
 refine aw hS (wn rfl) rfl rfl rfl (v:= .bool (!decide (y1.1=pA))) (pV (hS.lk rfl) (hS.lk rfl)) fun s hS=>(sg0 hS 1 [] [24] [.bool (!decide (y1.1=pA))] [] (by kernel_rfl) fun s hS=>?_)
 refine KW.nil (bc h (fun hc11 h=>?_) fun hc11 h=>?_)
 refine WW.condK hS rfl hc11 (WW.seq ?_)
 refine WW.region (sg0 hS 1 [] [7] [.int .i64 0] [] (by kernel_rfl) fun s hS=>?_)
 refine KW.nil (WW.seq ?_)
 refine WW.block ?_
 obtain⟨o13,ho13,h⟩:=bind_some h
 refine WW.loop (LW.iterE ho13 (fun(x12:Int) s=>Stt EV s [(0,aa pA),(2,.int .i64 0),(3,.int .i64 0),(4,aa y1.1),(7,.int .i64 x12)] [B7] F3 L F nx0) 1 (hS.subR rfl) ?_ ?_)
 clear hS
 rintro x12 s hS o13' h15
 unfold g_a.b0 at h15
 refine WW.seq (WW.seq ?_)
 refine WW.regionD (i:=[[],[0],[0],[2,1,0],[2,1,0],[0],[],[],[],[8],[],[10,9,8],[11,10,9,8],[10,9,8],[],[]]) (by kernel_rfl) ?_
 have hq:=RS.start []
 refine kg hS hq 5 [28,30,32] [.int .i64 x12,.int .i64 (y1.1.length:Int),.int .i64 (pA.length:Int)] (by kernel_rfl) fun s rs hS hq=>(K.pu hS hq rfl (wn rfl) rfl rfl rfl (v:= .int .i64 (if(pA.length:Int)<(y1.1.length:Int) then(pA.length:Int) else(y1.1.length:Int))) (pZ rfl (hS.lk rfl) (hS.lk rfl)) fun s rs hS hq=>?_)
 refine kg hS hq 2 [35] [.bool (decide (x12<(if(pA.length:Int)<(y1.1.length:Int) then(pA.length:Int) else(y1.1.length:Int))))] (by kernel_rfl) fun s rs hS hq=>(bc h15 (fun hc16 h15=>?_) fun hc16 h15=>?_)
 replace hS:=hS.kb 35 hc16 rfl
 refine kg hS hq 2 [36,37] [aa y1.1,.int .i64 x12] (by kernel_rfl) fun s rs hS hq=>?_
 obtain⟨hk17,h15⟩:=ac h15
 refine K.pu hS hq rfl (wt hS rfl rfl rfl rfl) rfl rfl rfl (v:=vB (gt y1.1 x12)) (au tu9 (hS.lk rfl) (hS.lk rfl) hk17) fun s rs hS hq=>(kg hS hq 2 [39,40] [aa pA,.int .i64 x12] (by kernel_rfl) fun s rs hS hq=>?_)
 obtain⟨hk18,h15⟩:=ac h15
 refine K.pu hS hq rfl (wt hS rfl rfl rfl rfl) rfl rfl rfl (v:=vB (gt pA x12)) (au tu9 (hS.lk rfl) (hS.lk rfl) hk18) fun s rs hS hq=>(kg hS hq 2 [43] [.bool (((gt y1.1 x12).toNat:Int)==((gt pA x12).toNat:Int))] (by kernel_rfl) fun s rs hS hq=>?_)
 refine KW.nil (bc h15 (fun hc19 h15=>?_) fun hc19 h15=>?_)
 refine WW.condK hS rfl hc19 (WW.skip ?_)
 refine WW.block (WW.region ?_)
 refine sg0 hS 3 [] [7] [.int .i64 (w64 (x12+1))] [] (by kernel_rfl) fun s hS=>(KW.nil ?_)
 obtain rfl:=Option.some.inj h15
 exact⟨_,rfl,(hS.subR rfl)⟩
 refine WW.condF hS rfl hc19 (WW.exit ?_)
 refine ae ?_
 obtain rfl:=Option.some.inj h15
 exact⟨_,rfl,rfl,(hS.subR rfl)⟩
 replace hS:=hS.kb 35 hc16 rfl
 refine kg hS hq 8 [43] [.bool false] (by kernel_rfl) fun s rs hS hq=>(KW.nil ?_)
 refine WW.condF hS rfl rfl (WW.exit ?_)
 refine ae ?_
 obtain rfl:=Option.some.inj h15
 exact⟨_,rfl,rfl,(hS.subR rfl)⟩
 clear hS
 rintro e s ⟨rfl,hS⟩
 refine af (WW.seq ?_)
 refine WW.region (sg0 hS 3 [] [2,3] [.int .i64 o13,.int .i64 3] [] (by kernel_rfl) fun s hS=>?_)
 refine KW.nil (WW.ret ?_)
 replace hS:=hS.drop
 cases h
 exact bP hS (.inr rfl) 2 3 rfl rfl rfl ⟨(hF8),rfl,rfl⟩
 refine WW.condF hS rfl hc11 (WW.skip ?_)
 refine WW.seq (WW.region ?_)
 refine sg0 hS 1 [] [8] [.slice none 0 0] [] (by kernel_rfl) fun s hS=>(KW.nil ?_)
 refine WW.seq (WW.seq ?_)
 refine WW.region ?_
 obtain⟨y20,hy20,h⟩:=bind_some h
 refine cK (g_i.ok hy20 (hG.mono hF8)) hS 1 48 0 rfl (by kernel_rfl) fun s v S' F22 hp21 hF hS=>?_
 obtain⟨a23,z24,B26,hF27,rfl,rfl,h25⟩:=hp21
 refine sg0 hS 2 [] [49,50] [.int .i64 (y20.length:Int),.int .i64 0] [] (by kernel_rfl) fun s hS=>(KW.nil ?_)
 refine WW.block ?_
 replace hS:=hS.gap0
 obtain⟨o33,ho33,h⟩:=bind_some h
 refine WW.loop (LW.iterS ho33 (fun(x28:List Int×Int) s=> ∃(a29:Option Addr) (z30:Nat) (B32:Seg),Stt EV s [(0,aa pA),(2,.int .i64 0),(3,.int .i64 0),(8,.slice a29 x28.1.length z30),(48,.slice a23 y20.length z24),(49,.int .i64 (y20.length:Int)),(50,.int .i64 x28.2)] [B32,B26,B7] F22 L F nx0∧Own (elI .i64 3) F22 a29 z30 x28.1 B32) 3 (fun r=>ej EV Tryz.f37 L F nx0 (fun v S' F'=>FLe F F'∧v= .tuple #[.int .i64 r.1,.int .i64 r.2]∧S'= [])) ⟨_,_,_,(hS.subR rfl),Own.nil⟩ ?_ ?_)
 clear hS
 rintro x28 s ⟨a29,z30,B32,hS,h31⟩ o33' h39
 unfold g_a.b1 at h39
 refine WW.seq (WW.region ?_)
 refine sg0 hS 1 [] [51] [.bool (decide (x28.2<(y20.length:Int)))] [] (by kernel_rfl) fun s hS=>(KW.nil ?_)
 refine WW.seq (bc h39 (fun hc40 h39=>?_) fun hc40 h39=>?_)
 refine WW.condK hS rfl hc40 (WW.skip ?_)
 refine WW.seq (WW.block ?_)
 refine WW.seq (WW.region ?_)
 refine sg0 hS 1 [] [52] [.int .i64 x28.2] [] (by kernel_rfl) fun s hS=>?_
 obtain⟨hk41,h39⟩:=ac h39
 obtain⟨i47,cs48,ex49,rfl,rfl,rfl,hC50⟩:=Own.some_ h25 (by omega)
 obtain⟨c42,hR43,hN45,hN44,hT46⟩:=ai.loadF hC50 ex49 hk41 (z:=1) rfl
 obtain rfl:=hR43
 refine aw hS (wn rfl) rfl rfl rfl (v:= .pointer (some ⟨i47,0+(x28.2).toNat*1,none⟩)) (aF (hS.lk rfl) (hS.lk rfl) td hk41) fun s hS=>(eu hS (wn rfl) rfl rfl rfl (hS.at (k:=1) rfl) tg4 (v:= .bool (gt y20 x28.2)) hN44 fun s hS=>?_)
 refine sg0 hS 2 [] [9,10] [.int .i64 x28.2,.bool (gt y20 x28.2)] [] (by kernel_rfl) fun s hS=>(KW.nil ?_)
 refine WW.block (WW.seq ?_)
 refine WW.region (sg0 hS 2 [] [55] [.bool (gt y20 x28.2)] [] (by kernel_rfl) fun s hS=>?_)
 refine KW.nil (bc h39 (fun hc51 h39=>?_) fun hc51 h39=>?_)
 refine WW.condK hS rfl hc51 (WW.skip ?_)
 refine WW.region (sg0 hS 2 [] [50] [.int .i64 (w64 (x28.2+1))] [] (by kernel_rfl) fun s hS=>?_)
 refine KW.nil ?_
 obtain rfl:=Option.some.inj h39
 exact⟨_,rfl,_,_,_,(hS.subR rfl),h31⟩
 refine WW.condF hS rfl hc51 (WW.seq ?_)
 refine WW.region (sg0 hS 2 [] [58,59] [aa pA,.int .i64 x28.2] [] (by kernel_rfl) fun s hS=>?_)
 obtain⟨hk52,h39⟩:=ac h39
 refine aw hS (wn rfl) rfl rfl rfl (v:=vB (gt pA x28.2)) (au tu9 (hS.lk rfl) (hS.lk rfl) hk52) fun s hS=>(sg0 hS 2 [] [57] [.bool (((gt pA x28.2).toNat:Int)==((40:UInt8).toNat:Int))] [] (by kernel_rfl) fun s hS=>?_)
 refine KW.nil (bc h39 (fun hc53 h39=>?_) fun hc53 h39=>?_)
 refine WW.condK hS rfl hc53 (WW.region ?_)
 refine sg0 hS 2 [] [62,63] [.slice a29 x28.1.length z30,.int .i64 x28.2] [] (by kernel_rfl) fun s hS=>(bA hS (wn rfl) rfl rfl rfl (v:=fun i=> .slice (some ⟨i,0,none⟩) 1 1) (b:= .row [.int .i64 x28.2] 3 1 true) (aW iM tz3 gp rfl [(0,.int .i64 x28.2)] (av hS rfl) rfl) fun s i54 hS=>?_)
 have hC55:ai (elI .i64 3) F22 ([x28.2]:List Int) [.int .i64 x28.2]:=⟨[.int .i64 x28.2],[],rfl,rfl,rfl⟩
 obtain⟨hk59,h39⟩:=ac h39
 refine fU hS (wn rfl) (dd:=(elI .i64 3)) (lst:=x28.1) (m:=([x28.2]:List Int)) rfl rfl dl rfl rfl h31 (Nat.succ_pos _) hC55 hk59 fun s i56 cs57 hC58 hS=>(sg0 hS 1 [] [8] [.slice (some ⟨i56,0,none⟩) (x28.1++([x28.2]:List Int)).length 1] [] (by kernel_rfl) fun s hS=>?_)
 refine KW.nil (WW.region ?_)
 refine sg0 hS 2 [] [50] [.int .i64 (w64 (x28.2+1))] [] (by kernel_rfl) fun s hS=>(KW.nil ?_)
 obtain rfl:=Option.some.inj h39
 exact⟨_,rfl,_,_,_,(hS.subR rfl),(Own.blk0 hC58)⟩
 refine WW.condF hS rfl hc53 (WW.seq ?_)
 refine WW.region (sg0 hS 2 [] [67,68] [aa pA,.int .i64 x28.2] [] (by kernel_rfl) fun s hS=>?_)
 obtain⟨hk60,h39⟩:=ac h39
 refine aw hS (wn rfl) rfl rfl rfl (v:=vB (gt pA x28.2)) (au tu9 (hS.lk rfl) (hS.lk rfl) hk60) fun s hS=>(sg0 hS 2 [] [66] [.bool (((gt pA x28.2).toNat:Int)==((41:UInt8).toNat:Int))] [] (by kernel_rfl) fun s hS=>?_)
 refine KW.nil (bc h39 (fun hc61 h39=>?_) fun hc61 h39=>?_)
 refine WW.condK hS rfl hc61 (WW.seq ?_)
 refine WW.seq (WW.region ?_)
 refine sg0 hS 3 [] [73] [.bool ((x28.1.length:Int)==0)] [] (by kernel_rfl) fun s hS=>(KW.nil ?_)
 refine bc h39 (fun hc62 h39=>?_) fun hc62 h39=>?_
 refine WW.condK hS rfl hc62 (WW.seq ?_)
 refine WW.region (sg0 hS 3 [] [2,3] [.int .i64 x28.2,.int .i64 10] [] (by kernel_rfl) fun s hS=>?_)
 refine KW.nil (WW.ret ?_)
 replace hS:=hS.drop
 replace hS:=hS.drop
 replace hS:=hS.drop
 cases h39
 exact⟨_,rfl,rfl,bP hS (.inr rfl) 2 3 rfl rfl rfl ⟨((FLe.trans hF8 hF27)),rfl,rfl⟩⟩
 refine WW.condF hS rfl hc62 (WW.skip ?_)
 refine WW.region (sg0 hS 4 [] [75,78] [.slice a29 x28.1.length z30,.int .i64 (w64 ((x28.1.length:Int)-1))] [] (by kernel_rfl) fun s hS=>?_)
 obtain⟨hk63,h39⟩:=ac h39
 obtain⟨he64,hz65⟩:=Own.pre h31 hk63 (m:=1) rfl
 refine aw hS (wn rfl) rfl rfl rfl (v:= .slice a29 (mid x28.1 (0:Int) (w64 ((x28.1.length:Int)-1))).length z30) (fi dj (hS.lk rfl) (i:=(0:Int)) (h:=(w64 ((x28.1.length:Int)-1))) rfl (bF hS rfl) he64) fun s hS=>(sg0 hS 1 [] [8] [.slice a29 (mid x28.1 (0:Int) (w64 ((x28.1.length:Int)-1))).length z30] [] (by kernel_rfl) fun s hS=>?_)
 refine KW.nil (WW.region ?_)
 refine sg0 hS 2 [] [50] [.int .i64 (w64 (x28.2+1))] [] (by kernel_rfl) fun s hS=>(KW.nil ?_)
 obtain rfl:=Option.some.inj h39
 exact⟨_,rfl,_,_,_,(hS.subR rfl),hz65⟩
 refine WW.condF hS rfl hc61 (WW.skip ?_)
 refine WW.region (sg0 hS 2 [] [50] [.int .i64 (w64 (x28.2+1))] [] (by kernel_rfl) fun s hS=>?_)
 refine KW.nil ?_
 obtain rfl:=Option.some.inj h39
 exact⟨_,rfl,_,_,_,(hS.subR rfl),h31⟩
 refine WW.condF hS rfl hc40 (WW.exit ?_)
 refine ae ?_
 obtain rfl:=Option.some.inj h39
 exact⟨_,rfl,rfl,_,_,_,(hS.subR rfl),h31⟩
 clear hS
 rcases o33 with y66 | y66
 rintro e s ⟨rfl,a67,z68,B70,hS,h69⟩
 replace h:=bp h
 refine af (WW.seq ?_)
 refine WW.seq (WW.region ?_)
 refine sg0 hS 3 [] [83] [.bool (decide ((y66.1.length:Int)>0))] [] (by kernel_rfl) fun s hS=>(KW.nil ?_)
 refine bc h (fun hc71 h=>?_) fun hc71 h=>?_
 refine WW.condK hS rfl hc71 (WW.seq ?_)
 refine WW.region (sg0 hS 4 [] [84,87] [.slice a67 y66.1.length z68,.int .i64 (w64 ((y66.1.length:Int)-1))] [] (by kernel_rfl) fun s hS=>?_)
 obtain⟨hk72,h⟩:=ac h
 obtain⟨i78,cs79,ex80,rfl,rfl,rfl,hC81⟩:=Own.some_ h69 (by omega)
 obtain⟨c73,hR74,hN76,hN75,hT77⟩:=ai.loadF hC81 ex80 hk72 (z:=1) rfl
 obtain rfl:=hR74
 refine aw hS (wn rfl) rfl rfl rfl (v:= .pointer (some ⟨i78,0+((w64 ((y66.1.length:Int)-1))).toNat*1,none⟩)) (aF (hS.lk rfl) (hS.lk rfl) dj hk72) fun s hS=>(eu hS (wn rfl) rfl rfl rfl (hS.at (k:=0) rfl) tg3 (v:= .int .i64 (gt y66.1 (w64 ((y66.1.length:Int)-1)))) hN75 fun s hS=>?_)
 refine sg0 hS 2 [] [2,3] [.int .i64 (gt y66.1 (w64 ((y66.1.length:Int)-1))),.int .i64 10] [] (by kernel_rfl) fun s hS=>(KW.nil ?_)
 refine WW.ret ?_
 replace hS:=hS.drop
 replace hS:=hS.drop
 replace hS:=hS.drop
 cases h
 exact bP hS (.inr rfl) 2 3 rfl rfl rfl ⟨((FLe.trans hF8 hF27)),rfl,rfl⟩
 refine WW.condF hS rfl hc71 (WW.skip ?_)
 refine WW.seq (WW.region ?_)
 refine sg0 hS 2 [] [2,3] [.int .i64 0,.int .i64 0] [] (by kernel_rfl) fun s hS=>(KW.nil ?_)
 refine WW.ret ?_
 replace hS:=hS.drop
 replace hS:=hS.drop
 replace hS:=hS.drop
 cases h
 exact bP hS (.inr rfl) 2 3 rfl rfl rfl ⟨((FLe.trans hF8 hF27)),rfl,rfl⟩
 rintro e s ⟨rfl,hfin⟩
 replace h:=bq h
 obtain rfl:=Option.some.inj h
 exact hfin
noncomputable def g_26.f (pA:List UInt8):Option (Int) :=
  Option.bind (g_a.f pA) fun y1=>some y1.2
theorem g_26.ok {pA:List UInt8} {F:FZ} {r:Int} (h:g_26.f pA=some r) (hG:Gl F) :
    Cl EV 51 [aa pA] [] F (fun v S' F'=>FLe F F'∧v= .int .i64 r∧S'= []):=by
 refine Cl.of Tryz.func51 rfl (fun _ _=>rfl) (by kernel_rfl) fun s L nx0 hS=>?_
 unfold g_26.f at h
 refine WW.seq (WW.region ?_)
 refine sg0 hS 1 [] [2] [.int .i64 0] [] (by kernel_rfl) fun s hS=>(KW.nil ?_)
 refine WW.seq (WW.region ?_)
 obtain⟨y1,hy1,h⟩:=bind_some h
 refine cK (g_a.ok hy1 hG) hS 1 7 0 rfl (by kernel_rfl) fun s v S' F3 hp2 hF hS=>?_
 obtain⟨hF4,rfl,rfl⟩:=hp2
 refine sg0 hS 5 [] [4] [.int .i64 y1.2] [] (by kernel_rfl) fun s hS=>(KW.nil ?_)
 refine WW.seq (WW.region ?_)
 refine sg0 hS 2 [] [2] [.int .i64 y1.2] [] (by kernel_rfl) fun s hS=>(KW.nil ?_)
 refine WW.ret ?_
 cases h
 exact ax hS (.inr rfl) 2 rfl rfl ⟨(hF4),rfl,rfl⟩
noncomputable def g_m.b0 (pA:List UInt8) (y1:List Bool) (x9:List Int×Int×Int):Option ((List Int×Int×Int)⊕(List Int×Int×Int)) :=
  (if(decide (x9.2.2<(y1.length:Int))) then(if 0≤x9.2.2∧x9.2.2<(y1.length:Int) then(if(gt y1 x9.2.2) then(if x9.1.length+([(-1)]:List Int).length<1000000000 then some (.inl ((x9.1++([(-1)]:List Int)),x9.2.1,(w64 (x9.2.2+1)))) else none) else Option.bind ((if 0≤x9.2.2∧x9.2.2<(pA.length:Int) then(if(((gt pA x9.2.2).toNat:Int)==((41:UInt8).toNat:Int)) then some (w64 (x9.2.1-1)) else some x9.2.1) else none)) fun z39=>(if x9.1.length+([z39]:List Int).length<1000000000 then(if 0≤x9.2.2∧x9.2.2<(pA.length:Int) then(if(((gt pA x9.2.2).toNat:Int)==((40:UInt8).toNat:Int)) then some (.inl ((x9.1++([z39]:List Int)),(w64 (z39+1)),(w64 (x9.2.2+1)))) else some (.inl ((x9.1++([z39]:List Int)),z39,(w64 (x9.2.2+1))))) else none) else none)) else none) else some (.inr (x9.1,x9.2.1,x9.2.2)))
noncomputable def g_m.f (pA:List UInt8):Option (List Int) :=
  Option.bind (g_i.f pA) fun y1=>Option.bind (iter (g_m.b0 pA y1) (([]:List Int),0,0)) fun o14=>some o14.1
theorem g_m.ok {pA:List UInt8} {F:FZ} {r:List Int} (h:g_m.f pA=some r) (hG:Gl F) :
    Cl EV 55 [aa pA] [] F (fun v S' F'=> ∃(ra1:Option Addr) (rz2:Nat) (rB4:Seg),FLe F F'∧v= .slice ra1 r.length rz2∧S'= [rB4]∧Own (elI .i64 3) F' ra1 rz2 r rB4):=by
 refine Cl.of Tryz.func55 rfl (fun _ _=>rfl) (by kernel_rfl) fun s L nx0 hS=>?_
 unfold g_m.f at h
 refine WW.seq (WW.region ?_)
 refine sg0 hS 1 [] [2] [.slice none 0 0] [] (by kernel_rfl) fun s hS=>(KW.nil ?_)
 refine WW.seq (WW.region ?_)
 refine sg0 hS 1 [] [3] [.slice none 0 0] [] (by kernel_rfl) fun s hS=>(KW.nil ?_)
 refine WW.seq (WW.region ?_)
 refine sg0 hS 1 [] [4] [.int .i64 0] [] (by kernel_rfl) fun s hS=>(KW.nil ?_)
 refine WW.seq (WW.seq ?_)
 refine WW.region ?_
 obtain⟨y1,hy1,h⟩:=bind_some h
 refine cK (g_i.ok hy1 hG) hS 1 8 0 rfl (by kernel_rfl) fun s v S' F3 hp2 hF hS=>?_
 obtain⟨a4,z5,B7,hF8,rfl,rfl,h6⟩:=hp2
 refine sg0 hS 2 [] [9,10] [.int .i64 (y1.length:Int),.int .i64 0] [] (by kernel_rfl) fun s hS=>(KW.nil ?_)
 refine WW.block ?_
 replace hS:=hS.gap0
 obtain⟨o14,ho14,h⟩:=bind_some h
 refine WW.loop (LW.iterE ho14 (fun(x9:List Int×Int×Int) s=> ∃(a10:Option Addr) (z11:Nat) (B13:Seg),Stt EV s [(0,aa pA),(2,.slice none 0 0),(3,.slice a10 x9.1.length z11),(4,.int .i64 x9.2.1),(8,.slice a4 y1.length z5),(9,.int .i64 (y1.length:Int)),(10,.int .i64 x9.2.2)] [B13,B7] F3 L F nx0∧Own (elI .i64 3) F3 a10 z11 x9.1 B13) 0 ⟨_,_,_,(hS.subR rfl),Own.nil⟩ ?_ ?_)
 clear hS
 rintro x9 s ⟨a10,z11,B13,hS,h12⟩ o14' h20
 unfold g_m.b0 at h20
 refine WW.seq (WW.region ?_)
 refine sg0 hS 1 [] [11] [.bool (decide (x9.2.2<(y1.length:Int)))] [] (by kernel_rfl) fun s hS=>(KW.nil ?_)
 refine WW.seq (bc h20 (fun hc21 h20=>?_) fun hc21 h20=>?_)
 refine WW.condK hS rfl hc21 (WW.skip ?_)
 refine WW.seq (WW.block ?_)
 refine WW.seq (WW.region ?_)
 refine sg0 hS 1 [] [12] [.int .i64 x9.2.2] [] (by kernel_rfl) fun s hS=>?_
 obtain⟨hk22,h20⟩:=ac h20
 obtain⟨i28,cs29,ex30,rfl,rfl,rfl,hC31⟩:=Own.some_ h6 (by omega)
 obtain⟨c23,hR24,hN26,hN25,hT27⟩:=ai.loadF hC31 ex30 hk22 (z:=1) rfl
 obtain rfl:=hR24
 refine aw hS (wn rfl) rfl rfl rfl (v:= .pointer (some ⟨i28,0+(x9.2.2).toNat*1,none⟩)) (aF (hS.lk rfl) (hS.lk rfl) td hk22) fun s hS=>(eu hS (wn rfl) rfl rfl rfl (hS.at (k:=1) rfl) tg4 (v:= .bool (gt y1 x9.2.2)) hN25 fun s hS=>?_)
 refine sg0 hS 2 [] [5,6] [.int .i64 x9.2.2,.bool (gt y1 x9.2.2)] [] (by kernel_rfl) fun s hS=>(KW.nil ?_)
 refine WW.seq (WW.seq ?_)
 refine WW.region (sg0 hS 1 [] [15] [.bool (gt y1 x9.2.2)] [] (by kernel_rfl) fun s hS=>?_)
 refine KW.nil (bc h20 (fun hc32 h20=>?_) fun hc32 h20=>?_)
 refine WW.condK hS rfl hc32 (WW.seq ?_)
 refine WW.region (sg0 hS 1 [] [16] [.slice a10 x9.1.length z11] [] (by kernel_rfl) fun s hS=>?_)
 refine bA hS (wn rfl) rfl rfl rfl (v:=fun i=> .slice (some ⟨i,0,none⟩) 1 1) (b:= .row [.int .i64 (-1)] 3 1 true) (aW iM tz3 gp rfl [(0,.int .i64 (-1))] (av hS rfl) rfl) fun s i33 hS=>?_
 have hC34:ai (elI .i64 3) F3 ([(-1)]:List Int) [.int .i64 (-1)]:=⟨[.int .i64 (-1)],[],rfl,rfl,rfl⟩
 obtain⟨hk38,h20⟩:=ac h20
 refine fU hS (wn rfl) (dd:=(elI .i64 3)) (lst:=x9.1) (m:=([(-1)]:List Int)) rfl rfl dl rfl rfl h12 (Nat.succ_pos _) hC34 hk38 fun s i35 cs36 hC37 hS=>(sg0 hS 1 [] [3] [.slice (some ⟨i35,0,none⟩) (x9.1++([(-1)]:List Int)).length 1] [] (by kernel_rfl) fun s hS=>?_)
 refine KW.nil (WW.exit ?_)
 refine ae (af ?_)
 refine WW.region (sg0 hS 2 [] [10] [.int .i64 (w64 (x9.2.2+1))] [] (by kernel_rfl) fun s hS=>?_)
 refine KW.nil ?_
 obtain rfl:=Option.some.inj h20
 exact⟨_,rfl,_,_,_,(hS.subR rfl),(Own.blk0 hC37)⟩
 refine WW.condF hS rfl hc32 (WW.skip ?_)
 obtain⟨z39,hz39,h20⟩:=bind_some h20
 refine WW.seqJ (fun s=>Stt EV s [(0,aa pA),(2,.slice none 0 0),(3,.slice a10 x9.1.length z11),(4,.int .i64 z39),(5,.int .i64 x9.2.2),(8,.slice (some ⟨i28,0,none⟩) y1.length 1),(9,.int .i64 (y1.length:Int)),(10,.int .i64 x9.2.2)] [B13,[(i28,.row (cs29++ex30) 4 1 true)]] F3 L F nx0) ?_ ?_
 refine WW.seq (WW.region ?_)
 refine sg0 hS 2 [] [19,20] [aa pA,.int .i64 x9.2.2] [] (by kernel_rfl) fun s hS=>?_
 obtain⟨hk40,hz39⟩:=ac hz39
 refine aw hS (wn rfl) rfl rfl rfl (v:=vB (gt pA x9.2.2)) (au tu9 (hS.lk rfl) (hS.lk rfl) hk40) fun s hS=>(sg0 hS 1 [] [22] [.bool (((gt pA x9.2.2).toNat:Int)==((41:UInt8).toNat:Int))] [] (by kernel_rfl) fun s hS=>?_)
 refine KW.nil (bc hz39 (fun hc41 hz39=>?_) fun hc41 hz39=>?_)
 refine WW.condK hS rfl hc41 (WW.region ?_)
 refine sg0 hS 3 [] [4] [.int .i64 (w64 (x9.2.1-1))] [] (by kernel_rfl) fun s hS=>(KW.nil ?_)
 obtain rfl:=Option.some.inj hz39
 exact(hS.subR rfl)
 refine WW.condF hS rfl hc41 (WW.skip ?_)
 obtain rfl:=Option.some.inj hz39
 exact(hS.subR rfl)
 rintro s hS
 refine WW.seq (WW.region ?_)
 refine sg0 hS 2 [] [25,26] [.slice a10 x9.1.length z11,.int .i64 z39] [] (by kernel_rfl) fun s hS=>(bA hS (wn rfl) rfl rfl rfl (v:=fun i=> .slice (some ⟨i,0,none⟩) 1 1) (b:= .row [.int .i64 z39] 3 1 true) (aW iM tz3 gp rfl [(0,.int .i64 z39)] (av hS rfl) rfl) fun s i42 hS=>?_)
 have hC43:ai (elI .i64 3) F3 ([z39]:List Int) [.int .i64 z39]:=⟨[.int .i64 z39],[],rfl,rfl,rfl⟩
 obtain⟨hk47,h20⟩:=ac h20
 refine fU hS (wn rfl) (dd:=(elI .i64 3)) (lst:=x9.1) (m:=([z39]:List Int)) rfl rfl dl rfl rfl h12 (Nat.succ_pos _) hC43 hk47 fun s i44 cs45 hC46 hS=>(sg0 hS 1 [] [3] [.slice (some ⟨i44,0,none⟩) (x9.1++([z39]:List Int)).length 1] [] (by kernel_rfl) fun s hS=>?_)
 refine KW.nil (WW.seq ?_)
 refine WW.region (sg0 hS 2 [] [29,30] [aa pA,.int .i64 x9.2.2] [] (by kernel_rfl) fun s hS=>?_)
 obtain⟨hk48,h20⟩:=ac h20
 refine aw hS (wn rfl) rfl rfl rfl (v:=vB (gt pA x9.2.2)) (au tu9 (hS.lk rfl) (hS.lk rfl) hk48) fun s hS=>(sg0 hS 1 [] [32] [.bool (((gt pA x9.2.2).toNat:Int)==((40:UInt8).toNat:Int))] [] (by kernel_rfl) fun s hS=>?_)
 refine KW.nil (bc h20 (fun hc49 h20=>?_) fun hc49 h20=>?_)
 refine WW.condK hS rfl hc49 (WW.region ?_)
 refine sg0 hS 3 [] [4] [.int .i64 (w64 (z39+1))] [] (by kernel_rfl) fun s hS=>(KW.nil ?_)
 refine WW.region (sg0 hS 2 [] [10] [.int .i64 (w64 (x9.2.2+1))] [] (by kernel_rfl) fun s hS=>?_)
 refine KW.nil ?_
 obtain rfl:=Option.some.inj h20
 exact⟨_,rfl,_,_,_,(hS.subR rfl),(Own.blk0 hC46)⟩
 refine WW.condF hS rfl hc49 (WW.skip ?_)
 refine WW.region (sg0 hS 2 [] [10] [.int .i64 (w64 (x9.2.2+1))] [] (by kernel_rfl) fun s hS=>?_)
 refine KW.nil ?_
 obtain rfl:=Option.some.inj h20
 exact⟨_,rfl,_,_,_,(hS.subR rfl),(Own.blk0 hC46)⟩
 refine WW.condF hS rfl hc21 (WW.exit ?_)
 refine ae ?_
 obtain rfl:=Option.some.inj h20
 exact⟨_,rfl,rfl,_,_,_,(hS.subR rfl),h12⟩
 clear hS
 rintro e s ⟨rfl,a50,z51,B53,hS,h52⟩
 refine af (WW.seq ?_)
 refine WW.region (sg0 hS 2 [] [2] [.slice a50 o14.1.length z51] [] (by kernel_rfl) fun s hS=>?_)
 refine KW.nil (WW.ret ?_)
 replace hS:=(hS.pull 1).drop
 cases h
 exact ax hS (.inr rfl) 2 rfl rfl ⟨_,_,_,(hF8),rfl,rfl,h52⟩
noncomputable def g_22.f (pA:List UInt8):Option (List UInt8×List Int×Int×List Int×Bool) :=
  Option.bind (g_m.f pA) fun y1=>some (pA,y1,0,([]:List Int),true)
theorem g_22.ok {pA:List UInt8} {F:FZ} {r:List UInt8×List Int×Int×List Int×Bool} (h:g_22.f pA=some r) (hG:Gl F) :
    Cl EV 57 [aa pA] [] F (fun v S' F'=> ∃(ri1:Nat) (ra2:Option Addr) (rz3:Nat) (ra5:Option Addr) (rz6:Nat) (rB8:Seg),FLe F F'∧v= .pointer (some ⟨ri1,0,none⟩)∧S'= [[(ri1,.row [aa r.1,.slice ra2 r.2.1.length rz3,.int .i64 r.2.2.1,.slice ra5 r.2.2.2.1.length rz6,.bool r.2.2.2.2] 99 0 true)],rB8]∧Frz (elI .i64 3) F' ra2 rz3 r.2.1∧Own (elI .i64 3) F' ra5 rz6 r.2.2.2.1 rB8):=by
 refine Cl.of Tryz.func57 rfl (fun _ _=>rfl) (by kernel_rfl) fun s L nx0 hS=>?_
 unfold g_22.f at h
 refine WW.seq (WW.region ?_)
 refine sg0 hS 1 [] [2] [.pointer none] [] (by kernel_rfl) fun s hS=>(KW.nil ?_)
 refine WW.seq (WW.region ?_)
 refine sg0 hS 2 [] [3,4] [aa pA,aa pA] [] (by kernel_rfl) fun s hS=>?_
 obtain⟨y1,hy1,h⟩:=bind_some h
 refine bu hS (wn rfl) (vs:=[aa pA]) (ws:=[aa pA]) rfl rfl rfl rfl rfl 0 rfl (g_m.ok hy1 hG) fun s v S' F3 hp2 hF hS=>?_
 obtain⟨a4,z5,B7,hF8,rfl,rfl,h6⟩:=hp2
 refine aw hS (wn rfl) rfl rfl rfl (v:= .agg #[aa pA,.slice a4 y1.length z5,.int .i64 0,.slice none 0 0,.bool true]) (cn t0_99 tp99 [(0,aa pA),(1,.slice a4 y1.length z5),(4,.bool true)] (av hS rfl) (cs:=[aa pA,.slice a4 y1.length z5,.int .i64 0,.slice none 0 0,.bool true]) rfl) fun s hS=>(bA hS (wn rfl) rfl rfl rfl (v:=fun i=> .pointer (some ⟨i,0,none⟩)) (b:= .row [aa pA,.slice a4 y1.length z5,.int .i64 0,.slice none 0 0,.bool true] 99 0 true) (co (hS.lk rfl) rfl [aa pA,.slice a4 y1.length z5,.int .i64 0,.slice none 0 0,.bool true] rfl) fun s i9 hS=>?_)
 refine sg0 hS 1 [] [2] [.pointer (some ⟨i9,0,none⟩)] [] (by kernel_rfl) fun s hS=>(KW.nil ?_)
 refine WW.ret ?_
 replace hS:=hS.pull 1
 obtain⟨F10,hF11,hS,hz12⟩:=hS.frzO h6
 replace hS:=hS.gap0
 replace hS:=hS.pull 1
 cases h
 exact ax hS (.inr rfl) 2 rfl rfl ⟨_,_,_,_,_,_,((FLe.trans hF8 hF11)),rfl,rfl,hz12,Own.nil⟩
noncomputable def g_2a.f (pA:List UInt8) (pB:List UInt8):Option (Bool) :=
  Option.bind ((if(decide ((pA.length:Int)≥(pB.length:Int))) then(if 0≤(0:Int)∧(0:Int)≤(pB.length:Int)∧(pB.length:Int)≤(pA.length:Int) then some (decide ((mid pA (0:Int) (pB.length:Int))=pB)) else none) else some false)) fun z1=>some z1
theorem g_2a.ok {pA:List UInt8} {pB:List UInt8} {F:FZ} {r:Bool} (h:g_2a.f pA pB=some r) :
    Cl EV 159 [aa pA,aa pB] [] F (fun v S' F'=>F=F'∧v= .bool r∧S'= []):=by
 refine Cl.of Tryz.func159 rfl (fun _ _=>rfl) (by kernel_rfl) fun s L nx0 hS=>?_
 unfold g_2a.f at h
 refine WW.seq (WW.region ?_)
 refine sg0 hS 1 [] [4] [.bool false] [] (by kernel_rfl) fun s hS=>(KW.nil ?_)
 refine WW.seq (WW.region ?_)
 refine sg0 hS 6 [] [10] [.bool (decide ((pA.length:Int)≥(pB.length:Int)))] [] (by kernel_rfl) fun s hS=>?_
 obtain⟨z1,hz1,h⟩:=bind_some h
 refine ay 7 (fun s=>Stt EV s [(17,.bool z1),(4,.bool false)] [] F L F nx0) ?_ fun s hS=>?_
 refine bc hz1 (fun hc2 hz1=>?_) fun hc2 hz1=>?_
 replace hS:=hS.kb 10 hc2 rfl
 refine sg0 hS 3 [] [11,13] [aa pA,.int .i64 (pB.length:Int)] [] (by kernel_rfl) fun s hS=>?_
 obtain⟨hk3,hz1⟩:=ac hz1
 refine aw hS (wt hS rfl rfl rfl rfl) rfl rfl rfl (v:=aa (mid pA (0:Int) (pB.length:Int))) (cU tu9 (hS.lk rfl) (i:=(0:Int)) (j:=(pB.length:Int)) rfl (bF hS rfl) hk3) fun s hS=>(sg0 hS 1 [] [15] [aa pB] [] (by kernel_rfl) fun s hS=>?_)
 refine aw hS (wt hS rfl rfl rfl rfl) rfl rfl rfl (v:= .bool (decide ((mid pA (0:Int) (pB.length:Int))=pB))) (gV (hS.lk rfl) (hS.lk rfl)) fun s hS=>(sg0 hS 1 [] [17] [.bool (decide ((mid pA (0:Int) (pB.length:Int))=pB))] [] (by kernel_rfl) fun s hS=>?_)
 refine KW.nil ?_
 obtain rfl:=Option.some.inj hz1
 exact hS.subR rfl
 replace hS:=hS.kb 10 hc2 rfl
 refine sg0 hS 7 [] [17] [.bool false] [] (by kernel_rfl) fun s hS=>(KW.nil ?_)
 obtain rfl:=Option.some.inj hz1
 exact hS.subR rfl
 refine sg0 hS 1 [] [4] [.bool z1] [] (by kernel_rfl) fun s hS=>(KW.nil ?_)
 refine WW.ret ?_
 cases h
 exact ax hS (.inr rfl) 4 rfl rfl ⟨rfl,rfl,rfl⟩
noncomputable def g_3b.f (pA:List UInt8) (pB:List UInt8):Option (Bool) :=
  Option.bind (g_2a.f pA pB) fun y1=>some y1
theorem g_3b.ok {pA:List UInt8} {pB:List UInt8} {F:FZ} {r:Bool} (h:g_3b.f pA pB=some r) :
    Cl EV 120 [aa pA,aa pB] [] F (fun v S' F'=>F=F'∧v= .bool r∧S'= []):=by
 refine Cl.of Tryz.func120 rfl (fun _ _=>rfl) (by kernel_rfl) fun s L nx0 hS=>?_
 unfold g_3b.f at h
 refine WW.seq (WW.region ?_)
 refine sg0 hS 1 [] [4] [.bool false] [] (by kernel_rfl) fun s hS=>(KW.nil ?_)
 refine WW.seq (WW.region ?_)
 obtain⟨y1,hy1,h⟩:=bind_some h
 refine cR (g_2a.ok hy1) hS 2 7 0 rfl (by kernel_rfl) fun s hS=>(sg0 hS 1 [] [4] [.bool y1] [] (by kernel_rfl) fun s hS=>?_)
 refine KW.nil (WW.ret ?_)
 cases h
 exact ax hS (.inr rfl) 4 rfl rfl ⟨rfl,rfl,rfl⟩
noncomputable def g_10.f (pA:Int):Option (Bool) :=
  some (pA != 0)
theorem g_10.ok {pA:Int} {F:FZ} {r:Bool} (h:g_10.f pA=some r) :
    Cl EV 122 [.int .i64 pA] [] F (fun v S' F'=>F=F'∧v= .bool r∧S'= []):=by
 refine Cl.of Tryz.func122 rfl (fun _ _=>rfl) (by kernel_rfl) fun s L nx0 hS=>?_
 unfold g_10.f at h
 refine WW.seq (WW.region ?_)
 refine sg0 hS 1 [] [2] [.bool false] [] (by kernel_rfl) fun s hS=>(KW.nil ?_)
 refine WW.seq (WW.region ?_)
 refine sg0 hS 3 [] [2] [.bool (pA != 0)] [] (by kernel_rfl) fun s hS=>(KW.nil ?_)
 refine WW.ret ?_
 cases h
 exact ax hS (.inr rfl) 2 rfl rfl ⟨rfl,rfl,rfl⟩
noncomputable def g_2q.b0 (pA:List Int) (x1:Int):Option ((Int)⊕((Int)⊕(Int))) :=
  (if(decide (x1<(pA.length:Int))) then(if 0≤x1∧x1<(pA.length:Int) then Option.bind (g_10.f (gt pA x1)) fun y15=>(if y15 then some (.inr (.inr x1)) else some (.inl (w64 (x1+1)))) else none) else some (.inr (.inl x1)))
noncomputable def g_2q.f (pA:List Int):Option (Int) :=
  Option.bind (iter (g_2q.b0 pA) 0) fun o2=>cu o2 fun y18=>some (-1)
theorem g_2q.ok {aC:Option Addr} {zD:Nat} {pA:List Int} {F:FZ} {r:Int} (h:g_2q.f pA=some r) (hE:Frz (elI .i64 3) F aC zD pA) :
    Cl EV 160 [.slice aC pA.length zD,.func (.func 122) #[] #[]] [] F (fun v S' F'=>F=F'∧v= .int .i64 r∧S'= []):=by
 refine Cl.of Tryz.func160 rfl (fun _ _=>rfl) (by kernel_rfl) fun s L nx0 hS=>?_
 unfold g_2q.f at h
 refine WW.seq (WW.region ?_)
 refine sg0 hS 1 [] [4] [.int .i64 0] [] (by kernel_rfl) fun s hS=>(KW.nil ?_)
 refine WW.seq (WW.seq ?_)
 refine WW.region (sg0 hS 3 [] [7,8] [.int .i64 (pA.length:Int),.int .i64 0] [] (by kernel_rfl) fun s hS=>?_)
 refine KW.nil (WW.block ?_)
 obtain⟨o2,ho2,h⟩:=bind_some h
 refine WW.loop (LW.iterS ho2 (fun(x1:Int) s=>Stt EV s [(0,.slice aC pA.length zD),(1,.func (.func 122) #[] #[]),(4,.int .i64 0),(7,.int .i64 (pA.length:Int)),(8,.int .i64 x1)] [] F L F nx0) 0 (fun r=>ej EV Tryz.f160 L F nx0 (fun v S' F'=>F=F'∧v= .int .i64 r∧S'= [])) (hS.subR rfl) ?_ ?_)
 clear hS
 rintro x1 s hS o2' h4
 unfold g_2q.b0 at h4
 refine WW.seq (WW.region ?_)
 refine sg0 hS 1 [] [9] [.bool (decide (x1<(pA.length:Int)))] [] (by kernel_rfl) fun s hS=>(KW.nil ?_)
 refine WW.seq (bc h4 (fun hc5 h4=>?_) fun hc5 h4=>?_)
 refine WW.condK hS rfl hc5 (WW.skip ?_)
 refine WW.seq (WW.block ?_)
 refine WW.seq (WW.region ?_)
 refine sg0 hS 2 [] [5] [.int .i64 x1] [] (by kernel_rfl) fun s hS=>(KW.nil ?_)
 refine WW.seq (WW.region ?_)
 refine sg0 hS 3 [] [11,12,13] [.func (.func 122) #[] #[],.slice aC pA.length zD,.int .i64 x1] [] (by kernel_rfl) fun s hS=>?_
 obtain⟨hk6,h4⟩:=ac h4
 obtain⟨i12,of13,rfl⟩:=Frz.addr hE (by omega)
 obtain⟨_,_,_,_,c7,hF14,hR8,hN9,hN10,hT11⟩:=Frz.at hE hk6 (m:=1) rfl
 obtain rfl:=hR8
 refine aw hS (wn rfl) rfl rfl rfl (v:= .pointer (some ⟨i12,of13+(x1).toNat*1,none⟩)) (aF (hS.lk rfl) (hS.lk rfl) dj hk6) fun s hS=>(eu hS (wn rfl) rfl rfl rfl (hS.fat hF14) tg3 (v:= .int .i64 (gt pA x1)) hN9 fun s hS=>?_)
 obtain⟨y15,hy15,h4⟩:=bind_some h4
 refine cR (g_10.ok hy15) hS 0 16 0 rfl (by kernel_rfl) fun s hS=>(KW.nil ?_)
 refine bc h4 (fun hc17 h4=>?_) fun hc17 h4=>?_
 refine WW.condK hS rfl hc17 (WW.seq ?_)
 refine WW.region (sg0 hS 2 [] [4] [.int .i64 x1] [] (by kernel_rfl) fun s hS=>?_)
 refine KW.nil (WW.ret ?_)
 cases h4
 exact⟨_,rfl,rfl,ax hS (.inr rfl) 4 rfl rfl ⟨rfl,rfl,rfl⟩⟩
 refine WW.condF hS rfl hc17 (WW.skip ?_)
 refine WW.region (sg0 hS 2 [] [8] [.int .i64 (w64 (x1+1))] [] (by kernel_rfl) fun s hS=>?_)
 refine KW.nil ?_
 obtain rfl:=Option.some.inj h4
 exact⟨_,rfl,(hS.subR rfl)⟩
 refine WW.condF hS rfl hc5 (WW.exit ?_)
 refine ae ?_
 obtain rfl:=Option.some.inj h4
 exact⟨_,rfl,rfl,(hS.subR rfl)⟩
 clear hS
 rcases o2 with y18 | y18
 rintro e s ⟨rfl,hS⟩
 replace h:=bp h
 refine af (WW.seq ?_)
 refine WW.region (sg0 hS 1 [] [4] [.int .i64 (-1)] [] (by kernel_rfl) fun s hS=>?_)
 refine KW.nil (WW.ret ?_)
 cases h
 exact ax hS (.inr rfl) 4 rfl rfl ⟨rfl,rfl,rfl⟩
 rintro e s ⟨rfl,hfin⟩
 replace h:=bq h
 obtain rfl:=Option.some.inj h
 exact hfin
noncomputable def g_2m.f (pA:List Int):Option (Bool) :=
  Option.bind (g_2q.f pA) fun y1=>some (decide (y1≥0))
theorem g_2m.ok {aC:Option Addr} {zD:Nat} {pA:List Int} {F:FZ} {r:Bool} (h:g_2m.f pA=some r) (hE:Frz (elI .i64 3) F aC zD pA) :
    Cl EV 121 [.slice aC pA.length zD,.func (.func 122) #[] #[]] [] F (fun v S' F'=>F=F'∧v= .bool r∧S'= []):=by
 refine Cl.of Tryz.func121 rfl (fun _ _=>rfl) (by kernel_rfl) fun s L nx0 hS=>?_
 unfold g_2m.f at h
 refine WW.seq (WW.region ?_)
 refine sg0 hS 1 [] [4] [.bool false] [] (by kernel_rfl) fun s hS=>(KW.nil ?_)
 refine WW.seq (WW.region ?_)
 obtain⟨y1,hy1,h⟩:=bind_some h
 refine cR (g_2q.ok hy1 hE) hS 2 7 0 rfl (by kernel_rfl) fun s hS=>(sg0 hS 2 [] [4] [.bool (decide (y1≥0))] [] (by kernel_rfl) fun s hS=>?_)
 refine KW.nil (WW.ret ?_)
 cases h
 exact ax hS (.inr rfl) 4 rfl rfl ⟨rfl,rfl,rfl⟩
noncomputable def g_z.f (pB:List UInt8) (pC:List Int) (pI:Int) (pP:Bool) (pT:List UInt8):Option (Bool) :=
  (if(!pP) then some false else(if 0≤pI∧pI≤(pB.length:Int)∧(pB.length:Int)≤(pB.length:Int) then Option.bind (g_3b.f (mid pB pI (pB.length:Int)) pT) fun y3=>(if(!y3) then some false else(if 0≤pI∧pI≤(w64 (pI+(pT.length:Int)))∧(w64 (pI+(pT.length:Int)))≤(pC.length:Int) then Option.bind (g_2m.f (mid pC pI (w64 (pI+(pT.length:Int))))) fun y10=>some (!y10) else none)) else none))
theorem g_z.ok {iB:Nat} {aE:Option Addr} {zH:Nat} {aM:Option Addr} {zN:Nat} {BP:Seg} {pB:List UInt8} {pC:List Int} {pI:Int} {pJ:List Int} {pP:Bool} {pT:List UInt8} {F:FZ} {r:Bool} (h:g_z.f pB pC pI pP pT=some r) (hI:Frz (elI .i64 3) F aE zH pC) :
    Cl EV 90 [.pointer (some ⟨iB,0,none⟩),aa pT] [[(iB,.row [aa pB,.slice aE pC.length zH,.int .i64 pI,.slice aM pJ.length zN,.bool pP] 99 0 true)],BP] F (fun v S' F'=>F=F'∧v= .bool r∧S'= [[(iB,.row [aa pB,.slice aE pC.length zH,.int .i64 pI,.slice aM pJ.length zN,.bool pP] 99 0 true)],BP]):=by
 refine Cl.of Tryz.func90 rfl (fun _ _=>rfl) (by kernel_rfl) fun s L nx0 hS=>?_
 unfold g_z.f at h
 refine WW.seq (WW.region ?_)
 refine sg0 hS 1 [] [4] [.bool false] [] (by kernel_rfl) fun s hS=>(KW.nil ?_)
 refine WW.seq (WW.seq ?_)
 refine WW.regionD (i:=[[],[],[],[],[],[],[],[],[],[],[9,8,7,6],[9,8,7,6],[9,8,7,6],[9,8,7,6],[],[14,13,12,11,10,9,8,7,6],[],[],[]]) (by kernel_rfl) ?_
 have hq:=RS.start [iB]
 refine kg hS hq 3 [7] [.pointer (some ⟨iB,4,none⟩)] (by kernel_rfl) fun s rs hS hq=>(K.ld hS hq rfl (wn rfl) rfl rfl rfl (hS.at (k:=0) rfl) tg4 (v:= .bool pP) rfl 0 rfl rfl fun s rs hS hq=>?_)
 refine kg hS hq 2 [10] [.bool (!pP)] (by kernel_rfl) fun s rs hS hq=>(bc h (fun hc1 h=>?_) fun hc1 h=>?_)
 replace hS:=hS.kb 10 hc1 rfl
 refine kg hS hq 13 [23] [.bool true] (by kernel_rfl) fun s rs hS hq=>(KW.nil ?_)
 refine WW.condK hS rfl rfl (WW.seq ?_)
 refine WW.region (sg0 hS 1 [] [4] [.bool false] [] (by kernel_rfl) fun s hS=>?_)
 refine KW.nil (WW.ret ?_)
 cases h
 exact ax hS (.inr rfl) 4 rfl rfl ⟨rfl,rfl,rfl⟩
 replace hS:=hS.kb 10 hc1 rfl
 refine kg hS hq 3 [13] [.pointer (some ⟨iB,0,none⟩)] (by kernel_rfl) fun s rs hS hq=>(K.ld hS hq rfl (wt hS rfl rfl rfl rfl) rfl rfl rfl (hS.at (k:=0) rfl) tg9 (v:=aa pB) rfl 0 rfl rfl fun s rs hS hq=>?_)
 refine kg hS hq 3 [17] [.pointer (some ⟨iB,2,none⟩)] (by kernel_rfl) fun s rs hS hq=>(K.ld hS hq rfl (wt hS rfl rfl rfl rfl) rfl rfl rfl (hS.at (k:=0) rfl) tg3 (v:= .int .i64 pI) rfl 0 rfl rfl fun s rs hS hq=>?_)
 obtain⟨hk2,h⟩:=ac h
 refine K.pu hS hq rfl (wt hS rfl rfl rfl rfl) rfl rfl rfl (v:=aa (mid pB pI (pB.length:Int))) (cU tu9 (hS.lk rfl) (i:=pI) (j:=(pB.length:Int)) (bF hS rfl) rfl hk2) fun s rs hS hq=>(kg hS hq 1 [20] [aa pT] (by kernel_rfl) fun s rs hS hq=>?_)
 obtain⟨y3,hy3,h⟩:=bind_some h
 refine K.cl hS hq rfl (wt hS rfl rfl rfl rfl) (vs:=[aa (mid pB pI (pB.length:Int)),aa pT]) (ws:=[aa (mid pB pI (pB.length:Int)),aa pT]) rfl rfl rfl rfl rfl 0 rfl (g_3b.ok hy3)  [0] rfl rfl (aP rfl mm0 bn) fun s rs v S' F' hp4 hF hS hq=>?_
 obtain⟨rfl,rfl,rfl⟩:=hp4
 refine kg hS hq 2 [23] [.bool (!y3)] (by kernel_rfl) fun s rs hS hq=>(KW.nil ?_)
 refine bc h (fun hc5 h=>?_) fun hc5 h=>?_
 refine WW.condK hS rfl hc5 (WW.seq ?_)
 refine WW.region (sg0 hS 1 [] [4] [.bool false] [] (by kernel_rfl) fun s hS=>?_)
 refine KW.nil (WW.ret ?_)
 cases h
 exact ax hS (.inr rfl) 4 rfl rfl ⟨rfl,rfl,rfl⟩
 refine WW.condF hS rfl hc5 (WW.skip ?_)
 refine WW.seq (WW.regionD (i:=[[],[],[],[],[3,2,1,0],[3,2,1,0],[3,2,1,0],[3,2,1,0],[7,6,5,4,3,2,1,0],[7,6,5,4,3,2,1,0],[7,6,5,4,3,2,1,0],[7,6,5,4,3,2,1,0],[11,10,9,8,7,6,5,4,3,2,1,0],[11,10,9,8,7,6,5,4,3,2,1,0],[7,6,5,4,3,2,1,0],[],[],[],[]]) (by kernel_rfl) ?_)
 have hq:=RS.start [iB]
 refine kg hS hq 3 [26] [.pointer (some ⟨iB,1,none⟩)] (by kernel_rfl) fun s rs hS hq=>(K.ld hS hq rfl (wn rfl) rfl rfl rfl (hS.at (k:=0) rfl) fL (v:= .slice aE pC.length zH) rfl 0 rfl rfl fun s rs hS hq=>?_)
 refine kg hS hq 3 [30] [.pointer (some ⟨iB,2,none⟩)] (by kernel_rfl) fun s rs hS hq=>(K.ld hS hq rfl (wn rfl) rfl rfl rfl (hS.at (k:=0) rfl) tg3 (v:= .int .i64 pI) rfl 0 rfl rfl fun s rs hS hq=>?_)
 refine kg hS hq 3 [34] [.pointer (some ⟨iB,2,none⟩)] (by kernel_rfl) fun s rs hS hq=>(K.ld hS hq rfl (wn rfl) rfl rfl rfl (hS.at (k:=0) rfl) tg3 (v:= .int .i64 pI) rfl 0 rfl rfl fun s rs hS hq=>?_)
 refine kg hS hq 3 [38] [.int .i64 (w64 (pI+(pT.length:Int)))] (by kernel_rfl) fun s rs hS hq=>?_
 obtain⟨hk6,h⟩:=ac h
 obtain⟨a7,he8,hz9⟩:=Frz.slice hI hk6 (m:=1) rfl
 refine K.pu hS hq rfl (wn rfl) rfl rfl rfl (v:= .slice a7 (mid pC pI (w64 (pI+(pT.length:Int)))).length zH) (fi dj (hS.lk rfl) (i:=pI) (h:=(w64 (pI+(pT.length:Int)))) (bF hS rfl) (bF hS rfl) he8) fun s rs hS hq=>?_
 obtain⟨y10,hy10,h⟩:=bind_some h
 refine K.cl hS hq rfl (wn rfl) (vs:=[.slice a7 (mid pC pI (w64 (pI+(pT.length:Int)))).length zH,.func (.func 122) #[] #[]]) (ws:=[.slice a7 (mid pC pI (w64 (pI+(pT.length:Int)))).length zH,.func (.func 122) #[] #[]]) rfl rfl rfl rfl rfl 0 rfl (g_2m.ok hy10 hz9)  [0] rfl rfl (aP rfl mm0 bn) fun s rs v S' F' hp11 hF hS hq=>?_
 obtain⟨rfl,rfl,rfl⟩:=hp11
 refine kg hS hq 2 [4] [.bool (!y10)] (by kernel_rfl) fun s rs hS hq=>(KW.nil ?_)
 refine WW.ret ?_
 cases h
 exact ax hS (.inr rfl) 4 rfl rfl ⟨rfl,rfl,rfl⟩
noncomputable def g_1o.f (pP:Bool) (pT:Bool):Option (Bool) :=
  some (pP&&pT)
theorem g_1o.ok {iB:Nat} {aE:Option Addr} {zH:Nat} {aM:Option Addr} {zN:Nat} {BP:Seg} {pB:List UInt8} {pC:List Int} {pI:Int} {pJ:List Int} {pP:Bool} {pT:Bool} {F:FZ} {r:Bool} (h:g_1o.f pP pT=some r) :
    Cl EV 89 [.pointer (some ⟨iB,0,none⟩),.bool pT] [[(iB,.row [aa pB,.slice aE pC.length zH,.int .i64 pI,.slice aM pJ.length zN,.bool pP] 99 0 true)],BP] F (fun v S' F'=>F=F'∧v= .tuple #[]∧S'= [[(iB,.row [aa pB,.slice aE pC.length zH,.int .i64 pI,.slice aM pJ.length zN,.bool r] 99 0 true)],BP]):=by
 refine Cl.of Tryz.func89 rfl (fun _ _=>rfl) (by kernel_rfl) fun s L nx0 hS=>?_
 unfold g_1o.f at h
 refine WW.region (sg0 hS 6 [0] [4,9] [.pointer (some ⟨iB,0,none⟩),.bool pP] [iB] (by kernel_rfl) fun s hS=>?_)
 refine ay 2 (fun s=>Stt EV s [(11,.bool (pP&&pT)),(4,.pointer (some ⟨iB,0,none⟩))] [[(iB,.row [aa pB,.slice aE pC.length zH,.int .i64 pI,.slice aM pJ.length zN,.bool pP] 99 0 true)],BP] F L F nx0) ?_ fun s hS=>?_
 rcases aj (pP) with hcj | hcj
 replace hS:=hS.know (t:=9) rfl (congrArg Value.bool hcj)
 refine sg0 hS 2 [] [11] [.bool pT] [] (by kernel_rfl) fun s hS=>(KW.nil ?_)
 exact(hS.know (t:=11) (u':= .bool (pP&&pT)) rfl (aJ hcj)).subR rfl
 replace hS:=hS.know (t:=9) rfl (congrArg Value.bool hcj)
 refine sg0 hS 2 [] [11] [.bool false] [] (by kernel_rfl) fun s hS=>(KW.nil ?_)
 exact(hS.know (t:=11) (u':= .bool (pP&&pT)) rfl (aL hcj)).subR rfl
 refine sg hS 3 [0] [] [] [iB] [[(iB,.row [aa pB,.slice aE pC.length zH,.int .i64 pI,.slice aM pJ.length zN,.bool (pP&&pT)] 99 0 true)],BP] (by kernel_rfl) fun s hS=>(KW.nil ?_)
 cases h
 exact aG hS (.inl rfl) rfl ⟨rfl,rfl,rfl⟩
noncomputable def g_l.f (pA:UInt8):Option (Bool) :=
  some ((decide (((65:UInt8).toNat:Int)≤(pA.toNat:Int)))&&(decide ((pA.toNat:Int)≤((90:UInt8).toNat:Int))))
theorem g_l.ok {pA:UInt8} {F:FZ} {r:Bool} (h:g_l.f pA=some r) :
    Cl EV 123 [vB pA] [] F (fun v S' F'=>F=F'∧v= .bool r∧S'= []):=by
 refine Cl.of Tryz.func123 rfl (fun _ _=>rfl) (by kernel_rfl) fun s L nx0 hS=>?_
 unfold g_l.f at h
 refine WW.seq (WW.region ?_)
 refine sg0 hS 1 [] [2] [.bool false] [] (by kernel_rfl) fun s hS=>(KW.nil ?_)
 refine WW.seq (WW.region ?_)
 refine sg0 hS 3 [] [5] [.bool (decide (((65:UInt8).toNat:Int)≤(pA.toNat:Int)))] [] (by kernel_rfl) fun s hS=>(ay 3 (fun s=>Stt EV s [(8,.bool ((decide (((65:UInt8).toNat:Int)≤(pA.toNat:Int)))&&(decide ((pA.toNat:Int)≤((90:UInt8).toNat:Int))))),(2,.bool false)] [] F L F nx0) ?_ fun s hS=>?_)
 rcases aj ((decide (((65:UInt8).toNat:Int)≤(pA.toNat:Int)))) with hcj | hcj
 replace hS:=hS.know (t:=5) rfl (congrArg Value.bool hcj)
 refine sg0 hS 3 [] [8] [.bool (decide ((pA.toNat:Int)≤((90:UInt8).toNat:Int)))] [] (by kernel_rfl) fun s hS=>(KW.nil ?_)
 exact(hS.know (t:=8) (u':= .bool ((decide (((65:UInt8).toNat:Int)≤(pA.toNat:Int)))&&(decide ((pA.toNat:Int)≤((90:UInt8).toNat:Int))))) rfl (aJ hcj)).subR rfl
 replace hS:=hS.know (t:=5) rfl (congrArg Value.bool hcj)
 refine sg0 hS 3 [] [8] [.bool false] [] (by kernel_rfl) fun s hS=>(KW.nil ?_)
 exact(hS.know (t:=8) (u':= .bool ((decide (((65:UInt8).toNat:Int)≤(pA.toNat:Int)))&&(decide ((pA.toNat:Int)≤((90:UInt8).toNat:Int))))) rfl (aL hcj)).subR rfl
 refine sg0 hS 1 [] [2] [.bool ((decide (((65:UInt8).toNat:Int)≤(pA.toNat:Int)))&&(decide ((pA.toNat:Int)≤((90:UInt8).toNat:Int))))] [] (by kernel_rfl) fun s hS=>(KW.nil ?_)
 refine WW.ret ?_
 cases h
 exact ax hS (.inr rfl) 2 rfl rfl ⟨rfl,rfl,rfl⟩
noncomputable def g_k.f (pA:UInt8):Option (Bool) :=
  some ((decide (((48:UInt8).toNat:Int)≤(pA.toNat:Int)))&&(decide ((pA.toNat:Int)≤((57:UInt8).toNat:Int))))
theorem g_k.ok {pA:UInt8} {F:FZ} {r:Bool} (h:g_k.f pA=some r) :
    Cl EV 62 [vB pA] [] F (fun v S' F'=>F=F'∧v= .bool r∧S'= []):=by
 refine Cl.of Tryz.func62 rfl (fun _ _=>rfl) (by kernel_rfl) fun s L nx0 hS=>?_
 unfold g_k.f at h
 refine WW.seq (WW.region ?_)
 refine sg0 hS 1 [] [2] [.bool false] [] (by kernel_rfl) fun s hS=>(KW.nil ?_)
 refine WW.seq (WW.region ?_)
 refine sg0 hS 3 [] [5] [.bool (decide (((48:UInt8).toNat:Int)≤(pA.toNat:Int)))] [] (by kernel_rfl) fun s hS=>(ay 3 (fun s=>Stt EV s [(8,.bool ((decide (((48:UInt8).toNat:Int)≤(pA.toNat:Int)))&&(decide ((pA.toNat:Int)≤((57:UInt8).toNat:Int))))),(2,.bool false)] [] F L F nx0) ?_ fun s hS=>?_)
 rcases aj ((decide (((48:UInt8).toNat:Int)≤(pA.toNat:Int)))) with hcj | hcj
 replace hS:=hS.know (t:=5) rfl (congrArg Value.bool hcj)
 refine sg0 hS 3 [] [8] [.bool (decide ((pA.toNat:Int)≤((57:UInt8).toNat:Int)))] [] (by kernel_rfl) fun s hS=>(KW.nil ?_)
 exact(hS.know (t:=8) (u':= .bool ((decide (((48:UInt8).toNat:Int)≤(pA.toNat:Int)))&&(decide ((pA.toNat:Int)≤((57:UInt8).toNat:Int))))) rfl (aJ hcj)).subR rfl
 replace hS:=hS.know (t:=5) rfl (congrArg Value.bool hcj)
 refine sg0 hS 3 [] [8] [.bool false] [] (by kernel_rfl) fun s hS=>(KW.nil ?_)
 exact(hS.know (t:=8) (u':= .bool ((decide (((48:UInt8).toNat:Int)≤(pA.toNat:Int)))&&(decide ((pA.toNat:Int)≤((57:UInt8).toNat:Int))))) rfl (aL hcj)).subR rfl
 refine sg0 hS 1 [] [2] [.bool ((decide (((48:UInt8).toNat:Int)≤(pA.toNat:Int)))&&(decide ((pA.toNat:Int)≤((57:UInt8).toNat:Int))))] [] (by kernel_rfl) fun s hS=>(KW.nil ?_)
 refine WW.ret ?_
 cases h
 exact ax hS (.inr rfl) 2 rfl rfl ⟨rfl,rfl,rfl⟩
noncomputable def g_t.f (pB:List UInt8) (pI:Int) (pJ:List Int) (pP:Bool):Option (List Int) :=
  (if pP then(if(decide (pI<(pB.length:Int))) then(if 0≤pI∧pI<(pB.length:Int) then Option.bind (g_l.f (gt pB pI)) fun y4=>(if y4 then(if pJ.length+([pI]:List Int).length<1000000000 then some (pJ++([pI]:List Int)) else none) else(if 0≤pI∧pI<(pB.length:Int) then Option.bind (g_k.f (gt pB pI)) fun y14=>(if y14 then(if pJ.length+([pI]:List Int).length<1000000000 then some (pJ++([pI]:List Int)) else none) else some pJ) else none)) else none) else some pJ) else some pJ)
theorem g_t.ok {iB:Nat} {aE:Option Addr} {zH:Nat} {aM:Option Addr} {zN:Nat} {BP:Seg} {pB:List UInt8} {pC:List Int} {pI:Int} {pJ:List Int} {pP:Bool} {F:FZ} {r:List Int} (h:g_t.f pB pI pJ pP=some r) (hO:Own (elI .i64 3) F aM zN pJ BP) :
    Cl EV 91 [.pointer (some ⟨iB,0,none⟩)] [[(iB,.row [aa pB,.slice aE pC.length zH,.int .i64 pI,.slice aM pJ.length zN,.bool pP] 99 0 true)],BP] F (fun v S' F'=> ∃(ra1:Option Addr) (rz2:Nat) (rB4:Seg),F=F'∧v= .tuple #[]∧S'= [[(iB,.row [aa pB,.slice aE pC.length zH,.int .i64 pI,.slice ra1 r.length rz2,.bool pP] 99 0 true)],rB4]∧Own (elI .i64 3) F' ra1 rz2 r rB4):=by
 refine Cl.of Tryz.func91 rfl (fun _ _=>rfl) (by kernel_rfl) fun s L nx0 hS=>?_
 unfold g_t.f at h
 refine WW.seq (WW.regionD (i:=[[],[],[],[],[],[],[],[],[],[8,7,6,5],[8,7,6,5],[8,7,6,5],[8,7,6,5],[8,7,6,5],[],[],[],[],[],[],[],[20,19,18,17],[20,19,18,17],[20,19,18,17],[20,19,18,17],[],[],[],[],[],[],[],[31,30,29,28],[31,30,29,28],[31,30,29,28],[31,30,29,28],[],[],[],[]]) (by kernel_rfl) ?_)
 have hq:=RS.start [iB]
 refine kg hS hq 3 [4] [.pointer (some ⟨iB,4,none⟩)] (by kernel_rfl) fun s rs hS hq=>(K.ld hS hq rfl (wn rfl) rfl rfl rfl (hS.at (k:=0) rfl) tg4 (v:= .bool pP) rfl 0 rfl rfl fun s rs hS hq=>?_)
 refine kg hS hq 1 [6] [.bool pP] (by kernel_rfl) fun s rs hS hq=>(bc h (fun hc1 h=>?_) fun hc1 h=>?_)
 replace hS:=hS.kb 5 hc1 rfl
 replace hS:=hS.kb 6 hc1 rfl
 refine kg hS hq 3 [9] [.pointer (some ⟨iB,2,none⟩)] (by kernel_rfl) fun s rs hS hq=>(K.ld hS hq rfl (wt hS rfl rfl rfl rfl) rfl rfl rfl (hS.at (k:=0) rfl) tg3 (v:= .int .i64 pI) rfl 0 rfl rfl fun s rs hS hq=>?_)
 refine kg hS hq 3 [13] [.pointer (some ⟨iB,0,none⟩)] (by kernel_rfl) fun s rs hS hq=>(K.ld hS hq rfl (wt hS rfl rfl rfl rfl) rfl rfl rfl (hS.at (k:=0) rfl) tg9 (v:=aa pB) rfl 0 rfl rfl fun s rs hS hq=>?_)
 refine kg hS hq 4 [18] [.bool (decide (pI<(pB.length:Int)))] (by kernel_rfl) fun s rs hS hq=>(bc h (fun hc2 h=>?_) fun hc2 h=>?_)
 replace hS:=hS.kb 18 hc2 rfl
 refine kg hS hq 3 [21] [.pointer (some ⟨iB,0,none⟩)] (by kernel_rfl) fun s rs hS hq=>(K.ld hS hq rfl (wt hS rfl rfl rfl rfl) rfl rfl rfl (hS.at (k:=0) rfl) tg9 (v:=aa pB) rfl 0 rfl rfl fun s rs hS hq=>?_)
 refine kg hS hq 3 [25] [.pointer (some ⟨iB,2,none⟩)] (by kernel_rfl) fun s rs hS hq=>(K.ld hS hq rfl (wt hS rfl rfl rfl rfl) rfl rfl rfl (hS.at (k:=0) rfl) tg3 (v:= .int .i64 pI) rfl 0 rfl rfl fun s rs hS hq=>?_)
 obtain⟨hk3,h⟩:=ac h
 refine K.pu hS hq rfl (wt hS rfl rfl rfl rfl) rfl rfl rfl (v:=vB (gt pB pI)) (au tu9 (hS.lk rfl) (hS.lk rfl) hk3) fun s rs hS hq=>?_
 obtain⟨y4,hy4,h⟩:=bind_some h
 refine K.cl hS hq rfl (wt hS rfl rfl rfl rfl) (vs:=[vB (gt pB pI)]) (ws:=[vB (gt pB pI)]) rfl rfl rfl rfl rfl 0 rfl (g_l.ok hy4)  [0] rfl rfl (aP rfl mm0 bn) fun s rs v S' F' hp5 hF hS hq=>?_
 obtain⟨rfl,rfl,rfl⟩:=hp5
 refine kg hS hq 1 [29] [.bool y4] (by kernel_rfl) fun s rs hS hq=>(bc h (fun hc6 h=>?_) fun hc6 h=>?_)
 replace hS:=hS.kb 28 hc6 rfl
 replace hS:=hS.kb 29 hc6 rfl
 refine kg hS hq 12 [41] [.bool true] (by kernel_rfl) fun s rs hS hq=>(KW.nil ?_)
 refine WW.condK hS rfl rfl (WW.regionD (i:=[[],[0],[0],[0],[0],[4,3,2,1,0],[4,3,2,1,0],[4,3,2,1,0],[4,3,2,1,0],[4,3,2,1,0],[0],[],[],[]]) (by kernel_rfl) ?_)
 have hq:=RS.start [iB]
 refine kg hS hq 4 [42,45] [.pointer (some ⟨iB,0,none⟩),.pointer (some ⟨iB,3,none⟩)] (by kernel_rfl) fun s rs hS hq=>(K.ld hS hq rfl (wn rfl) rfl rfl rfl (hS.at (k:=0) rfl) fL (v:= .slice aM pJ.length zN) rfl 0 rfl rfl fun s rs hS hq=>?_)
 refine kg hS hq 3 [49] [.pointer (some ⟨iB,2,none⟩)] (by kernel_rfl) fun s rs hS hq=>(K.ld hS hq rfl (wn rfl) rfl rfl rfl (hS.at (k:=0) rfl) tg3 (v:= .int .i64 pI) rfl 0 rfl rfl fun s rs hS hq=>?_)
 refine K.nw hS hq rfl (wn rfl) rfl rfl rfl (v:=fun i=> .slice (some ⟨i,0,none⟩) 1 1) (b:= .row [.int .i64 pI] 3 1 true) (aW iM tz3 gp rfl [(0,.int .i64 pI)] (av hS rfl) rfl) [0] (aP rfl mm0 bn) rfl rfl rfl fun s rs i7 hS hq=>?_
 have hC8:ai (elI .i64 3) F ([pI]:List Int) [.int .i64 pI]:=⟨[.int .i64 pI],[],rfl,rfl,rfl⟩
 obtain⟨hk12,h⟩:=ac h
 replace hS:=hS.pull 2
 replace hS:=hS.pull 1
 refine K.app [] hS hq rfl (wn rfl) (dd:=(elI .i64 3)) (lst:=pJ) (m:=([pI]:List Int)) rfl rfl dl rfl rfl hO (Nat.succ_pos _) hC8 hk12 [0] rfl rfl (aP rfl mm0 bn) fun s rs i9 cs10 hC11 hS hq=>(kg hS hq 2 [54] [.pointer (some ⟨iB,3,none⟩)] (by kernel_rfl) fun s rs hS hq=>?_)
 refine K.sto hS hq rfl (wn rfl) rfl rfl rfl rfl (p:=1) rfl tz22 rfl [aa pB,.slice aE pC.length zH,.int .i64 pI,.slice (some ⟨i9,0,none⟩) (pJ++([pI]:List Int)).length 1,.bool pP] rfl [] rfl bn fun s rs hS hq=>(KW.nil ?_)
 replace hS:=hS.pull 1
 cases h
 exact aG hS (.inl rfl) rfl ⟨_,_,_,rfl,rfl,rfl,(Own.blk0 hC11)⟩
 replace hS:=hS.kb 28 hc6 rfl
 replace hS:=hS.kb 29 hc6 rfl
 refine kg hS hq 3 [32] [.pointer (some ⟨iB,0,none⟩)] (by kernel_rfl) fun s rs hS hq=>(K.ld hS hq rfl (wt hS rfl rfl rfl rfl) rfl rfl rfl (hS.at (k:=0) rfl) tg9 (v:=aa pB) rfl 0 rfl rfl fun s rs hS hq=>?_)
 refine kg hS hq 3 [36] [.pointer (some ⟨iB,2,none⟩)] (by kernel_rfl) fun s rs hS hq=>(K.ld hS hq rfl (wt hS rfl rfl rfl rfl) rfl rfl rfl (hS.at (k:=0) rfl) tg3 (v:= .int .i64 pI) rfl 0 rfl rfl fun s rs hS hq=>?_)
 obtain⟨hk13,h⟩:=ac h
 refine K.pu hS hq rfl (wt hS rfl rfl rfl rfl) rfl rfl rfl (v:=vB (gt pB pI)) (au tu9 (hS.lk rfl) (hS.lk rfl) hk13) fun s rs hS hq=>?_
 obtain⟨y14,hy14,h⟩:=bind_some h
 refine K.cl hS hq rfl (wt hS rfl rfl rfl rfl) (vs:=[vB (gt pB pI)]) (ws:=[vB (gt pB pI)]) rfl rfl rfl rfl rfl 0 rfl (g_k.ok hy14)  [0] rfl rfl (aP rfl mm0 bn) fun s rs v S' F' hp15 hF hS hq=>?_
 obtain⟨rfl,rfl,rfl⟩:=hp15
 refine kg hS hq 2 [41] [.bool y14] (by kernel_rfl) fun s rs hS hq=>(KW.nil ?_)
 refine bc h (fun hc16 h=>?_) fun hc16 h=>?_
 refine WW.condK hS rfl hc16 (WW.regionD (i:=[[],[0],[0],[0],[0],[4,3,2,1,0],[4,3,2,1,0],[4,3,2,1,0],[4,3,2,1,0],[4,3,2,1,0],[0],[],[],[]]) (by kernel_rfl) ?_)
 have hq:=RS.start [iB]
 refine kg hS hq 4 [42,45] [.pointer (some ⟨iB,0,none⟩),.pointer (some ⟨iB,3,none⟩)] (by kernel_rfl) fun s rs hS hq=>(K.ld hS hq rfl (wn rfl) rfl rfl rfl (hS.at (k:=0) rfl) fL (v:= .slice aM pJ.length zN) rfl 0 rfl rfl fun s rs hS hq=>?_)
 refine kg hS hq 3 [49] [.pointer (some ⟨iB,2,none⟩)] (by kernel_rfl) fun s rs hS hq=>(K.ld hS hq rfl (wn rfl) rfl rfl rfl (hS.at (k:=0) rfl) tg3 (v:= .int .i64 pI) rfl 0 rfl rfl fun s rs hS hq=>?_)
 refine K.nw hS hq rfl (wn rfl) rfl rfl rfl (v:=fun i=> .slice (some ⟨i,0,none⟩) 1 1) (b:= .row [.int .i64 pI] 3 1 true) (aW iM tz3 gp rfl [(0,.int .i64 pI)] (av hS rfl) rfl) [0] (aP rfl mm0 bn) rfl rfl rfl fun s rs i17 hS hq=>?_
 have hC18:ai (elI .i64 3) F ([pI]:List Int) [.int .i64 pI]:=⟨[.int .i64 pI],[],rfl,rfl,rfl⟩
 obtain⟨hk22,h⟩:=ac h
 replace hS:=hS.pull 2
 replace hS:=hS.pull 1
 refine K.app [] hS hq rfl (wn rfl) (dd:=(elI .i64 3)) (lst:=pJ) (m:=([pI]:List Int)) rfl rfl dl rfl rfl hO (Nat.succ_pos _) hC18 hk22 [0] rfl rfl (aP rfl mm0 bn) fun s rs i19 cs20 hC21 hS hq=>(kg hS hq 2 [54] [.pointer (some ⟨iB,3,none⟩)] (by kernel_rfl) fun s rs hS hq=>?_)
 refine K.sto hS hq rfl (wn rfl) rfl rfl rfl rfl (p:=1) rfl tz22 rfl [aa pB,.slice aE pC.length zH,.int .i64 pI,.slice (some ⟨i19,0,none⟩) (pJ++([pI]:List Int)).length 1,.bool pP] rfl [] rfl bn fun s rs hS hq=>(KW.nil ?_)
 replace hS:=hS.pull 1
 cases h
 exact aG hS (.inl rfl) rfl ⟨_,_,_,rfl,rfl,rfl,(Own.blk0 hC21)⟩
 refine WW.condF hS rfl hc16 (WW.skip ?_)
 cases h
 exact aG hS (.inl rfl) rfl ⟨_,_,_,rfl,rfl,rfl,hO⟩
 replace hS:=hS.kb 18 hc2 rfl
 refine kg hS hq 11 [29] [undef] (by kernel_rfl) fun s rs hS hq=>(K.no hS hq rfl (wu hS rfl rfl rfl) rfl fun s rs hS hq=>?_)
 refine K.no hS hq rfl (wu hS rfl rfl rfl) rfl fun s rs hS hq=>(K.no hS hq rfl (wu hS rfl rfl rfl) rfl fun s rs hS hq=>?_)
 refine K.no hS hq rfl (wu hS rfl rfl rfl) rfl fun s rs hS hq=>(K.no hS hq rfl (wu hS rfl rfl rfl) rfl fun s rs hS hq=>?_)
 refine K.no hS hq rfl (wu hS rfl rfl rfl) rfl fun s rs hS hq=>(K.no hS hq rfl (wu hS rfl rfl rfl) rfl fun s rs hS hq=>?_)
 refine K.no hS hq rfl (wu hS rfl rfl rfl) rfl fun s rs hS hq=>(K.no hS hq rfl (wu hS rfl rfl rfl) rfl fun s rs hS hq=>?_)
 refine K.no hS hq rfl (wu hS rfl rfl rfl) rfl fun s rs hS hq=>(kg hS hq 2 [41] [.bool false] (by kernel_rfl) fun s rs hS hq=>?_)
 refine KW.nil (WW.condF hS rfl rfl ?_)
 refine WW.skip ?_
 cases h
 exact aG hS (.inl rfl) rfl ⟨_,_,_,rfl,rfl,rfl,hO⟩
 replace hS:=hS.kb 5 hc1 rfl
 replace hS:=hS.kb 6 hc1 rfl
 refine kg hS hq 23 [18,29] [.bool false,undef] (by kernel_rfl) fun s rs hS hq=>(K.no hS hq rfl (wu hS rfl rfl rfl) rfl fun s rs hS hq=>?_)
 refine K.no hS hq rfl (wu hS rfl rfl rfl) rfl fun s rs hS hq=>(K.no hS hq rfl (wu hS rfl rfl rfl) rfl fun s rs hS hq=>?_)
 refine K.no hS hq rfl (wu hS rfl rfl rfl) rfl fun s rs hS hq=>(K.no hS hq rfl (wu hS rfl rfl rfl) rfl fun s rs hS hq=>?_)
 refine K.no hS hq rfl (wu hS rfl rfl rfl) rfl fun s rs hS hq=>(K.no hS hq rfl (wu hS rfl rfl rfl) rfl fun s rs hS hq=>?_)
 refine K.no hS hq rfl (wu hS rfl rfl rfl) rfl fun s rs hS hq=>(K.no hS hq rfl (wu hS rfl rfl rfl) rfl fun s rs hS hq=>?_)
 refine K.no hS hq rfl (wu hS rfl rfl rfl) rfl fun s rs hS hq=>(kg hS hq 2 [41] [.bool false] (by kernel_rfl) fun s rs hS hq=>?_)
 refine KW.nil (WW.condF hS rfl rfl ?_)
 refine WW.skip ?_
 cases h
 exact aG hS (.inl rfl) rfl ⟨_,_,_,rfl,rfl,rfl,hO⟩
noncomputable def g_20.f (pB:List UInt8) (pC:List Int) (pI:Int) (pJ:List Int) (pP:Bool) (pT:List UInt8):Option (Int×List Int×Bool) :=
  Option.bind (g_z.f pB pC pI pP pT) fun y1=>Option.bind (g_1o.f pP y1) fun y3=>(if y3 then Option.bind (g_t.f pB (w64 (pI+(pT.length:Int))) pJ y3) fun y6=>some ((w64 (pI+(pT.length:Int))),y6,y3) else some (pI,pJ,y3))
theorem g_20.ok {iB:Nat} {aE:Option Addr} {zH:Nat} {aM:Option Addr} {zN:Nat} {BP:Seg} {pB:List UInt8} {pC:List Int} {pI:Int} {pJ:List Int} {pP:Bool} {pT:List UInt8} {F:FZ} {r:Int×List Int×Bool} (h:g_20.f pB pC pI pJ pP pT=some r) (hI:Frz (elI .i64 3) F aE zH pC) (hO:Own (elI .i64 3) F aM zN pJ BP) :
    Cl EV 58 [.pointer (some ⟨iB,0,none⟩),aa pT] [[(iB,.row [aa pB,.slice aE pC.length zH,.int .i64 pI,.slice aM pJ.length zN,.bool pP] 99 0 true)],BP] F (fun v S' F'=> ∃(ra1:Option Addr) (rz2:Nat) (rB4:Seg),F=F'∧v= .tuple #[]∧S'= [[(iB,.row [aa pB,.slice aE pC.length zH,.int .i64 r.1,.slice ra1 r.2.1.length rz2,.bool r.2.2] 99 0 true)],rB4]∧Own (elI .i64 3) F' ra1 rz2 r.2.1 rB4):=by
 refine Cl.of Tryz.func58 rfl (fun _ _=>rfl) (by kernel_rfl) fun s L nx0 hS=>?_
 unfold g_20.f at h
 refine WW.seq (WW.region ?_)
 refine sg0 hS 3 [] [4,5,6] [.pointer (some ⟨iB,0,none⟩),.pointer (some ⟨iB,0,none⟩),aa pT] [] (by kernel_rfl) fun s hS=>?_
 obtain⟨y1,hy1,h⟩:=bind_some h
 refine bu hS (wn rfl) (vs:=[.pointer (some ⟨iB,0,none⟩),aa pT]) (ws:=[.pointer (some ⟨iB,0,none⟩),aa pT]) rfl rfl rfl rfl rfl 2 rfl (g_z.ok hy1 hI) fun s v S' F' hp2 hF hS=>?_
 obtain⟨rfl,rfl,rfl⟩:=hp2
 obtain⟨y3,hy3,h⟩:=bind_some h
 refine cR (g_1o.ok hy3) hS 0 8 2 rfl (by kernel_rfl) fun s hS=>(KW.nil ?_)
 refine WW.seq (WW.region ?_)
 refine sg0 hS 4 [0] [12] [.bool y3] [iB] (by kernel_rfl) fun s hS=>(KW.nil ?_)
 refine bc h (fun hc5 h=>?_) fun hc5 h=>?_
 refine WW.condK hS rfl hc5 (WW.seq ?_)
 refine WW.region (sg hS 10 [0,0] [] [] [iB,iB] [[(iB,.row [aa pB,.slice aE pC.length zH,.int .i64 (w64 (pI+(pT.length:Int))),.slice aM pJ.length zN,.bool y3] 99 0 true)],BP] (by kernel_rfl) fun s hS=>?_)
 refine KW.nil (WW.region ?_)
 obtain⟨y6,hy6,h⟩:=bind_some h
 refine cK (g_t.ok hy6 hO) hS 1 23 2 rfl (by kernel_rfl) fun s v S' F' hp7 hF hS=>?_
 obtain⟨a8,z9,B11,rfl,rfl,rfl,h10⟩:=hp7
 refine KW.nil ?_
 cases h
 exact aG hS (.inl rfl) rfl ⟨_,_,_,rfl,rfl,rfl,h10⟩
 refine WW.condF hS rfl hc5 (WW.skip ?_)
 cases h
 exact aG hS (.inl rfl) rfl ⟨_,_,_,rfl,rfl,rfl,hO⟩
noncomputable def g_14.f (pA:UInt8) (pC:UInt8):Option (Bool) :=
  some ((pA.toNat:Int)==(pC.toNat:Int))
theorem g_14.ok {iC:Nat} {pA:UInt8} {pC:UInt8} {F:FZ} {r:Bool} (h:g_14.f pA pC=some r) :
    Cl EV 178 [vB pA,.pointer (some ⟨iC,0,none⟩)] [[(iC,.row [vB pC] 5 0 true)]] F (fun v S' F'=>F=F'∧v= .bool r∧S'= [[(iC,.row [vB pC] 5 0 true)]]):=by
 refine Cl.of Tryz.func178 rfl (fun _ _=>rfl) (by kernel_rfl) fun s L nx0 hS=>?_
 unfold g_14.f at h
 refine WW.seq (WW.region ?_)
 refine sg0 hS 1 [] [3] [.bool false] [] (by kernel_rfl) fun s hS=>(KW.nil ?_)
 refine WW.seq (WW.region ?_)
 refine sg0 hS 4 [0] [3] [.bool ((pA.toNat:Int)==(pC.toNat:Int))] [iC] (by kernel_rfl) fun s hS=>(KW.nil ?_)
 refine WW.ret ?_
 cases h
 exact ax hS (.inr rfl) 3 rfl rfl ⟨rfl,rfl,rfl⟩
noncomputable def g_15.f (pB:List UInt8) (pC:List Int) (pI:Int) (pP:Bool) (pU:UInt8):Option (Bool) :=
  (if pP then(if(decide (pI<(pB.length:Int))) then(if 0≤pI∧pI<(pC.length:Int) then(if((gt pC pI)==0) then(if 0≤pI∧pI<(pB.length:Int) then Option.bind (g_14.f (gt pB pI) pU) fun y14=>some y14 else none) else some false) else none) else some false) else some false)
theorem g_15.ok {iB:Nat} {aE:Option Addr} {zH:Nat} {aM:Option Addr} {zN:Nat} {BP:Seg} {iU:Nat} {pB:List UInt8} {pC:List Int} {pI:Int} {pJ:List Int} {pP:Bool} {pU:UInt8} {F:FZ} {r:Bool} (h:g_15.f pB pC pI pP pU=some r) (hI:Frz (elI .i64 3) F aE zH pC) :
    Cl EV 140 [.pointer (some ⟨iB,0,none⟩),.func (.func 178) #[] #[.pointer (some ⟨iU,0,none⟩)]] [[(iB,.row [aa pB,.slice aE pC.length zH,.int .i64 pI,.slice aM pJ.length zN,.bool pP] 99 0 true)],BP,[(iU,.row [vB pU] 5 0 true)]] F (fun v S' F'=>F=F'∧v= .bool r∧S'= [[(iB,.row [aa pB,.slice aE pC.length zH,.int .i64 pI,.slice aM pJ.length zN,.bool pP] 99 0 true)],BP,[(iU,.row [vB pU] 5 0 true)]]):=by
 refine Cl.of Tryz.func140 rfl (fun _ _=>rfl) (by kernel_rfl) fun s L nx0 hS=>?_
 unfold g_15.f at h
 refine WW.seq (WW.region ?_)
 refine sg0 hS 1 [] [4] [.bool false] [] (by kernel_rfl) fun s hS=>(KW.nil ?_)
 refine WW.seq (WW.regionD (i:=[[],[],[],[],[],[],[],[],[],[8,7,6,5],[8,7,6,5],[8,7,6,5],[8,7,6,5],[8,7,6,5],[],[],[],[],[],[],[],[20,19,18,17],[20,19,18,17],[20,19,18,17],[20,19,18,17],[],[],[],[],[],[],[30],[30],[30],[30],[34,33,32,31,30],[34,33,32,31,30],[34,33,32,31,30],[34,33,32,31,30],[30],[],[],[]]) (by kernel_rfl) ?_)
 have hq:=RS.start [iB,iU]
 refine kg hS hq 3 [7] [.pointer (some ⟨iB,4,none⟩)] (by kernel_rfl) fun s rs hS hq=>(K.ld hS hq rfl (wn rfl) rfl rfl rfl (hS.at (k:=0) rfl) tg4 (v:= .bool pP) rfl 0 rfl rfl fun s rs hS hq=>?_)
 refine kg hS hq 1 [9] [.bool pP] (by kernel_rfl) fun s rs hS hq=>(bc h (fun hc1 h=>?_) fun hc1 h=>?_)
 replace hS:=hS.kb 8 hc1 rfl
 replace hS:=hS.kb 9 hc1 rfl
 refine kg hS hq 3 [12] [.pointer (some ⟨iB,2,none⟩)] (by kernel_rfl) fun s rs hS hq=>(K.ld hS hq rfl (wt hS rfl rfl rfl rfl) rfl rfl rfl (hS.at (k:=0) rfl) tg3 (v:= .int .i64 pI) rfl 0 rfl rfl fun s rs hS hq=>?_)
 refine kg hS hq 3 [16] [.pointer (some ⟨iB,0,none⟩)] (by kernel_rfl) fun s rs hS hq=>(K.ld hS hq rfl (wt hS rfl rfl rfl rfl) rfl rfl rfl (hS.at (k:=0) rfl) tg9 (v:=aa pB) rfl 0 rfl rfl fun s rs hS hq=>?_)
 refine kg hS hq 4 [21] [.bool (decide (pI<(pB.length:Int)))] (by kernel_rfl) fun s rs hS hq=>(bc h (fun hc2 h=>?_) fun hc2 h=>?_)
 replace hS:=hS.kb 21 hc2 rfl
 refine kg hS hq 3 [24] [.pointer (some ⟨iB,1,none⟩)] (by kernel_rfl) fun s rs hS hq=>(K.ld hS hq rfl (wt hS rfl rfl rfl rfl) rfl rfl rfl (hS.at (k:=0) rfl) fL (v:= .slice aE pC.length zH) rfl 0 rfl rfl fun s rs hS hq=>?_)
 refine kg hS hq 3 [28] [.pointer (some ⟨iB,2,none⟩)] (by kernel_rfl) fun s rs hS hq=>(K.ld hS hq rfl (wt hS rfl rfl rfl rfl) rfl rfl rfl (hS.at (k:=0) rfl) tg3 (v:= .int .i64 pI) rfl 0 rfl rfl fun s rs hS hq=>?_)
 obtain⟨hk3,h⟩:=ac h
 obtain⟨i9,of10,rfl⟩:=Frz.addr hI (by omega)
 obtain⟨_,_,_,_,c4,hF11,hR5,hN6,hN7,hT8⟩:=Frz.at hI hk3 (m:=1) rfl
 obtain rfl:=hR5
 refine K.pu hS hq rfl (wt hS rfl rfl rfl rfl) rfl rfl rfl (v:= .pointer (some ⟨i9,of10+(pI).toNat*1,none⟩)) (aF (hS.lk rfl) (hS.lk rfl) dj hk3) fun s rs hS hq=>?_
 replace hq:=hq.more i9 rfl rfl rfl
 refine K.ld hS hq rfl (wt hS rfl rfl rfl rfl) rfl rfl rfl (hS.fat hF11) tg3 (v:= .int .i64 (gt pC pI)) hN6 2 rfl rfl fun s rs hS hq=>(kg hS hq 3 [34] [.bool ((gt pC pI)==0)] (by kernel_rfl) fun s rs hS hq=>?_)
 refine bc h (fun hc12 h=>?_) fun hc12 h=>?_
 replace hS:=hS.kb 34 hc12 rfl
 refine kg hS hq 4 [35,38] [.func (.func 178) #[] #[.pointer (some ⟨iU,0,none⟩)],.pointer (some ⟨iB,0,none⟩)] (by kernel_rfl) fun s rs hS hq=>(K.ld hS hq rfl (wt hS rfl rfl rfl rfl) rfl rfl rfl (hS.at (k:=0) rfl) tg9 (v:=aa pB) rfl 0 rfl rfl fun s rs hS hq=>?_)
 refine kg hS hq 3 [42] [.pointer (some ⟨iB,2,none⟩)] (by kernel_rfl) fun s rs hS hq=>(K.ld hS hq rfl (wt hS rfl rfl rfl rfl) rfl rfl rfl (hS.at (k:=0) rfl) tg3 (v:= .int .i64 pI) rfl 0 rfl rfl fun s rs hS hq=>?_)
 obtain⟨hk13,h⟩:=ac h
 refine K.pu hS hq rfl (wt hS rfl rfl rfl rfl) rfl rfl rfl (v:=vB (gt pB pI)) (au tu9 (hS.lk rfl) (hS.lk rfl) hk13) fun s rs hS hq=>?_
 obtain⟨y14,hy14,h⟩:=bind_some h
 replace hS:=hS.pull 2
 refine K.cl hS hq rfl (wt hS rfl rfl rfl rfl) (vs:=[vB (gt pB pI)]) (ws:=[vB (gt pB pI),.pointer (some ⟨iU,0,none⟩)]) rfl rfl rfl rfl rfl 1 rfl (g_14.ok hy14)  [0,2] rfl rfl (aP rfl mm0 (nD rfl hF11 bn)) fun s rs v S' F' hp15 hF hS hq=>?_
 obtain⟨rfl,rfl,rfl⟩:=hp15
 refine kg hS hq 2 [4] [.bool y14] (by kernel_rfl) fun s rs hS hq=>(KW.nil ?_)
 refine WW.ret ?_
 replace hS:=hS.pull 2
 replace hS:=hS.pull 2
 cases h
 exact ax hS (.inr rfl) 4 rfl rfl ⟨rfl,rfl,rfl⟩
 replace hS:=hS.kb 34 hc12 rfl
 refine kg hS hq 13 [4] [.bool false] (by kernel_rfl) fun s rs hS hq=>(KW.nil ?_)
 refine WW.ret ?_
 cases h
 exact ax hS (.inr rfl) 4 rfl rfl ⟨rfl,rfl,rfl⟩
 replace hS:=hS.kb 21 hc2 rfl
 refine kg hS hq 26 [4] [.bool false] (by kernel_rfl) fun s rs hS hq=>(KW.nil ?_)
 refine WW.ret ?_
 cases h
 exact ax hS (.inr rfl) 4 rfl rfl ⟨rfl,rfl,rfl⟩
 replace hS:=hS.kb 8 hc1 rfl
 replace hS:=hS.kb 9 hc1 rfl
 refine kg hS hq 38 [4] [.bool false] (by kernel_rfl) fun s rs hS hq=>(KW.nil ?_)
 refine WW.ret ?_
 cases h
 exact ax hS (.inr rfl) 4 rfl rfl ⟨rfl,rfl,rfl⟩
noncomputable def g_13.f (pB:List UInt8) (pC:List Int) (pI:Int) (pP:Bool) (pT:UInt8):Option (Bool) :=
  Option.bind (g_15.f pB pC pI pP pT) fun y2=>some y2
theorem g_13.ok {iB:Nat} {aE:Option Addr} {zH:Nat} {aM:Option Addr} {zN:Nat} {BP:Seg} {pB:List UInt8} {pC:List Int} {pI:Int} {pJ:List Int} {pP:Bool} {pT:UInt8} {F:FZ} {r:Bool} (h:g_13.f pB pC pI pP pT=some r) (hI:Frz (elI .i64 3) F aE zH pC) :
    Cl EV 164 [.pointer (some ⟨iB,0,none⟩),vB pT] [[(iB,.row [aa pB,.slice aE pC.length zH,.int .i64 pI,.slice aM pJ.length zN,.bool pP] 99 0 true)],BP] F (fun v S' F'=>F=F'∧v= .bool r∧S'= [[(iB,.row [aa pB,.slice aE pC.length zH,.int .i64 pI,.slice aM pJ.length zN,.bool pP] 99 0 true)],BP]):=by
 refine Cl.of Tryz.func164 rfl (fun _ _=>rfl) (by kernel_rfl) fun s L nx0 hS=>?_
 unfold g_13.f at h
 refine WW.seq (WW.region ?_)
 refine bA hS (wn rfl) rfl rfl rfl (v:=fun i=> .pointer (some ⟨i,0,none⟩)) (b:= .row [vB pT] 5 0 true) (co (hS.lk rfl) rfl [vB pT] rfl) fun s i1 hS=>(sg0 hS 1 [] [4] [.bool false] [] (by kernel_rfl) fun s hS=>?_)
 refine KW.nil (WW.seq ?_)
 refine WW.region (sg0 hS 1 [] [5] [.pointer (some ⟨iB,0,none⟩)] [] (by kernel_rfl) fun s hS=>?_)
 refine aw hS (wn rfl) rfl rfl rfl (v:= .func (.func 178) #[] #[.pointer (some ⟨i1,0,none⟩)]) (cF (bb hS (vs:=[]) rfl) (bb hS (vs:=[.pointer (some ⟨i1,0,none⟩)]) rfl)) fun s hS=>?_
 obtain⟨y2,hy2,h⟩:=bind_some h
 replace hS:=hS.pull 2
 replace hS:=hS.pull 2
 refine cR (g_15.ok hy2 hI) hS 0 7 3 rfl (by kernel_rfl) fun s hS=>(sg0 hS 1 [] [4] [.bool y2] [] (by kernel_rfl) fun s hS=>?_)
 refine KW.nil (WW.ret ?_)
 replace hS:=(hS.pull 2).drop
 cases h
 exact ax hS (.inr rfl) 4 rfl rfl ⟨rfl,rfl,rfl⟩
noncomputable def g_1y.f (pB:List UInt8) (pC:List Int) (pI:Int) (pP:Bool) (pT:UInt8):Option (Bool×Int) :=
  Option.bind (g_13.f pB pC pI pP pT) fun y1=>(if(!y1) then some (false,pI) else some (true,(w64 (pI+1))))
theorem g_1y.ok {iB:Nat} {aE:Option Addr} {zH:Nat} {aM:Option Addr} {zN:Nat} {BP:Seg} {pB:List UInt8} {pC:List Int} {pI:Int} {pJ:List Int} {pP:Bool} {pT:UInt8} {F:FZ} {r:Bool×Int} (h:g_1y.f pB pC pI pP pT=some r) (hI:Frz (elI .i64 3) F aE zH pC) :
    Cl EV 143 [.pointer (some ⟨iB,0,none⟩),vB pT] [[(iB,.row [aa pB,.slice aE pC.length zH,.int .i64 pI,.slice aM pJ.length zN,.bool pP] 99 0 true)],BP] F (fun v S' F'=>F=F'∧v= .bool r.1∧S'= [[(iB,.row [aa pB,.slice aE pC.length zH,.int .i64 r.2,.slice aM pJ.length zN,.bool pP] 99 0 true)],BP]):=by
 refine Cl.of Tryz.func143 rfl (fun _ _=>rfl) (by kernel_rfl) fun s L nx0 hS=>?_
 unfold g_1y.f at h
 refine WW.seq (WW.region ?_)
 refine sg0 hS 1 [] [4] [.bool false] [] (by kernel_rfl) fun s hS=>(KW.nil ?_)
 refine WW.seq (WW.seq ?_)
 refine WW.region ?_
 obtain⟨y1,hy1,h⟩:=bind_some h
 refine cR (g_13.ok hy1 hI) hS 2 7 2 rfl (by kernel_rfl) fun s hS=>(sg0 hS 1 [] [8] [.bool (!y1)] [] (by kernel_rfl) fun s hS=>?_)
 refine KW.nil (bc h (fun hc3 h=>?_) fun hc3 h=>?_)
 refine WW.condK hS rfl hc3 (WW.seq ?_)
 refine WW.region (sg0 hS 1 [] [4] [.bool false] [] (by kernel_rfl) fun s hS=>?_)
 refine KW.nil (WW.ret ?_)
 cases h
 exact ax hS (.inr rfl) 4 rfl rfl ⟨rfl,rfl,rfl⟩
 refine WW.condF hS rfl hc3 (WW.skip ?_)
 refine WW.seq (WW.region ?_)
 refine sg hS 8 [0,0] [] [] [iB,iB] [[(iB,.row [aa pB,.slice aE pC.length zH,.int .i64 (w64 (pI+1)),.slice aM pJ.length zN,.bool pP] 99 0 true)],BP] (by kernel_rfl) fun s hS=>(KW.nil ?_)
 refine WW.seq (WW.region ?_)
 refine sg0 hS 1 [] [4] [.bool true] [] (by kernel_rfl) fun s hS=>(KW.nil ?_)
 refine WW.ret ?_
 cases h
 exact ax hS (.inr rfl) 4 rfl rfl ⟨rfl,rfl,rfl⟩
noncomputable def g_1v.f (pB:List UInt8) (pC:List Int) (pI:Int) (pP:Bool) (pT:UInt8):Option (Int×Bool) :=
  Option.bind (g_1y.f pB pC pI pP pT) fun y1=>Option.bind (g_1o.f pP y1.1) fun y3=>some (y1.2,y3)
theorem g_1v.ok {iB:Nat} {aE:Option Addr} {zH:Nat} {aM:Option Addr} {zN:Nat} {BP:Seg} {pB:List UInt8} {pC:List Int} {pI:Int} {pJ:List Int} {pP:Bool} {pT:UInt8} {F:FZ} {r:Int×Bool} (h:g_1v.f pB pC pI pP pT=some r) (hI:Frz (elI .i64 3) F aE zH pC) :
    Cl EV 106 [.pointer (some ⟨iB,0,none⟩),vB pT] [[(iB,.row [aa pB,.slice aE pC.length zH,.int .i64 pI,.slice aM pJ.length zN,.bool pP] 99 0 true)],BP] F (fun v S' F'=>F=F'∧v= .tuple #[]∧S'= [[(iB,.row [aa pB,.slice aE pC.length zH,.int .i64 r.1,.slice aM pJ.length zN,.bool r.2] 99 0 true)],BP]):=by
 refine Cl.of Tryz.func106 rfl (fun _ _=>rfl) (by kernel_rfl) fun s L nx0 hS=>?_
 unfold g_1v.f at h
 refine WW.region (sg0 hS 3 [] [4,5,6] [.pointer (some ⟨iB,0,none⟩),.pointer (some ⟨iB,0,none⟩),vB pT] [] (by kernel_rfl) fun s hS=>?_)
 obtain⟨y1,hy1,h⟩:=bind_some h
 refine bu hS (wn rfl) (vs:=[.pointer (some ⟨iB,0,none⟩),vB pT]) (ws:=[.pointer (some ⟨iB,0,none⟩),vB pT]) rfl rfl rfl rfl rfl 2 rfl (g_1y.ok hy1 hI) fun s v S' F' hp2 hF hS=>?_
 obtain⟨rfl,rfl,rfl⟩:=hp2
 obtain⟨y3,hy3,h⟩:=bind_some h
 refine cR (g_1o.ok hy3) hS 0 8 2 rfl (by kernel_rfl) fun s hS=>(KW.nil ?_)
 cases h
 exact aG hS (.inl rfl) rfl ⟨rfl,rfl,rfl⟩
noncomputable def g_1t.b0 (pB:List UInt8) (pC:List Int) (y1:Int×Bool) (x3:Int):Option ((Int)⊕((Int)⊕(Int×Bool))) :=
  (if y1.2 then(if 0≤(w64 ((w64 (x3+1))-1))∧(w64 ((w64 (x3+1))-1))<(pC.length:Int) then(if((gt pC (w64 ((w64 (x3+1))-1)))==0) then(if 0≤(w64 ((w64 (x3+1))-1))∧(w64 ((w64 (x3+1))-1))<(pB.length:Int) then(if(((gt pB (w64 ((w64 (x3+1))-1))).toNat:Int)==((41:UInt8).toNat:Int)) then some (.inr (.inr ((w64 (x3+1)),y1.2))) else some (.inl (w64 (x3+1)))) else none) else some (.inl (w64 (x3+1)))) else none) else some (.inr (.inl x3)))
noncomputable def g_1t.f (pB:List UInt8) (pC:List Int) (pI:Int) (pP:Bool):Option (Int×Bool) :=
  Option.bind (g_1v.f pB pC pI pP 40) fun y1=>Option.bind (iter (g_1t.b0 pB pC y1) y1.1) fun o4=>cu o4 fun y20=>some (y20,y1.2)
theorem g_1t.ok {iB:Nat} {aE:Option Addr} {zH:Nat} {aM:Option Addr} {zN:Nat} {BP:Seg} {pB:List UInt8} {pC:List Int} {pI:Int} {pJ:List Int} {pP:Bool} {F:FZ} {r:Int×Bool} (h:g_1t.f pB pC pI pP=some r) (hI:Frz (elI .i64 3) F aE zH pC) :
    Cl EV 92 [.pointer (some ⟨iB,0,none⟩)] [[(iB,.row [aa pB,.slice aE pC.length zH,.int .i64 pI,.slice aM pJ.length zN,.bool pP] 99 0 true)],BP] F (fun v S' F'=>F=F'∧v= .tuple #[]∧S'= [[(iB,.row [aa pB,.slice aE pC.length zH,.int .i64 r.1,.slice aM pJ.length zN,.bool r.2] 99 0 true)],BP]):=by
 refine Cl.of Tryz.func92 rfl (fun _ _=>rfl) (by kernel_rfl) fun s L nx0 hS=>?_
 unfold g_1t.f at h
 refine WW.seq (WW.region ?_)
 obtain⟨y1,hy1,h⟩:=bind_some h
 refine cR (g_1v.ok hy1 hI) hS 1 3 2 rfl (by kernel_rfl) fun s hS=>(KW.nil ?_)
 refine WW.block ?_
 obtain⟨o4,ho4,h⟩:=bind_some h
 refine WW.loop (LW.iterS ho4 (fun(x3:Int) s=>Stt EV s [(0,.pointer (some ⟨iB,0,none⟩))] [[(iB,.row [aa pB,.slice aE pC.length zH,.int .i64 x3,.slice aM pJ.length zN,.bool y1.2] 99 0 true)],BP] F L F nx0) 0 (fun r=>ej EV Tryz.f92 L F nx0 (fun v S' F'=>F=F'∧v= .tuple #[]∧S'= [[(iB,.row [aa pB,.slice aE pC.length zH,.int .i64 r.1,.slice aM pJ.length zN,.bool r.2] 99 0 true)],BP])) (hS.subR rfl) ?_ ?_)
 clear hS
 rintro x3 s hS o4' h6
 unfold g_1t.b0 at h6
 refine WW.seq (WW.seq ?_)
 refine WW.region (sg0 hS 4 [0] [7] [.bool y1.2] [iB] (by kernel_rfl) fun s hS=>?_)
 refine KW.nil (bc h6 (fun hc7 h6=>?_) fun hc7 h6=>?_)
 refine WW.condK hS rfl hc7 (WW.skip ?_)
 refine WW.block (WW.seq ?_)
 refine WW.region (sg hS 8 [0,0] [] [] [iB,iB] [[(iB,.row [aa pB,.slice aE pC.length zH,.int .i64 (w64 (x3+1)),.slice aM pJ.length zN,.bool y1.2] 99 0 true)],BP] (by kernel_rfl) fun s hS=>?_)
 refine KW.nil (WW.seq ?_)
 refine WW.regionD (i:=[[],[],[],[],[3,2,1,0],[3,2,1,0],[3,2,1,0],[3,2,1,0],[3,2,1,0],[],[],[],[],[],[],[],[],[16,15,14,13],[16,15,14,13],[16,15,14,13],[16,15,14,13],[16,15,14,13],[],[],[]]) (by kernel_rfl) ?_
 have hq:=RS.start [iB]
 refine kg hS hq 3 [17] [.pointer (some ⟨iB,1,none⟩)] (by kernel_rfl) fun s rs hS hq=>(K.ld hS hq rfl (wn rfl) rfl rfl rfl (hS.at (k:=0) rfl) fL (v:= .slice aE pC.length zH) rfl 0 rfl rfl fun s rs hS hq=>?_)
 refine kg hS hq 3 [21] [.pointer (some ⟨iB,2,none⟩)] (by kernel_rfl) fun s rs hS hq=>(K.ld hS hq rfl (wn rfl) rfl rfl rfl (hS.at (k:=0) rfl) tg3 (v:= .int .i64 (w64 (x3+1))) rfl 0 rfl rfl fun s rs hS hq=>?_)
 refine kg hS hq 1 [23] [.int .i64 (w64 ((w64 (x3+1))-1))] (by kernel_rfl) fun s rs hS hq=>?_
 obtain⟨hk8,h6⟩:=ac h6
 obtain⟨i14,of15,rfl⟩:=Frz.addr hI (by omega)
 obtain⟨_,_,_,_,c9,hF16,hR10,hN11,hN12,hT13⟩:=Frz.at hI hk8 (m:=1) rfl
 obtain rfl:=hR10
 refine K.pu hS hq rfl (wn rfl) rfl rfl rfl (v:= .pointer (some ⟨i14,of15+((w64 ((w64 (x3+1))-1))).toNat*1,none⟩)) (aF (hS.lk rfl) (hS.lk rfl) dj hk8) fun s rs hS hq=>?_
 replace hq:=hq.more i14 rfl rfl rfl
 refine K.ld hS hq rfl (wn rfl) rfl rfl rfl (hS.fat hF16) tg3 (v:= .int .i64 (gt pC (w64 ((w64 (x3+1))-1)))) hN11 1 rfl rfl fun s rs hS hq=>(kg hS hq 2 [27] [.bool ((gt pC (w64 ((w64 (x3+1))-1)))==0)] (by kernel_rfl) fun s rs hS hq=>?_)
 refine bc h6 (fun hc17 h6=>?_) fun hc17 h6=>?_
 replace hS:=hS.kb 27 hc17 rfl
 refine kg hS hq 3 [30] [.pointer (some ⟨iB,0,none⟩)] (by kernel_rfl) fun s rs hS hq=>(K.ld hS hq rfl (wt hS rfl rfl rfl rfl) rfl rfl rfl (hS.at (k:=0) rfl) tg9 (v:=aa pB) rfl 0 rfl rfl fun s rs hS hq=>?_)
 refine kg hS hq 3 [34] [.pointer (some ⟨iB,2,none⟩)] (by kernel_rfl) fun s rs hS hq=>(K.ld hS hq rfl (wt hS rfl rfl rfl rfl) rfl rfl rfl (hS.at (k:=0) rfl) tg3 (v:= .int .i64 (w64 (x3+1))) rfl 0 rfl rfl fun s rs hS hq=>?_)
 refine kg hS hq 1 [36] [.int .i64 (w64 ((w64 (x3+1))-1))] (by kernel_rfl) fun s rs hS hq=>?_
 obtain⟨hk18,h6⟩:=ac h6
 refine K.pu hS hq rfl (wt hS rfl rfl rfl rfl) rfl rfl rfl (v:=vB (gt pB (w64 ((w64 (x3+1))-1)))) (au tu9 (hS.lk rfl) (hS.lk rfl) hk18) fun s rs hS hq=>(kg hS hq 2 [39] [.bool (((gt pB (w64 ((w64 (x3+1))-1))).toNat:Int)==((41:UInt8).toNat:Int))] (by kernel_rfl) fun s rs hS hq=>?_)
 refine KW.nil (bc h6 (fun hc19 h6=>?_) fun hc19 h6=>?_)
 refine WW.condK hS rfl hc19 (WW.ret ?_)
 cases h6
 exact⟨_,rfl,rfl,aG hS (.inr rfl) rfl ⟨rfl,rfl,rfl⟩⟩
 refine WW.condF hS rfl hc19 (WW.skip ?_)
 obtain rfl:=Option.some.inj h6
 exact⟨_,rfl,(hS.subR rfl)⟩
 replace hS:=hS.kb 27 hc17 rfl
 refine kg hS hq 12 [39] [.bool false] (by kernel_rfl) fun s rs hS hq=>(KW.nil ?_)
 refine WW.condF hS rfl rfl (WW.skip ?_)
 obtain rfl:=Option.some.inj h6
 exact⟨_,rfl,(hS.subR rfl)⟩
 refine WW.condF hS rfl hc7 (WW.exit ?_)
 refine ae ?_
 obtain rfl:=Option.some.inj h6
 exact⟨_,rfl,rfl,(hS.subR rfl)⟩
 clear hS
 rcases o4 with y20 | y20
 rintro e s ⟨rfl,hS⟩
 replace h:=bp h
 refine af ?_
 cases h
 exact aG hS (.inl rfl) rfl ⟨rfl,rfl,rfl⟩
 rintro e s ⟨rfl,hfin⟩
 replace h:=bq h
 obtain rfl:=Option.some.inj h
 exact hfin
noncomputable def g_j.f (pA:List UInt8):Option (Int×Bool) :=
  Option.bind (g_22.f pA) fun y1=>Option.bind (g_20.f y1.1 y1.2.1 y1.2.2.1 y1.2.2.2.1 y1.2.2.2.2 ([73,70])) fun y13=>Option.bind (g_1t.f y1.1 y1.2.1 y13.1 y13.2.2) fun y19=>(if y19.2 then some (y19.1,(decide (y19.1<(pA.length:Int)))) else some (y19.1,false))
theorem g_j.ok {pA:List UInt8} {F:FZ} {r:Int×Bool} (h:g_j.f pA=some r) (hG:Gl F) :
    Cl EV 61 [aa pA] [] F (fun v S' F'=>FLe F F'∧v= .tuple #[.int .i64 r.1,.bool r.2]∧S'= []):=by
 refine Cl.of Tryz.func61 rfl (fun _ _=>rfl) (by kernel_rfl) fun s L nx0 hS=>?_
 unfold g_j.f at h
 refine WW.seq (WW.region ?_)
 refine sg0 hS 2 [] [2,3] [.int .i64 0,.bool false] [] (by kernel_rfl) fun s hS=>(KW.nil ?_)
 refine WW.seq (WW.region ?_)
 obtain⟨y1,hy1,h⟩:=bind_some h
 refine cK (g_22.ok hy1 hG) hS 1 6 0 rfl (by kernel_rfl) fun s v S' F3 hp2 hF hS=>?_
 obtain⟨i4,a5,z6,a8,z9,B11,hF12,rfl,rfl,h7,h10⟩:=hp2
 refine sg0 hS 1 [] [4] [.pointer (some ⟨i4,0,none⟩)] [] (by kernel_rfl) fun s hS=>(KW.nil ?_)
 refine WW.seq (WW.region ?_)
 obtain⟨y13,hy13,h⟩:=bind_some h
 refine cK (g_20.ok hy13 h7 h10) hS 1 8 2 rfl (by kernel_rfl) fun s v S' F' hp14 hF hS=>?_
 obtain⟨a15,z16,B18,rfl,rfl,rfl,h17⟩:=hp14
 refine KW.nil (WW.seq ?_)
 refine WW.region ?_
 obtain⟨y19,hy19,h⟩:=bind_some h
 refine cR (g_1t.ok hy19 h7) hS 1 10 2 rfl (by kernel_rfl) fun s hS=>(KW.nil ?_)
 refine WW.seq (WW.regionD (i:=[[],[],[],[],[3,2,1,0],[3,2,1,0],[3,2,1,0],[3,2,1,0],[3,2,1,0],[3,2,1,0],[3,2,1,0],[3,2,1,0],[3,2,1,0],[12,11,10,9,3,2,1,0],[12,11,10,9,3,2,1,0],[3,2,1,0],[3,2,1,0],[16,15,14,13,12,11,10,9],[]]) (by kernel_rfl) ?_)
 have hq:=RS.start [i4]
 refine kg hS hq 3 [13] [.pointer (some ⟨i4,2,none⟩)] (by kernel_rfl) fun s rs hS hq=>(K.ld hS hq rfl (wn rfl) rfl rfl rfl (hS.at (k:=0) rfl) tg3 (v:= .int .i64 y19.1) rfl 0 rfl rfl fun s rs hS hq=>?_)
 refine kg hS hq 3 [17] [.pointer (some ⟨i4,4,none⟩)] (by kernel_rfl) fun s rs hS hq=>(K.ld hS hq rfl (wn rfl) rfl rfl rfl (hS.at (k:=0) rfl) tg4 (v:= .bool y19.2) rfl 0 rfl rfl fun s rs hS hq=>?_)
 refine kg hS hq 1 [19] [.bool y19.2] (by kernel_rfl) fun s rs hS hq=>(bc h (fun hc21 h=>?_) fun hc21 h=>?_)
 replace hS:=hS.kb 18 hc21 rfl
 replace hS:=hS.kb 19 hc21 rfl
 refine kg hS hq 3 [22] [.pointer (some ⟨i4,2,none⟩)] (by kernel_rfl) fun s rs hS hq=>(K.ld hS hq rfl (wt hS rfl rfl rfl rfl) rfl rfl rfl (hS.at (k:=0) rfl) tg3 (v:= .int .i64 y19.1) rfl 0 rfl rfl fun s rs hS hq=>?_)
 refine kg hS hq 6 [2,3] [.int .i64 y19.1,.bool (decide (y19.1<(pA.length:Int)))] (by kernel_rfl) fun s rs hS hq=>(KW.nil ?_)
 refine WW.ret ?_
 replace hS:=hS.drop
 replace hS:=hS.drop
 cases h
 exact bP hS (.inr rfl) 2 3 rfl rfl rfl ⟨(hF12),rfl,rfl⟩
 replace hS:=hS.kb 18 hc21 rfl
 replace hS:=hS.kb 19 hc21 rfl
 refine kg hS hq 10 [2,3] [.int .i64 y19.1,.bool false] (by kernel_rfl) fun s rs hS hq=>(KW.nil ?_)
 refine WW.ret ?_
 replace hS:=hS.drop
 replace hS:=hS.drop
 cases h
 exact bP hS (.inr rfl) 2 3 rfl rfl rfl ⟨(hF12),rfl,rfl⟩
noncomputable def g_28.f (pA:Int) (pB:Int) (pC:Int):Option (Bool) :=
  some ((decide (pB≤pA))&&(decide (pA≤pC)))
theorem g_28.ok {pA:Int} {pB:Int} {pC:Int} {F:FZ} {r:Bool} (h:g_28.f pA pB pC=some r) :
    Cl EV 45 [.int .i64 pA,.int .i64 pB,.int .i64 pC] [] F (fun v S' F'=>F=F'∧v= .bool r∧S'= []):=by
 refine Cl.of Tryz.func45 rfl (fun _ _=>rfl) (by kernel_rfl) fun s L nx0 hS=>?_
 unfold g_28.f at h
 refine WW.seq (WW.region ?_)
 refine sg0 hS 1 [] [6] [.bool false] [] (by kernel_rfl) fun s hS=>(KW.nil ?_)
 refine WW.seq (WW.region ?_)
 refine sg0 hS 4 [] [10] [.bool (decide (pB≤pA))] [] (by kernel_rfl) fun s hS=>(ay 4 (fun s=>Stt EV s [(14,.bool ((decide (pB≤pA))&&(decide (pA≤pC)))),(6,.bool false)] [] F L F nx0) ?_ fun s hS=>?_)
 rcases aj ((decide (pB≤pA))) with hcj | hcj
 replace hS:=hS.know (t:=10) rfl (congrArg Value.bool hcj)
 refine sg0 hS 4 [] [14] [.bool (decide (pA≤pC))] [] (by kernel_rfl) fun s hS=>(KW.nil ?_)
 exact(hS.know (t:=14) (u':= .bool ((decide (pB≤pA))&&(decide (pA≤pC)))) rfl (aJ hcj)).subR rfl
 replace hS:=hS.know (t:=10) rfl (congrArg Value.bool hcj)
 refine sg0 hS 4 [] [14] [.bool false] [] (by kernel_rfl) fun s hS=>(KW.nil ?_)
 exact(hS.know (t:=14) (u':= .bool ((decide (pB≤pA))&&(decide (pA≤pC)))) rfl (aL hcj)).subR rfl
 refine sg0 hS 1 [] [6] [.bool ((decide (pB≤pA))&&(decide (pA≤pC)))] [] (by kernel_rfl) fun s hS=>(KW.nil ?_)
 refine WW.ret ?_
 cases h
 exact ax hS (.inr rfl) 6 rfl rfl ⟨rfl,rfl,rfl⟩
noncomputable def g_21.f (pA:Int):Option (Bool) :=
  Option.bind (g_28.f pA 0 26) fun y1=>Option.bind ((if(y1&&(pA != 6)) then Option.bind (g_28.f pA 7 12) fun y5=>some (!y5) else some false)) fun z3=>some z3
theorem g_21.ok {pA:Int} {F:FZ} {r:Bool} (h:g_21.f pA=some r) :
    Cl EV 103 [.int .i64 pA] [] F (fun v S' F'=>F=F'∧v= .bool r∧S'= []):=by
 refine Cl.of Tryz.func103 rfl (fun _ _=>rfl) (by kernel_rfl) fun s L nx0 hS=>?_
 unfold g_21.f at h
 refine WW.seq (WW.region ?_)
 refine sg0 hS 1 [] [2] [.bool false] [] (by kernel_rfl) fun s hS=>(KW.nil ?_)
 refine WW.seq (WW.region ?_)
 obtain⟨y1,hy1,h⟩:=bind_some h
 refine cR (g_28.ok hy1) hS 1 4 0 rfl (by kernel_rfl) fun s hS=>(sg0 hS 1 [] [5] [.bool y1] [] (by kernel_rfl) fun s hS=>?_)
 refine ay 3 (fun s=>Stt EV s [(8,.bool (y1&&(pA != 6))),(0,.int .i64 pA),(2,.bool false)] [] F L F nx0) ?_ fun s hS=>?_
 rcases aj (y1) with hcj | hcj
 replace hS:=hS.know (t:=4) rfl (congrArg Value.bool hcj)
 replace hS:=hS.know (t:=5) rfl (congrArg Value.bool hcj)
 refine sg0 hS 3 [] [8] [.bool (pA != 6)] [] (by kernel_rfl) fun s hS=>(KW.nil ?_)
 exact(hS.know (t:=8) (u':= .bool (y1&&(pA != 6))) rfl (aJ hcj)).subR rfl
 replace hS:=hS.know (t:=4) rfl (congrArg Value.bool hcj)
 replace hS:=hS.know (t:=5) rfl (congrArg Value.bool hcj)
 refine sg0 hS 3 [] [8] [.bool false] [] (by kernel_rfl) fun s hS=>(KW.nil ?_)
 exact(hS.know (t:=8) (u':= .bool (y1&&(pA != 6))) rfl (aL hcj)).subR rfl
 refine sg0 hS 1 [] [9] [.bool (y1&&(pA != 6))] [] (by kernel_rfl) fun s hS=>?_
 obtain⟨z3,hz3,h⟩:=bind_some h
 refine ay 4 (fun s=>Stt EV s [(13,.bool z3),(2,.bool false)] [] F L F nx0) ?_ fun s hS=>?_
 refine bc hz3 (fun hc4 hz3=>?_) fun hc4 hz3=>?_
 replace hS:=hS.kb 8 hc4 rfl
 replace hS:=hS.kb 9 hc4 rfl
 refine sg0 hS 1 [] [10] [.int .i64 pA] [] (by kernel_rfl) fun s hS=>?_
 obtain⟨y5,hy5,hz3⟩:=bind_some hz3
 refine bu hS (wt hS rfl rfl rfl rfl) (vs:=[.int .i64 pA,.int .i64 7,.int .i64 12]) (ws:=[.int .i64 pA,.int .i64 7,.int .i64 12]) rfl rfl rfl rfl rfl 0 rfl (g_28.ok hy5) fun s v S' F' hp6 hF hS=>?_
 obtain⟨rfl,rfl,rfl⟩:=hp6
 refine sg0 hS 2 [] [13] [.bool (!y5)] [] (by kernel_rfl) fun s hS=>(KW.nil ?_)
 obtain rfl:=Option.some.inj hz3
 exact hS.subR rfl
 replace hS:=hS.kb 8 hc4 rfl
 replace hS:=hS.kb 9 hc4 rfl
 refine sg0 hS 4 [] [13] [.bool false] [] (by kernel_rfl) fun s hS=>(KW.nil ?_)
 obtain rfl:=Option.some.inj hz3
 exact hS.subR rfl
 refine sg0 hS 1 [] [2] [.bool z3] [] (by kernel_rfl) fun s hS=>(KW.nil ?_)
 refine WW.ret ?_
 cases h
 exact ax hS (.inr rfl) 2 rfl rfl ⟨rfl,rfl,rfl⟩
noncomputable def g_29.f:Option (List (List UInt8)) :=
  some ([[],[65,83,83,73,71,78],[71,79,84,79],[71,79,84,79],[71,79,84,79],[73,70],[73,70],[73,70],[69,76,83,69,73,70],[69,76,83,69],[69,78,68,73,70],[68,79],[69,78,68,68,79],[67,79,78,84,73,78,85,69],[67,65,76,76],[82,69,84,85,82,78],[83,84,79,80],[80,65,85,83,69],[82,69,65,68],[87,82,73,84,69],[80,82,73,78,84],[79,80,69,78],[67,76,79,83,69],[73,78,81,85,73,82,69],[66,65,67,75,83,80,65,67,69],[69,78,68,70,73,76,69],[82,69,87,73,78,68],[70,79,82,77,65,84],[73,78,84,69,71,69,82],[68,73,77,69,78,83,73,79,78],[67,79,77,77,79,78],[69,81,85,73,86,65,76,69,78,67,69],[80,65,82,65,77,69,84,69,82],[68,65,84,65],[73,77,80,76,73,67,73,84],[69,88,84,69,82,78,65,76],[73,78,84,82,73,78,83,73,67],[83,65,86,69],[80,82,79,71,82,65,77],[83,85,66,82,79,85,84,73,78,69],[70,85,78,67,84,73,79,78],[69,78,84,82,89],[66,76,79,67,75,68,65,84,65],[69,78,68]]:List (List UInt8))
theorem g_29.ok  {F:FZ} {r:List (List UInt8)} (h:g_29.f=some r) :
    Cl EV 59 [] [] F (fun v S' F'=>F=F'∧v= .agg (List.map aa r).toArray∧S'= []):=by
 refine Cl.of Tryz.func59 rfl (fun _ _=>rfl) (by kernel_rfl) fun s L nx0 hS=>?_
 unfold g_29.f at h
 refine WW.seq (WW.region ?_)
 refine bA hS (wn rfl) rfl rfl rfl (v:=fun i=> .pointer (some ⟨i,0,none⟩)) (b:= .row [aa ([]),aa ([]),aa ([]),aa ([]),aa ([]),aa ([]),aa ([]),aa ([]),aa ([]),aa ([]),aa ([]),aa ([]),aa ([]),aa ([]),aa ([]),aa ([]),aa ([]),aa ([]),aa ([]),aa ([]),aa ([]),aa ([]),aa ([]),aa ([]),aa ([]),aa ([]),aa ([]),aa ([]),aa ([]),aa ([]),aa ([]),aa ([]),aa ([]),aa ([]),aa ([]),aa ([]),aa ([]),aa ([]),aa ([]),aa ([]),aa ([]),aa ([]),aa ([]),aa ([])] 101 0 true) (bf ta) fun s i1 hS=>(KW.nil ?_)
 refine WW.seq (WW.region ?_)
 refine aw hS (wn rfl) rfl rfl rfl (v:= .agg #[aa ([]),aa ([65,83,83,73,71,78]),aa ([71,79,84,79]),aa ([71,79,84,79]),aa ([71,79,84,79]),aa ([73,70]),aa ([73,70]),aa ([73,70]),aa ([69,76,83,69,73,70]),aa ([69,76,83,69]),aa ([69,78,68,73,70]),aa ([68,79]),aa ([69,78,68,68,79]),aa ([67,79,78,84,73,78,85,69]),aa ([67,65,76,76]),aa ([82,69,84,85,82,78]),aa ([83,84,79,80]),aa ([80,65,85,83,69]),aa ([82,69,65,68]),aa ([87,82,73,84,69]),aa ([80,82,73,78,84]),aa ([79,80,69,78]),aa ([67,76,79,83,69]),aa ([73,78,81,85,73,82,69]),aa ([66,65,67,75,83,80,65,67,69]),aa ([69,78,68,70,73,76,69]),aa ([82,69,87,73,78,68]),aa ([70,79,82,77,65,84]),aa ([73,78,84,69,71,69,82]),aa ([68,73,77,69,78,83,73,79,78]),aa ([67,79,77,77,79,78]),aa ([69,81,85,73,86,65,76,69,78,67,69]),aa ([80,65,82,65,77,69,84,69,82]),aa ([68,65,84,65]),aa ([73,77,80,76,73,67,73,84]),aa ([69,88,84,69,82,78,65,76]),aa ([73,78,84,82,73,78,83,73,67]),aa ([83,65,86,69]),aa ([80,82,79,71,82,65,77]),aa ([83,85,66,82,79,85,84,73,78,69]),aa ([70,85,78,67,84,73,79,78]),aa ([69,78,84,82,89]),aa ([66,76,79,67,75,68,65,84,65]),aa ([69,78,68])]) (eq ta tu101 tz9 [(0,aa ([])),(1,aa ([65,83,83,73,71,78])),(2,aa ([71,79,84,79])),(3,aa ([71,79,84,79])),(4,aa ([71,79,84,79])),(5,aa ([73,70])),(6,aa ([73,70])),(7,aa ([73,70])),(8,aa ([69,76,83,69,73,70])),(9,aa ([69,76,83,69])),(10,aa ([69,78,68,73,70])),(11,aa ([68,79])),(12,aa ([69,78,68,68,79])),(13,aa ([67,79,78,84,73,78,85,69])),(14,aa ([67,65,76,76])),(15,aa ([82,69,84,85,82,78])),(16,aa ([83,84,79,80])),(17,aa ([80,65,85,83,69])),(18,aa ([82,69,65,68])),(19,aa ([87,82,73,84,69])),(20,aa ([80,82,73,78,84])),(21,aa ([79,80,69,78])),(22,aa ([67,76,79,83,69])),(23,aa ([73,78,81,85,73,82,69])),(24,aa ([66,65,67,75,83,80,65,67,69])),(25,aa ([69,78,68,70,73,76,69])),(26,aa ([82,69,87,73,78,68])),(27,aa ([70,79,82,77,65,84])),(28,aa ([73,78,84,69,71,69,82])),(29,aa ([68,73,77,69,78,83,73,79,78])),(30,aa ([67,79,77,77,79,78])),(31,aa ([69,81,85,73,86,65,76,69,78,67,69])),(32,aa ([80,65,82,65,77,69,84,69,82])),(33,aa ([68,65,84,65])),(34,aa ([73,77,80,76,73,67,73,84])),(35,aa ([69,88,84,69,82,78,65,76])),(36,aa ([73,78,84,82,73,78,83,73,67])),(37,aa ([83,65,86,69])),(38,aa ([80,82,79,71,82,65,77])),(39,aa ([83,85,66,82,79,85,84,73,78,69])),(40,aa ([70,85,78,67,84,73,79,78])),(41,aa ([69,78,84,82,89])),(42,aa ([66,76,79,67,75,68,65,84,65])),(43,aa ([69,78,68]))] (av hS rfl) (cs:=[aa ([]),aa ([65,83,83,73,71,78]),aa ([71,79,84,79]),aa ([71,79,84,79]),aa ([71,79,84,79]),aa ([73,70]),aa ([73,70]),aa ([73,70]),aa ([69,76,83,69,73,70]),aa ([69,76,83,69]),aa ([69,78,68,73,70]),aa ([68,79]),aa ([69,78,68,68,79]),aa ([67,79,78,84,73,78,85,69]),aa ([67,65,76,76]),aa ([82,69,84,85,82,78]),aa ([83,84,79,80]),aa ([80,65,85,83,69]),aa ([82,69,65,68]),aa ([87,82,73,84,69]),aa ([80,82,73,78,84]),aa ([79,80,69,78]),aa ([67,76,79,83,69]),aa ([73,78,81,85,73,82,69]),aa ([66,65,67,75,83,80,65,67,69]),aa ([69,78,68,70,73,76,69]),aa ([82,69,87,73,78,68]),aa ([70,79,82,77,65,84]),aa ([73,78,84,69,71,69,82]),aa ([68,73,77,69,78,83,73,79,78]),aa ([67,79,77,77,79,78]),aa ([69,81,85,73,86,65,76,69,78,67,69]),aa ([80,65,82,65,77,69,84,69,82]),aa ([68,65,84,65]),aa ([73,77,80,76,73,67,73,84]),aa ([69,88,84,69,82,78,65,76]),aa ([73,78,84,82,73,78,83,73,67]),aa ([83,65,86,69]),aa ([80,82,79,71,82,65,77]),aa ([83,85,66,82,79,85,84,73,78,69]),aa ([70,85,78,67,84,73,79,78]),aa ([69,78,84,82,89]),aa ([66,76,79,67,75,68,65,84,65]),aa ([69,78,68])]) rfl) fun s hS=>(sg hS 1 [0] [] [] [i1] [[(i1,.row [aa ([]),aa ([65,83,83,73,71,78]),aa ([71,79,84,79]),aa ([71,79,84,79]),aa ([71,79,84,79]),aa ([73,70]),aa ([73,70]),aa ([73,70]),aa ([69,76,83,69,73,70]),aa ([69,76,83,69]),aa ([69,78,68,73,70]),aa ([68,79]),aa ([69,78,68,68,79]),aa ([67,79,78,84,73,78,85,69]),aa ([67,65,76,76]),aa ([82,69,84,85,82,78]),aa ([83,84,79,80]),aa ([80,65,85,83,69]),aa ([82,69,65,68]),aa ([87,82,73,84,69]),aa ([80,82,73,78,84]),aa ([79,80,69,78]),aa ([67,76,79,83,69]),aa ([73,78,81,85,73,82,69]),aa ([66,65,67,75,83,80,65,67,69]),aa ([69,78,68,70,73,76,69]),aa ([82,69,87,73,78,68]),aa ([70,79,82,77,65,84]),aa ([73,78,84,69,71,69,82]),aa ([68,73,77,69,78,83,73,79,78]),aa ([67,79,77,77,79,78]),aa ([69,81,85,73,86,65,76,69,78,67,69]),aa ([80,65,82,65,77,69,84,69,82]),aa ([68,65,84,65]),aa ([73,77,80,76,73,67,73,84]),aa ([69,88,84,69,82,78,65,76]),aa ([73,78,84,82,73,78,83,73,67]),aa ([83,65,86,69]),aa ([80,82,79,71,82,65,77]),aa ([83,85,66,82,79,85,84,73,78,69]),aa ([70,85,78,67,84,73,79,78]),aa ([69,78,84,82,89]),aa ([66,76,79,67,75,68,65,84,65]),aa ([69,78,68])] 101 0 true)]] (by kernel_rfl) fun s hS=>?_)
 refine KW.nil (WW.ret ?_)
 have hres:=(bE hS (t:=0) (ty:=101) rfl (p:=0) rfl tg101 tz101 (ws:=[aa ([]),aa ([65,83,83,73,71,78]),aa ([71,79,84,79]),aa ([71,79,84,79]),aa ([71,79,84,79]),aa ([73,70]),aa ([73,70]),aa ([73,70]),aa ([69,76,83,69,73,70]),aa ([69,76,83,69]),aa ([69,78,68,73,70]),aa ([68,79]),aa ([69,78,68,68,79]),aa ([67,79,78,84,73,78,85,69]),aa ([67,65,76,76]),aa ([82,69,84,85,82,78]),aa ([83,84,79,80]),aa ([80,65,85,83,69]),aa ([82,69,65,68]),aa ([87,82,73,84,69]),aa ([80,82,73,78,84]),aa ([79,80,69,78]),aa ([67,76,79,83,69]),aa ([73,78,81,85,73,82,69]),aa ([66,65,67,75,83,80,65,67,69]),aa ([69,78,68,70,73,76,69]),aa ([82,69,87,73,78,68]),aa ([70,79,82,77,65,84]),aa ([73,78,84,69,71,69,82]),aa ([68,73,77,69,78,83,73,79,78]),aa ([67,79,77,77,79,78]),aa ([69,81,85,73,86,65,76,69,78,67,69]),aa ([80,65,82,65,77,69,84,69,82]),aa ([68,65,84,65]),aa ([73,77,80,76,73,67,73,84]),aa ([69,88,84,69,82,78,65,76]),aa ([73,78,84,82,73,78,83,73,67]),aa ([83,65,86,69]),aa ([80,82,79,71,82,65,77]),aa ([83,85,66,82,79,85,84,73,78,69]),aa ([70,85,78,67,84,73,79,78]),aa ([69,78,84,82,89]),aa ([66,76,79,67,75,68,65,84,65]),aa ([69,78,68])]) rfl (aY (E:=EV) (s:=s)))
 replace hS:=hS.drop
 cases h
 exact fin hS (.inr rfl) hres (v:= .agg (List.map aa ([[],[65,83,83,73,71,78],[71,79,84,79],[71,79,84,79],[71,79,84,79],[73,70],[73,70],[73,70],[69,76,83,69,73,70],[69,76,83,69],[69,78,68,73,70],[68,79],[69,78,68,68,79],[67,79,78,84,73,78,85,69],[67,65,76,76],[82,69,84,85,82,78],[83,84,79,80],[80,65,85,83,69],[82,69,65,68],[87,82,73,84,69],[80,82,73,78,84],[79,80,69,78],[67,76,79,83,69],[73,78,81,85,73,82,69],[66,65,67,75,83,80,65,67,69],[69,78,68,70,73,76,69],[82,69,87,73,78,68],[70,79,82,77,65,84],[73,78,84,69,71,69,82],[68,73,77,69,78,83,73,79,78],[67,79,77,77,79,78],[69,81,85,73,86,65,76,69,78,67,69],[80,65,82,65,77,69,84,69,82],[68,65,84,65],[73,77,80,76,73,67,73,84],[69,88,84,69,82,78,65,76],[73,78,84,82,73,78,83,73,67],[83,65,86,69],[80,82,79,71,82,65,77],[83,85,66,82,79,85,84,73,78,69],[70,85,78,67,84,73,79,78],[69,78,84,82,89],[66,76,79,67,75,68,65,84,65],[69,78,68]]:List (List UInt8))).toArray) rfl ⟨rfl,rfl,rfl⟩
noncomputable def g_16.f (pB:List UInt8) (pC:List Int) (pI:Int) (pP:Bool):Option (Bool) :=
  (if pP then(if(decide (pI<(pB.length:Int))) then(if 0≤pI∧pI<(pC.length:Int) then(if((gt pC pI)==0) then(if 0≤pI∧pI<(pB.length:Int) then Option.bind (g_l.f (gt pB pI)) fun y14=>some y14 else none) else some false) else none) else some false) else some false)
theorem g_16.ok {iB:Nat} {aE:Option Addr} {zH:Nat} {aM:Option Addr} {zN:Nat} {BP:Seg} {pB:List UInt8} {pC:List Int} {pI:Int} {pJ:List Int} {pP:Bool} {F:FZ} {r:Bool} (h:g_16.f pB pC pI pP=some r) (hI:Frz (elI .i64 3) F aE zH pC) :
    Cl EV 140 [.pointer (some ⟨iB,0,none⟩),.func (.func 123) #[] #[]] [[(iB,.row [aa pB,.slice aE pC.length zH,.int .i64 pI,.slice aM pJ.length zN,.bool pP] 99 0 true)],BP] F (fun v S' F'=>F=F'∧v= .bool r∧S'= [[(iB,.row [aa pB,.slice aE pC.length zH,.int .i64 pI,.slice aM pJ.length zN,.bool pP] 99 0 true)],BP]):=by
 refine Cl.of Tryz.func140 rfl (fun _ _=>rfl) (by kernel_rfl) fun s L nx0 hS=>?_
 unfold g_16.f at h
 refine WW.seq (WW.region ?_)
 refine sg0 hS 1 [] [4] [.bool false] [] (by kernel_rfl) fun s hS=>(KW.nil ?_)
 refine WW.seq (WW.regionD (i:=[[],[],[],[],[],[],[],[],[],[8,7,6,5],[8,7,6,5],[8,7,6,5],[8,7,6,5],[8,7,6,5],[],[],[],[],[],[],[],[20,19,18,17],[20,19,18,17],[20,19,18,17],[20,19,18,17],[],[],[],[],[],[],[30],[30],[30],[30],[34,33,32,31,30],[34,33,32,31,30],[34,33,32,31,30],[34,33,32,31,30],[30],[],[],[]]) (by kernel_rfl) ?_)
 have hq:=RS.start [iB]
 refine kg hS hq 3 [7] [.pointer (some ⟨iB,4,none⟩)] (by kernel_rfl) fun s rs hS hq=>(K.ld hS hq rfl (wn rfl) rfl rfl rfl (hS.at (k:=0) rfl) tg4 (v:= .bool pP) rfl 0 rfl rfl fun s rs hS hq=>?_)
 refine kg hS hq 1 [9] [.bool pP] (by kernel_rfl) fun s rs hS hq=>(bc h (fun hc1 h=>?_) fun hc1 h=>?_)
 replace hS:=hS.kb 8 hc1 rfl
 replace hS:=hS.kb 9 hc1 rfl
 refine kg hS hq 3 [12] [.pointer (some ⟨iB,2,none⟩)] (by kernel_rfl) fun s rs hS hq=>(K.ld hS hq rfl (wt hS rfl rfl rfl rfl) rfl rfl rfl (hS.at (k:=0) rfl) tg3 (v:= .int .i64 pI) rfl 0 rfl rfl fun s rs hS hq=>?_)
 refine kg hS hq 3 [16] [.pointer (some ⟨iB,0,none⟩)] (by kernel_rfl) fun s rs hS hq=>(K.ld hS hq rfl (wt hS rfl rfl rfl rfl) rfl rfl rfl (hS.at (k:=0) rfl) tg9 (v:=aa pB) rfl 0 rfl rfl fun s rs hS hq=>?_)
 refine kg hS hq 4 [21] [.bool (decide (pI<(pB.length:Int)))] (by kernel_rfl) fun s rs hS hq=>(bc h (fun hc2 h=>?_) fun hc2 h=>?_)
 replace hS:=hS.kb 21 hc2 rfl
 refine kg hS hq 3 [24] [.pointer (some ⟨iB,1,none⟩)] (by kernel_rfl) fun s rs hS hq=>(K.ld hS hq rfl (wt hS rfl rfl rfl rfl) rfl rfl rfl (hS.at (k:=0) rfl) fL (v:= .slice aE pC.length zH) rfl 0 rfl rfl fun s rs hS hq=>?_)
 refine kg hS hq 3 [28] [.pointer (some ⟨iB,2,none⟩)] (by kernel_rfl) fun s rs hS hq=>(K.ld hS hq rfl (wt hS rfl rfl rfl rfl) rfl rfl rfl (hS.at (k:=0) rfl) tg3 (v:= .int .i64 pI) rfl 0 rfl rfl fun s rs hS hq=>?_)
 obtain⟨hk3,h⟩:=ac h
 obtain⟨i9,of10,rfl⟩:=Frz.addr hI (by omega)
 obtain⟨_,_,_,_,c4,hF11,hR5,hN6,hN7,hT8⟩:=Frz.at hI hk3 (m:=1) rfl
 obtain rfl:=hR5
 refine K.pu hS hq rfl (wt hS rfl rfl rfl rfl) rfl rfl rfl (v:= .pointer (some ⟨i9,of10+(pI).toNat*1,none⟩)) (aF (hS.lk rfl) (hS.lk rfl) dj hk3) fun s rs hS hq=>?_
 replace hq:=hq.more i9 rfl rfl rfl
 refine K.ld hS hq rfl (wt hS rfl rfl rfl rfl) rfl rfl rfl (hS.fat hF11) tg3 (v:= .int .i64 (gt pC pI)) hN6 1 rfl rfl fun s rs hS hq=>(kg hS hq 3 [34] [.bool ((gt pC pI)==0)] (by kernel_rfl) fun s rs hS hq=>?_)
 refine bc h (fun hc12 h=>?_) fun hc12 h=>?_
 replace hS:=hS.kb 34 hc12 rfl
 refine kg hS hq 4 [35,38] [.func (.func 123) #[] #[],.pointer (some ⟨iB,0,none⟩)] (by kernel_rfl) fun s rs hS hq=>(K.ld hS hq rfl (wt hS rfl rfl rfl rfl) rfl rfl rfl (hS.at (k:=0) rfl) tg9 (v:=aa pB) rfl 0 rfl rfl fun s rs hS hq=>?_)
 refine kg hS hq 3 [42] [.pointer (some ⟨iB,2,none⟩)] (by kernel_rfl) fun s rs hS hq=>(K.ld hS hq rfl (wt hS rfl rfl rfl rfl) rfl rfl rfl (hS.at (k:=0) rfl) tg3 (v:= .int .i64 pI) rfl 0 rfl rfl fun s rs hS hq=>?_)
 obtain⟨hk13,h⟩:=ac h
 refine K.pu hS hq rfl (wt hS rfl rfl rfl rfl) rfl rfl rfl (v:=vB (gt pB pI)) (au tu9 (hS.lk rfl) (hS.lk rfl) hk13) fun s rs hS hq=>?_
 obtain⟨y14,hy14,h⟩:=bind_some h
 refine K.cl hS hq rfl (wt hS rfl rfl rfl rfl) (vs:=[vB (gt pB pI)]) (ws:=[vB (gt pB pI)]) rfl rfl rfl rfl rfl 0 rfl (g_l.ok hy14)  [0,1] rfl rfl (aP rfl mm0 (nD rfl hF11 bn)) fun s rs v S' F' hp15 hF hS hq=>?_
 obtain⟨rfl,rfl,rfl⟩:=hp15
 refine kg hS hq 2 [4] [.bool y14] (by kernel_rfl) fun s rs hS hq=>(KW.nil ?_)
 refine WW.ret ?_
 cases h
 exact ax hS (.inr rfl) 4 rfl rfl ⟨rfl,rfl,rfl⟩
 replace hS:=hS.kb 34 hc12 rfl
 refine kg hS hq 13 [4] [.bool false] (by kernel_rfl) fun s rs hS hq=>(KW.nil ?_)
 refine WW.ret ?_
 cases h
 exact ax hS (.inr rfl) 4 rfl rfl ⟨rfl,rfl,rfl⟩
 replace hS:=hS.kb 21 hc2 rfl
 refine kg hS hq 26 [4] [.bool false] (by kernel_rfl) fun s rs hS hq=>(KW.nil ?_)
 refine WW.ret ?_
 cases h
 exact ax hS (.inr rfl) 4 rfl rfl ⟨rfl,rfl,rfl⟩
 replace hS:=hS.kb 8 hc1 rfl
 replace hS:=hS.kb 9 hc1 rfl
 refine kg hS hq 38 [4] [.bool false] (by kernel_rfl) fun s rs hS hq=>(KW.nil ?_)
 refine WW.ret ?_
 cases h
 exact ax hS (.inr rfl) 4 rfl rfl ⟨rfl,rfl,rfl⟩
noncomputable def g_1q.f (pA:UInt8):Option (Bool) :=
  Option.bind (g_l.f pA) fun y1=>Option.bind ((if y1 then some true else Option.bind (g_k.f pA) fun y5=>some y5)) fun z3=>some (z3||((pA.toNat:Int)==((95:UInt8).toNat:Int)))
theorem g_1q.ok {pA:UInt8} {F:FZ} {r:Bool} (h:g_1q.f pA=some r) :
    Cl EV 141 [vB pA] [] F (fun v S' F'=>F=F'∧v= .bool r∧S'= []):=by
 refine Cl.of Tryz.func141 rfl (fun _ _=>rfl) (by kernel_rfl) fun s L nx0 hS=>?_
 unfold g_1q.f at h
 refine WW.seq (WW.region ?_)
 refine sg0 hS 1 [] [2] [.bool false] [] (by kernel_rfl) fun s hS=>(KW.nil ?_)
 refine WW.seq (WW.region ?_)
 obtain⟨y1,hy1,h⟩:=bind_some h
 refine cR (g_l.ok hy1) hS 1 4 0 rfl (by kernel_rfl) fun s hS=>(sg0 hS 1 [] [5] [.bool y1] [] (by kernel_rfl) fun s hS=>?_)
 obtain⟨z3,hz3,h⟩:=bind_some h
 refine ay 3 (fun s=>Stt EV s [(8,.bool z3),(0,vB pA),(2,.bool false)] [] F L F nx0) ?_ fun s hS=>?_
 refine bc hz3 (fun hc4 hz3=>?_) fun hc4 hz3=>?_
 replace hS:=hS.kb 4 hc4 rfl
 replace hS:=hS.kb 5 hc4 rfl
 refine sg0 hS 3 [] [8] [.bool true] [] (by kernel_rfl) fun s hS=>(KW.nil ?_)
 obtain rfl:=Option.some.inj hz3
 exact hS.subR rfl
 replace hS:=hS.kb 4 hc4 rfl
 replace hS:=hS.kb 5 hc4 rfl
 refine sg0 hS 1 [] [6] [vB pA] [] (by kernel_rfl) fun s hS=>?_
 obtain⟨y5,hy5,hz3⟩:=bind_some hz3
 refine bu hS (wt hS rfl rfl rfl rfl) (vs:=[vB pA]) (ws:=[vB pA]) rfl rfl rfl rfl rfl 0 rfl (g_k.ok hy5) fun s v S' F' hp6 hF hS=>?_
 obtain⟨rfl,rfl,rfl⟩:=hp6
 refine sg0 hS 1 [] [8] [.bool y5] [] (by kernel_rfl) fun s hS=>(KW.nil ?_)
 obtain rfl:=Option.some.inj hz3
 exact hS.subR rfl
 refine sg0 hS 1 [] [9] [.bool z3] [] (by kernel_rfl) fun s hS=>(ay 3 (fun s=>Stt EV s [(12,.bool (z3||((pA.toNat:Int)==((95:UInt8).toNat:Int)))),(2,.bool false)] [] F L F nx0) ?_ fun s hS=>?_)
 rcases aj (z3) with hcj | hcj
 replace hS:=hS.know (t:=8) rfl (congrArg Value.bool hcj)
 replace hS:=hS.know (t:=9) rfl (congrArg Value.bool hcj)
 refine sg0 hS 3 [] [12] [.bool true] [] (by kernel_rfl) fun s hS=>(KW.nil ?_)
 exact(hS.know (t:=12) (u':= .bool (z3||((pA.toNat:Int)==((95:UInt8).toNat:Int)))) rfl (bH hcj)).subR rfl
 replace hS:=hS.know (t:=8) rfl (congrArg Value.bool hcj)
 replace hS:=hS.know (t:=9) rfl (congrArg Value.bool hcj)
 refine sg0 hS 3 [] [12] [.bool ((pA.toNat:Int)==((95:UInt8).toNat:Int))] [] (by kernel_rfl) fun s hS=>(KW.nil ?_)
 exact(hS.know (t:=12) (u':= .bool (z3||((pA.toNat:Int)==((95:UInt8).toNat:Int)))) rfl (bI hcj)).subR rfl
 refine sg0 hS 1 [] [2] [.bool (z3||((pA.toNat:Int)==((95:UInt8).toNat:Int)))] [] (by kernel_rfl) fun s hS=>(KW.nil ?_)
 refine WW.ret ?_
 cases h
 exact ax hS (.inr rfl) 2 rfl rfl ⟨rfl,rfl,rfl⟩
noncomputable def g_17.f (pB:List UInt8) (pC:List Int) (pI:Int) (pP:Bool):Option (Bool) :=
  (if pP then(if(decide (pI<(pB.length:Int))) then(if 0≤pI∧pI<(pC.length:Int) then(if((gt pC pI)==0) then(if 0≤pI∧pI<(pB.length:Int) then Option.bind (g_1q.f (gt pB pI)) fun y14=>some y14 else none) else some false) else none) else some false) else some false)
theorem g_17.ok {iB:Nat} {aE:Option Addr} {zH:Nat} {aM:Option Addr} {zN:Nat} {BP:Seg} {pB:List UInt8} {pC:List Int} {pI:Int} {pJ:List Int} {pP:Bool} {F:FZ} {r:Bool} (h:g_17.f pB pC pI pP=some r) (hI:Frz (elI .i64 3) F aE zH pC) :
    Cl EV 140 [.pointer (some ⟨iB,0,none⟩),.func (.func 141) #[] #[]] [[(iB,.row [aa pB,.slice aE pC.length zH,.int .i64 pI,.slice aM pJ.length zN,.bool pP] 99 0 true)],BP] F (fun v S' F'=>F=F'∧v= .bool r∧S'= [[(iB,.row [aa pB,.slice aE pC.length zH,.int .i64 pI,.slice aM pJ.length zN,.bool pP] 99 0 true)],BP]):=by
 refine Cl.of Tryz.func140 rfl (fun _ _=>rfl) (by kernel_rfl) fun s L nx0 hS=>?_
 unfold g_17.f at h
 refine WW.seq (WW.region ?_)
 refine sg0 hS 1 [] [4] [.bool false] [] (by kernel_rfl) fun s hS=>(KW.nil ?_)
 refine WW.seq (WW.regionD (i:=[[],[],[],[],[],[],[],[],[],[8,7,6,5],[8,7,6,5],[8,7,6,5],[8,7,6,5],[8,7,6,5],[],[],[],[],[],[],[],[20,19,18,17],[20,19,18,17],[20,19,18,17],[20,19,18,17],[],[],[],[],[],[],[30],[30],[30],[30],[34,33,32,31,30],[34,33,32,31,30],[34,33,32,31,30],[34,33,32,31,30],[30],[],[],[]]) (by kernel_rfl) ?_)
 have hq:=RS.start [iB]
 refine kg hS hq 3 [7] [.pointer (some ⟨iB,4,none⟩)] (by kernel_rfl) fun s rs hS hq=>(K.ld hS hq rfl (wn rfl) rfl rfl rfl (hS.at (k:=0) rfl) tg4 (v:= .bool pP) rfl 0 rfl rfl fun s rs hS hq=>?_)
 refine kg hS hq 1 [9] [.bool pP] (by kernel_rfl) fun s rs hS hq=>(bc h (fun hc1 h=>?_) fun hc1 h=>?_)
 replace hS:=hS.kb 8 hc1 rfl
 replace hS:=hS.kb 9 hc1 rfl
 refine kg hS hq 3 [12] [.pointer (some ⟨iB,2,none⟩)] (by kernel_rfl) fun s rs hS hq=>(K.ld hS hq rfl (wt hS rfl rfl rfl rfl) rfl rfl rfl (hS.at (k:=0) rfl) tg3 (v:= .int .i64 pI) rfl 0 rfl rfl fun s rs hS hq=>?_)
 refine kg hS hq 3 [16] [.pointer (some ⟨iB,0,none⟩)] (by kernel_rfl) fun s rs hS hq=>(K.ld hS hq rfl (wt hS rfl rfl rfl rfl) rfl rfl rfl (hS.at (k:=0) rfl) tg9 (v:=aa pB) rfl 0 rfl rfl fun s rs hS hq=>?_)
 refine kg hS hq 4 [21] [.bool (decide (pI<(pB.length:Int)))] (by kernel_rfl) fun s rs hS hq=>(bc h (fun hc2 h=>?_) fun hc2 h=>?_)
 replace hS:=hS.kb 21 hc2 rfl
 refine kg hS hq 3 [24] [.pointer (some ⟨iB,1,none⟩)] (by kernel_rfl) fun s rs hS hq=>(K.ld hS hq rfl (wt hS rfl rfl rfl rfl) rfl rfl rfl (hS.at (k:=0) rfl) fL (v:= .slice aE pC.length zH) rfl 0 rfl rfl fun s rs hS hq=>?_)
 refine kg hS hq 3 [28] [.pointer (some ⟨iB,2,none⟩)] (by kernel_rfl) fun s rs hS hq=>(K.ld hS hq rfl (wt hS rfl rfl rfl rfl) rfl rfl rfl (hS.at (k:=0) rfl) tg3 (v:= .int .i64 pI) rfl 0 rfl rfl fun s rs hS hq=>?_)
 obtain⟨hk3,h⟩:=ac h
 obtain⟨i9,of10,rfl⟩:=Frz.addr hI (by omega)
 obtain⟨_,_,_,_,c4,hF11,hR5,hN6,hN7,hT8⟩:=Frz.at hI hk3 (m:=1) rfl
 obtain rfl:=hR5
 refine K.pu hS hq rfl (wt hS rfl rfl rfl rfl) rfl rfl rfl (v:= .pointer (some ⟨i9,of10+(pI).toNat*1,none⟩)) (aF (hS.lk rfl) (hS.lk rfl) dj hk3) fun s rs hS hq=>?_
 replace hq:=hq.more i9 rfl rfl rfl
 refine K.ld hS hq rfl (wt hS rfl rfl rfl rfl) rfl rfl rfl (hS.fat hF11) tg3 (v:= .int .i64 (gt pC pI)) hN6 1 rfl rfl fun s rs hS hq=>(kg hS hq 3 [34] [.bool ((gt pC pI)==0)] (by kernel_rfl) fun s rs hS hq=>?_)
 refine bc h (fun hc12 h=>?_) fun hc12 h=>?_
 replace hS:=hS.kb 34 hc12 rfl
 refine kg hS hq 4 [35,38] [.func (.func 141) #[] #[],.pointer (some ⟨iB,0,none⟩)] (by kernel_rfl) fun s rs hS hq=>(K.ld hS hq rfl (wt hS rfl rfl rfl rfl) rfl rfl rfl (hS.at (k:=0) rfl) tg9 (v:=aa pB) rfl 0 rfl rfl fun s rs hS hq=>?_)
 refine kg hS hq 3 [42] [.pointer (some ⟨iB,2,none⟩)] (by kernel_rfl) fun s rs hS hq=>(K.ld hS hq rfl (wt hS rfl rfl rfl rfl) rfl rfl rfl (hS.at (k:=0) rfl) tg3 (v:= .int .i64 pI) rfl 0 rfl rfl fun s rs hS hq=>?_)
 obtain⟨hk13,h⟩:=ac h
 refine K.pu hS hq rfl (wt hS rfl rfl rfl rfl) rfl rfl rfl (v:=vB (gt pB pI)) (au tu9 (hS.lk rfl) (hS.lk rfl) hk13) fun s rs hS hq=>?_
 obtain⟨y14,hy14,h⟩:=bind_some h
 refine K.cl hS hq rfl (wt hS rfl rfl rfl rfl) (vs:=[vB (gt pB pI)]) (ws:=[vB (gt pB pI)]) rfl rfl rfl rfl rfl 0 rfl (g_1q.ok hy14)  [0,1] rfl rfl (aP rfl mm0 (nD rfl hF11 bn)) fun s rs v S' F' hp15 hF hS hq=>?_
 obtain⟨rfl,rfl,rfl⟩:=hp15
 refine kg hS hq 2 [4] [.bool y14] (by kernel_rfl) fun s rs hS hq=>(KW.nil ?_)
 refine WW.ret ?_
 cases h
 exact ax hS (.inr rfl) 4 rfl rfl ⟨rfl,rfl,rfl⟩
 replace hS:=hS.kb 34 hc12 rfl
 refine kg hS hq 13 [4] [.bool false] (by kernel_rfl) fun s rs hS hq=>(KW.nil ?_)
 refine WW.ret ?_
 cases h
 exact ax hS (.inr rfl) 4 rfl rfl ⟨rfl,rfl,rfl⟩
 replace hS:=hS.kb 21 hc2 rfl
 refine kg hS hq 26 [4] [.bool false] (by kernel_rfl) fun s rs hS hq=>(KW.nil ?_)
 refine WW.ret ?_
 cases h
 exact ax hS (.inr rfl) 4 rfl rfl ⟨rfl,rfl,rfl⟩
 replace hS:=hS.kb 8 hc1 rfl
 replace hS:=hS.kb 9 hc1 rfl
 refine kg hS hq 38 [4] [.bool false] (by kernel_rfl) fun s rs hS hq=>(KW.nil ?_)
 refine WW.ret ?_
 cases h
 exact ax hS (.inr rfl) 4 rfl rfl ⟨rfl,rfl,rfl⟩
noncomputable def g_1p.b0 (pB:List UInt8) (pC:List Int) (y3:Bool) (x5:Int×Int):Option ((Int×Int)⊕(Int×Int)) :=
  Option.bind ((if(decide (x5.1<31)) then Option.bind (g_17.f pB pC x5.2 y3) fun y11=>some y11 else some false)) fun z9=>(if z9 then some (.inl ((w64 (x5.1+1)),(w64 (x5.2+1)))) else some (.inr (x5.1,x5.2)))
noncomputable def g_1p.f (pB:List UInt8) (pC:List Int) (pI:Int) (pP:Bool):Option (Int×Bool) :=
  Option.bind (g_16.f pB pC pI pP) fun y1=>Option.bind (g_1o.f pP y1) fun y3=>Option.bind (iter (g_1p.b0 pB pC y3) (0,pI)) fun o6=>some (o6.2,y3)
theorem g_1p.ok {iB:Nat} {aE:Option Addr} {zH:Nat} {aM:Option Addr} {zN:Nat} {BP:Seg} {pB:List UInt8} {pC:List Int} {pI:Int} {pJ:List Int} {pP:Bool} {F:FZ} {r:Int×Bool} (h:g_1p.f pB pC pI pP=some r) (hI:Frz (elI .i64 3) F aE zH pC) :
    Cl EV 104 [.pointer (some ⟨iB,0,none⟩)] [[(iB,.row [aa pB,.slice aE pC.length zH,.int .i64 pI,.slice aM pJ.length zN,.bool pP] 99 0 true)],BP] F (fun v S' F'=>F=F'∧v= .tuple #[]∧S'= [[(iB,.row [aa pB,.slice aE pC.length zH,.int .i64 r.1,.slice aM pJ.length zN,.bool r.2] 99 0 true)],BP]):=by
 refine Cl.of Tryz.func104 rfl (fun _ _=>rfl) (by kernel_rfl) fun s L nx0 hS=>?_
 unfold g_1p.f at h
 refine WW.seq (WW.region ?_)
 refine sg0 hS 2 [] [3,4] [.pointer (some ⟨iB,0,none⟩),.pointer (some ⟨iB,0,none⟩)] [] (by kernel_rfl) fun s hS=>?_
 obtain⟨y1,hy1,h⟩:=bind_some h
 refine bu hS (wn rfl) (vs:=[.pointer (some ⟨iB,0,none⟩),.func (.func 123) #[] #[]]) (ws:=[.pointer (some ⟨iB,0,none⟩),.func (.func 123) #[] #[]]) rfl rfl rfl rfl rfl 2 rfl (g_16.ok hy1 hI) fun s v S' F' hp2 hF hS=>?_
 obtain⟨rfl,rfl,rfl⟩:=hp2
 obtain⟨y3,hy3,h⟩:=bind_some h
 refine cR (g_1o.ok hy3) hS 0 6 2 rfl (by kernel_rfl) fun s hS=>(KW.nil ?_)
 refine WW.seq (WW.region ?_)
 refine sg0 hS 1 [] [2] [.int .i64 0] [] (by kernel_rfl) fun s hS=>(KW.nil ?_)
 refine WW.block ?_
 obtain⟨o6,ho6,h⟩:=bind_some h
 refine WW.loop (LW.iterE ho6 (fun(x5:Int×Int) s=>Stt EV s [(0,.pointer (some ⟨iB,0,none⟩)),(2,.int .i64 x5.1)] [[(iB,.row [aa pB,.slice aE pC.length zH,.int .i64 x5.2,.slice aM pJ.length zN,.bool y3] 99 0 true)],BP] F L F nx0) 0 (hS.subR rfl) ?_ ?_)
 clear hS
 rintro x5 s hS o6' h8
 unfold g_1p.b0 at h8
 refine WW.seq (WW.seq ?_)
 refine WW.region (sg0 hS 3 [] [9] [.bool (decide (x5.1<31))] [] (by kernel_rfl) fun s hS=>?_)
 obtain⟨z9,hz9,h8⟩:=bind_some h8
 refine ay 3 (fun s=>Stt EV s [(12,.bool z9),(0,.pointer (some ⟨iB,0,none⟩)),(2,.int .i64 x5.1)] [[(iB,.row [aa pB,.slice aE pC.length zH,.int .i64 x5.2,.slice aM pJ.length zN,.bool y3] 99 0 true)],BP] F L F nx0) ?_ fun s hS=>?_
 refine bc hz9 (fun hc10 hz9=>?_) fun hc10 hz9=>?_
 replace hS:=hS.kb 9 hc10 rfl
 refine sg0 hS 1 [] [10] [.pointer (some ⟨iB,0,none⟩)] [] (by kernel_rfl) fun s hS=>?_
 obtain⟨y11,hy11,hz9⟩:=bind_some hz9
 refine bu hS (wt hS rfl rfl rfl rfl) (vs:=[.pointer (some ⟨iB,0,none⟩),.func (.func 141) #[] #[]]) (ws:=[.pointer (some ⟨iB,0,none⟩),.func (.func 141) #[] #[]]) rfl rfl rfl rfl rfl 2 rfl (g_17.ok hy11 hI) fun s v S' F' hp12 hF hS=>?_
 obtain⟨rfl,rfl,rfl⟩:=hp12
 refine sg0 hS 1 [] [12] [.bool y11] [] (by kernel_rfl) fun s hS=>(KW.nil ?_)
 obtain rfl:=Option.some.inj hz9
 exact hS.subR rfl
 replace hS:=hS.kb 9 hc10 rfl
 refine sg0 hS 3 [] [12] [.bool false] [] (by kernel_rfl) fun s hS=>(KW.nil ?_)
 obtain rfl:=Option.some.inj hz9
 exact hS.subR rfl
 refine KW.nil (bc h8 (fun hc13 h8=>?_) fun hc13 h8=>?_)
 refine WW.condK hS rfl hc13 (WW.skip ?_)
 refine WW.seq (WW.block ?_)
 refine WW.region (sg hS 8 [0,0] [] [] [iB,iB] [[(iB,.row [aa pB,.slice aE pC.length zH,.int .i64 (w64 (x5.2+1)),.slice aM pJ.length zN,.bool y3] 99 0 true)],BP] (by kernel_rfl) fun s hS=>?_)
 refine KW.nil (WW.region ?_)
 refine sg0 hS 3 [] [2] [.int .i64 (w64 (x5.1+1))] [] (by kernel_rfl) fun s hS=>(KW.nil ?_)
 obtain rfl:=Option.some.inj h8
 exact⟨_,rfl,(hS.subR rfl)⟩
 refine WW.condF hS rfl hc13 (WW.exit ?_)
 refine ae ?_
 obtain rfl:=Option.some.inj h8
 exact⟨_,rfl,rfl,(hS.subR rfl)⟩
 clear hS
 rintro e s ⟨rfl,hS⟩
 refine af ?_
 cases h
 exact aG hS (.inl rfl) rfl ⟨rfl,rfl,rfl⟩
noncomputable def g_12.f (pB:List UInt8) (pC:List Int) (pI:Int) (pP:Bool):Option (Bool) :=
  Option.bind (g_13.f pB pC pI pP 40) fun y1=>some y1
theorem g_12.ok {iB:Nat} {aE:Option Addr} {zH:Nat} {aM:Option Addr} {zN:Nat} {BP:Seg} {pB:List UInt8} {pC:List Int} {pI:Int} {pJ:List Int} {pP:Bool} {F:FZ} {r:Bool} (h:g_12.f pB pC pI pP=some r) (hI:Frz (elI .i64 3) F aE zH pC) :
    Cl EV 142 [.pointer (some ⟨iB,0,none⟩)] [[(iB,.row [aa pB,.slice aE pC.length zH,.int .i64 pI,.slice aM pJ.length zN,.bool pP] 99 0 true)],BP] F (fun v S' F'=>F=F'∧v= .bool r∧S'= [[(iB,.row [aa pB,.slice aE pC.length zH,.int .i64 pI,.slice aM pJ.length zN,.bool pP] 99 0 true)],BP]):=by
 refine Cl.of Tryz.func142 rfl (fun _ _=>rfl) (by kernel_rfl) fun s L nx0 hS=>?_
 unfold g_12.f at h
 refine WW.seq (WW.region ?_)
 refine sg0 hS 1 [] [2] [.bool false] [] (by kernel_rfl) fun s hS=>(KW.nil ?_)
 refine WW.seq (WW.region ?_)
 obtain⟨y1,hy1,h⟩:=bind_some h
 refine cR (g_13.ok hy1 hI) hS 1 4 2 rfl (by kernel_rfl) fun s hS=>(sg0 hS 1 [] [2] [.bool y1] [] (by kernel_rfl) fun s hS=>?_)
 refine KW.nil (WW.ret ?_)
 cases h
 exact ax hS (.inr rfl) 2 rfl rfl ⟨rfl,rfl,rfl⟩
noncomputable def g_1n.f (pB:List UInt8) (pC:List Int) (pI:Int) (pP:Bool):Option (Int×Bool) :=
  Option.bind (g_12.f pB pC pI pP) fun y1=>(if y1 then Option.bind (g_1t.f pB pC pI pP) fun y4=>some (y4.1,y4.2) else some (pI,pP))
theorem g_1n.ok {iB:Nat} {aE:Option Addr} {zH:Nat} {aM:Option Addr} {zN:Nat} {BP:Seg} {pB:List UInt8} {pC:List Int} {pI:Int} {pJ:List Int} {pP:Bool} {F:FZ} {r:Int×Bool} (h:g_1n.f pB pC pI pP=some r) (hI:Frz (elI .i64 3) F aE zH pC) :
    Cl EV 105 [.pointer (some ⟨iB,0,none⟩)] [[(iB,.row [aa pB,.slice aE pC.length zH,.int .i64 pI,.slice aM pJ.length zN,.bool pP] 99 0 true)],BP] F (fun v S' F'=>F=F'∧v= .tuple #[]∧S'= [[(iB,.row [aa pB,.slice aE pC.length zH,.int .i64 r.1,.slice aM pJ.length zN,.bool r.2] 99 0 true)],BP]):=by
 refine Cl.of Tryz.func105 rfl (fun _ _=>rfl) (by kernel_rfl) fun s L nx0 hS=>?_
 unfold g_1n.f at h
 refine WW.seq (WW.region ?_)
 obtain⟨y1,hy1,h⟩:=bind_some h
 refine cR (g_12.ok hy1 hI) hS 1 3 2 rfl (by kernel_rfl) fun s hS=>(KW.nil ?_)
 refine bc h (fun hc3 h=>?_) fun hc3 h=>?_
 refine WW.condK hS rfl hc3 (WW.region ?_)
 obtain⟨y4,hy4,h⟩:=bind_some h
 refine cR (g_1t.ok hy4 hI) hS 1 5 2 rfl (by kernel_rfl) fun s hS=>(KW.nil ?_)
 cases h
 exact aG hS (.inl rfl) rfl ⟨rfl,rfl,rfl⟩
 refine WW.condF hS rfl hc3 (WW.skip ?_)
 cases h
 exact aG hS (.inl rfl) rfl ⟨rfl,rfl,rfl⟩
noncomputable def g_1w.b0 (pB:List UInt8) (pC:List Int) (pP:Bool) (pT:List UInt8) (x1:Int):Option ((Int)⊕(Int)) :=
  (if pP then(if(decide (x1<(pB.length:Int))) then(if 0≤x1∧x1<(pC.length:Int) then(if((gt pC x1) != 0) then some (.inl (w64 (x1+1))) else(if 0≤x1∧x1<(pB.length:Int) then Option.bind (g_3c.f pT (gt pB x1)) fun y18=>(if(decide (y18<0)) then some (.inl (w64 (x1+1))) else some (.inr x1)) else none)) else none) else some (.inr x1)) else some (.inr x1))
noncomputable def g_1w.f (pB:List UInt8) (pC:List Int) (pI:Int) (pP:Bool) (pT:List UInt8):Option (Int×Bool) :=
  Option.bind (iter (g_1w.b0 pB pC pP pT) pI) fun o2=>Option.bind (g_1o.f pP (decide (o2>pI))) fun y21=>some (o2,y21)
theorem g_1w.ok {iB:Nat} {aE:Option Addr} {zH:Nat} {aM:Option Addr} {zN:Nat} {BP:Seg} {pB:List UInt8} {pC:List Int} {pI:Int} {pJ:List Int} {pP:Bool} {pT:List UInt8} {F:FZ} {r:Int×Bool} (h:g_1w.f pB pC pI pP pT=some r) (hI:Frz (elI .i64 3) F aE zH pC) :
    Cl EV 144 [.pointer (some ⟨iB,0,none⟩),aa pT] [[(iB,.row [aa pB,.slice aE pC.length zH,.int .i64 pI,.slice aM pJ.length zN,.bool pP] 99 0 true)],BP] F (fun v S' F'=>F=F'∧v= .tuple #[]∧S'= [[(iB,.row [aa pB,.slice aE pC.length zH,.int .i64 r.1,.slice aM pJ.length zN,.bool r.2] 99 0 true)],BP]):=by
 refine Cl.of Tryz.func144 rfl (fun _ _=>rfl) (by kernel_rfl) fun s L nx0 hS=>?_
 unfold g_1w.f at h
 refine WW.seq (WW.region ?_)
 refine sg0 hS 5 [0] [4] [.int .i64 pI] [iB] (by kernel_rfl) fun s hS=>(KW.nil ?_)
 refine WW.seq (WW.block ?_)
 obtain⟨o2,ho2,h⟩:=bind_some h
 refine WW.loop (LW.iterE ho2 (fun(x1:Int) s=>Stt EV s [(0,.pointer (some ⟨iB,0,none⟩)),(1,aa pT),(4,.int .i64 pI)] [[(iB,.row [aa pB,.slice aE pC.length zH,.int .i64 x1,.slice aM pJ.length zN,.bool pP] 99 0 true)],BP] F L F nx0) 0 (hS.subR rfl) ?_ ?_)
 clear hS
 rintro x1 s hS o2' h4
 unfold g_1w.b0 at h4
 refine WW.seq (WW.seq ?_)
 refine WW.regionD (i:=[[],[],[],[],[],[],[],[],[],[8,7,6,5],[8,7,6,5],[8,7,6,5],[8,7,6,5],[8,7,6,5],[],[],[],[],[],[],[],[20,19,18,17],[20,19,18,17],[20,19,18,17],[20,19,18,17],[],[],[],[],[],[29],[29],[29],[29],[33,32,31,30,29],[33,32,31,30,29],[33,32,31,30,29],[33,32,31,30,29],[29],[],[],[],[]]) (by kernel_rfl) ?_
 have hq:=RS.start [iB]
 refine kg hS hq 3 [11] [.pointer (some ⟨iB,4,none⟩)] (by kernel_rfl) fun s rs hS hq=>(K.ld hS hq rfl (wn rfl) rfl rfl rfl (hS.at (k:=0) rfl) tg4 (v:= .bool pP) rfl 0 rfl rfl fun s rs hS hq=>?_)
 refine kg hS hq 1 [13] [.bool pP] (by kernel_rfl) fun s rs hS hq=>(bc h4 (fun hc5 h4=>?_) fun hc5 h4=>?_)
 replace hS:=hS.kb 12 hc5 rfl
 replace hS:=hS.kb 13 hc5 rfl
 refine kg hS hq 3 [16] [.pointer (some ⟨iB,2,none⟩)] (by kernel_rfl) fun s rs hS hq=>(K.ld hS hq rfl (wt hS rfl rfl rfl rfl) rfl rfl rfl (hS.at (k:=0) rfl) tg3 (v:= .int .i64 x1) rfl 0 rfl rfl fun s rs hS hq=>?_)
 refine kg hS hq 3 [20] [.pointer (some ⟨iB,0,none⟩)] (by kernel_rfl) fun s rs hS hq=>(K.ld hS hq rfl (wt hS rfl rfl rfl rfl) rfl rfl rfl (hS.at (k:=0) rfl) tg9 (v:=aa pB) rfl 0 rfl rfl fun s rs hS hq=>?_)
 refine kg hS hq 4 [25] [.bool (decide (x1<(pB.length:Int)))] (by kernel_rfl) fun s rs hS hq=>(bc h4 (fun hc6 h4=>?_) fun hc6 h4=>?_)
 replace hS:=hS.kb 25 hc6 rfl
 refine kg hS hq 3 [28] [.pointer (some ⟨iB,1,none⟩)] (by kernel_rfl) fun s rs hS hq=>(K.ld hS hq rfl (wt hS rfl rfl rfl rfl) rfl rfl rfl (hS.at (k:=0) rfl) fL (v:= .slice aE pC.length zH) rfl 0 rfl rfl fun s rs hS hq=>?_)
 refine kg hS hq 3 [32] [.pointer (some ⟨iB,2,none⟩)] (by kernel_rfl) fun s rs hS hq=>(K.ld hS hq rfl (wt hS rfl rfl rfl rfl) rfl rfl rfl (hS.at (k:=0) rfl) tg3 (v:= .int .i64 x1) rfl 0 rfl rfl fun s rs hS hq=>?_)
 obtain⟨hk7,h4⟩:=ac h4
 obtain⟨i13,of14,rfl⟩:=Frz.addr hI (by omega)
 obtain⟨_,_,_,_,c8,hF15,hR9,hN10,hN11,hT12⟩:=Frz.at hI hk7 (m:=1) rfl
 obtain rfl:=hR9
 refine K.pu hS hq rfl (wt hS rfl rfl rfl rfl) rfl rfl rfl (v:= .pointer (some ⟨i13,of14+(x1).toNat*1,none⟩)) (aF (hS.lk rfl) (hS.lk rfl) dj hk7) fun s rs hS hq=>?_
 replace hq:=hq.more i13 rfl rfl rfl
 refine K.ld hS hq rfl (wt hS rfl rfl rfl rfl) rfl rfl rfl (hS.fat hF15) tg3 (v:= .int .i64 (gt pC x1)) hN10 1 rfl rfl fun s rs hS hq=>(kg hS hq 2 [37] [.bool ((gt pC x1) != 0)] (by kernel_rfl) fun s rs hS hq=>?_)
 refine bc h4 (fun hc16 h4=>?_) fun hc16 h4=>?_
 replace hS:=hS.kb 37 hc16 rfl
 refine kg hS hq 14 [51] [.bool true] (by kernel_rfl) fun s rs hS hq=>(KW.nil ?_)
 refine WW.condK hS rfl rfl (WW.skip ?_)
 refine WW.block (WW.region ?_)
 refine sg hS 8 [0,0] [] [] [iB,iB] [[(iB,.row [aa pB,.slice (some ⟨i13,of14,none⟩) pC.length zH,.int .i64 (w64 (x1+1)),.slice aM pJ.length zN,.bool pP] 99 0 true)],BP] (by kernel_rfl) fun s hS=>(KW.nil ?_)
 obtain rfl:=Option.some.inj h4
 exact⟨_,rfl,(hS.subR rfl)⟩
 replace hS:=hS.kb 37 hc16 rfl
 refine kg hS hq 4 [38,41] [aa pT,.pointer (some ⟨iB,0,none⟩)] (by kernel_rfl) fun s rs hS hq=>(K.ld hS hq rfl (wt hS rfl rfl rfl rfl) rfl rfl rfl (hS.at (k:=0) rfl) tg9 (v:=aa pB) rfl 0 rfl rfl fun s rs hS hq=>?_)
 refine kg hS hq 3 [45] [.pointer (some ⟨iB,2,none⟩)] (by kernel_rfl) fun s rs hS hq=>(K.ld hS hq rfl (wt hS rfl rfl rfl rfl) rfl rfl rfl (hS.at (k:=0) rfl) tg3 (v:= .int .i64 x1) rfl 0 rfl rfl fun s rs hS hq=>?_)
 obtain⟨hk17,h4⟩:=ac h4
 refine K.pu hS hq rfl (wt hS rfl rfl rfl rfl) rfl rfl rfl (v:=vB (gt pB x1)) (au tu9 (hS.lk rfl) (hS.lk rfl) hk17) fun s rs hS hq=>?_
 obtain⟨y18,hy18,h4⟩:=bind_some h4
 refine K.cl hS hq rfl (wt hS rfl rfl rfl rfl) (vs:=[aa pT,vB (gt pB x1)]) (ws:=[aa pT,vB (gt pB x1)]) rfl rfl rfl rfl rfl 0 rfl (g_3c.ok hy18)  [0,1] rfl rfl (aP rfl mm0 (nD rfl hF15 bn)) fun s rs v S' F' hp19 hF hS hq=>?_
 obtain⟨rfl,rfl,rfl⟩:=hp19
 refine kg hS hq 3 [51] [.bool (decide (y18<0))] (by kernel_rfl) fun s rs hS hq=>(KW.nil ?_)
 refine bc h4 (fun hc20 h4=>?_) fun hc20 h4=>?_
 refine WW.condK hS rfl hc20 (WW.skip ?_)
 refine WW.block (WW.region ?_)
 refine sg hS 8 [0,0] [] [] [iB,iB] [[(iB,.row [aa pB,.slice (some ⟨i13,of14,none⟩) pC.length zH,.int .i64 (w64 (x1+1)),.slice aM pJ.length zN,.bool pP] 99 0 true)],BP] (by kernel_rfl) fun s hS=>(KW.nil ?_)
 obtain rfl:=Option.some.inj h4
 exact⟨_,rfl,(hS.subR rfl)⟩
 refine WW.condF hS rfl hc20 (WW.exit ?_)
 refine ae ?_
 obtain rfl:=Option.some.inj h4
 exact⟨_,rfl,rfl,(hS.subR rfl)⟩
 replace hS:=hS.kb 25 hc6 rfl
 refine kg hS hq 12 [37] [undef] (by kernel_rfl) fun s rs hS hq=>(K.no hS hq rfl (wu hS rfl rfl rfl) rfl fun s rs hS hq=>?_)
 refine K.no hS hq rfl (wu hS rfl rfl rfl) rfl fun s rs hS hq=>(K.no hS hq rfl (wu hS rfl rfl rfl) rfl fun s rs hS hq=>?_)
 refine K.no hS hq rfl (wu hS rfl rfl rfl) rfl fun s rs hS hq=>(K.no hS hq rfl (wu hS rfl rfl rfl) rfl fun s rs hS hq=>?_)
 refine K.no hS hq rfl (wu hS rfl rfl rfl) rfl fun s rs hS hq=>(K.no hS hq rfl (wu hS rfl rfl rfl) rfl fun s rs hS hq=>?_)
 refine K.no hS hq rfl (wu hS rfl rfl rfl) rfl fun s rs hS hq=>(K.no hS hq rfl (wu hS rfl rfl rfl) rfl fun s rs hS hq=>?_)
 refine K.no hS hq rfl (wu hS rfl rfl rfl) rfl fun s rs hS hq=>(K.no hS hq rfl (wu hS rfl rfl rfl) rfl fun s rs hS hq=>?_)
 refine K.no hS hq rfl (wu hS rfl rfl rfl) rfl fun s rs hS hq=>(kg hS hq 2 [51] [.bool false] (by kernel_rfl) fun s rs hS hq=>?_)
 refine KW.nil (WW.condF hS rfl rfl ?_)
 refine WW.exit (ae ?_)
 obtain rfl:=Option.some.inj h4
 exact⟨_,rfl,rfl,(hS.subR rfl)⟩
 replace hS:=hS.kb 12 hc5 rfl
 replace hS:=hS.kb 13 hc5 rfl
 refine kg hS hq 24 [25,37] [.bool false,undef] (by kernel_rfl) fun s rs hS hq=>(K.no hS hq rfl (wu hS rfl rfl rfl) rfl fun s rs hS hq=>?_)
 refine K.no hS hq rfl (wu hS rfl rfl rfl) rfl fun s rs hS hq=>(K.no hS hq rfl (wu hS rfl rfl rfl) rfl fun s rs hS hq=>?_)
 refine K.no hS hq rfl (wu hS rfl rfl rfl) rfl fun s rs hS hq=>(K.no hS hq rfl (wu hS rfl rfl rfl) rfl fun s rs hS hq=>?_)
 refine K.no hS hq rfl (wu hS rfl rfl rfl) rfl fun s rs hS hq=>(K.no hS hq rfl (wu hS rfl rfl rfl) rfl fun s rs hS hq=>?_)
 refine K.no hS hq rfl (wu hS rfl rfl rfl) rfl fun s rs hS hq=>(K.no hS hq rfl (wu hS rfl rfl rfl) rfl fun s rs hS hq=>?_)
 refine K.no hS hq rfl (wu hS rfl rfl rfl) rfl fun s rs hS hq=>(K.no hS hq rfl (wu hS rfl rfl rfl) rfl fun s rs hS hq=>?_)
 refine K.no hS hq rfl (wu hS rfl rfl rfl) rfl fun s rs hS hq=>(kg hS hq 2 [51] [.bool false] (by kernel_rfl) fun s rs hS hq=>?_)
 refine KW.nil (WW.condF hS rfl rfl ?_)
 refine WW.exit (ae ?_)
 obtain rfl:=Option.some.inj h4
 exact⟨_,rfl,rfl,(hS.subR rfl)⟩
 clear hS
 rintro e s ⟨rfl,hS⟩
 refine af (WW.region ?_)
 refine sg0 hS 7 [0] [59,65] [.pointer (some ⟨iB,0,none⟩),.bool (decide (o2>pI))] [iB] (by kernel_rfl) fun s hS=>?_
 obtain⟨y21,hy21,h⟩:=bind_some h
 refine bu hS (wn rfl) (vs:=[.pointer (some ⟨iB,0,none⟩),.bool (decide (o2>pI))]) (ws:=[.pointer (some ⟨iB,0,none⟩),.bool (decide (o2>pI))]) rfl rfl rfl rfl rfl 2 rfl (g_1o.ok hy21) fun s v S' F' hp22 hF hS=>?_
 obtain⟨rfl,rfl,rfl⟩:=hp22
 refine KW.nil ?_
 cases h
 exact aG hS (.inl rfl) rfl ⟨rfl,rfl,rfl⟩
noncomputable def g_y.f (pB:List UInt8) (pC:List Int) (pI:Int) (pP:Bool):Option (Int×Bool) :=
  Option.bind (g_1w.f pB pC pI pP ([61,44])) fun y1=>some (y1.1,y1.2)
theorem g_y.ok {iB:Nat} {aE:Option Addr} {zH:Nat} {aM:Option Addr} {zN:Nat} {BP:Seg} {pB:List UInt8} {pC:List Int} {pI:Int} {pJ:List Int} {pP:Bool} {F:FZ} {r:Int×Bool} (h:g_y.f pB pC pI pP=some r) (hI:Frz (elI .i64 3) F aE zH pC) :
    Cl EV 107 [.pointer (some ⟨iB,0,none⟩)] [[(iB,.row [aa pB,.slice aE pC.length zH,.int .i64 pI,.slice aM pJ.length zN,.bool pP] 99 0 true)],BP] F (fun v S' F'=>F=F'∧v= .tuple #[]∧S'= [[(iB,.row [aa pB,.slice aE pC.length zH,.int .i64 r.1,.slice aM pJ.length zN,.bool r.2] 99 0 true)],BP]):=by
 refine Cl.of Tryz.func107 rfl (fun _ _=>rfl) (by kernel_rfl) fun s L nx0 hS=>?_
 unfold g_y.f at h
 refine WW.region ?_
 obtain⟨y1,hy1,h⟩:=bind_some h
 refine cR (g_1w.ok hy1 hI) hS 1 3 2 rfl (by kernel_rfl) fun s hS=>(KW.nil ?_)
 cases h
 exact aG hS (.inl rfl) rfl ⟨rfl,rfl,rfl⟩
noncomputable def g_27.f:Option (List (List UInt8)) :=
  some ([([73,78,84,69,71,69,82]),([82,69,65,76]),([68,79,85,66,76,69,80,82,69,67,73,83,73,79,78]),([67,79,77,80,76,69,88]),([68,79,85,66,76,69,67,79,77,80,76,69,88]),([76,79,71,73,67,65,76]),([67,72,65,82,65,67,84,69,82])]:List (List UInt8))
theorem g_27.ok  {F:FZ} {r:List (List UInt8)} (h:g_27.f=some r) :
    Cl EV 60 [] [] F (fun v S' F'=> ∃(ra1:Option Addr) (rz2:Nat) (rB4:Seg),F=F'∧v= .slice ra1 r.length rz2∧S'= [rB4]∧Own (elS 9) F' ra1 rz2 r rB4):=by
 refine Cl.of Tryz.func60 rfl (fun _ _=>rfl) (by kernel_rfl) fun s L nx0 hS=>?_
 unfold g_27.f at h
 refine WW.seq (WW.region ?_)
 refine sg0 hS 1 [] [0] [.slice none 0 0] [] (by kernel_rfl) fun s hS=>(KW.nil ?_)
 refine WW.seq (WW.region ?_)
 refine bA hS (wn rfl) rfl rfl rfl (v:=fun i=> .slice (some ⟨i,0,none⟩) 7 1) (b:= .row [aa ([73,78,84,69,71,69,82]),aa ([82,69,65,76]),aa ([68,79,85,66,76,69,80,82,69,67,73,83,73,79,78]),aa ([67,79,77,80,76,69,88]),aa ([68,79,85,66,76,69,67,79,77,80,76,69,88]),aa ([76,79,71,73,67,65,76]),aa ([67,72,65,82,65,67,84,69,82])] 9 1 true) (aW tu103 tz9 t0_9 rfl [(0,aa ([73,78,84,69,71,69,82])),(1,aa ([82,69,65,76])),(2,aa ([68,79,85,66,76,69,80,82,69,67,73,83,73,79,78])),(3,aa ([67,79,77,80,76,69,88])),(4,aa ([68,79,85,66,76,69,67,79,77,80,76,69,88])),(5,aa ([76,79,71,73,67,65,76])),(6,aa ([67,72,65,82,65,67,84,69,82]))] (av hS rfl) rfl) fun s i1 hS=>?_
 have hC2:ai (elS 9) F ([([73,78,84,69,71,69,82]),([82,69,65,76]),([68,79,85,66,76,69,80,82,69,67,73,83,73,79,78]),([67,79,77,80,76,69,88]),([68,79,85,66,76,69,67,79,77,80,76,69,88]),([76,79,71,73,67,65,76]),([67,72,65,82,65,67,84,69,82])]:List (List UInt8)) [aa ([73,78,84,69,71,69,82]),aa ([82,69,65,76]),aa ([68,79,85,66,76,69,80,82,69,67,73,83,73,79,78]),aa ([67,79,77,80,76,69,88]),aa ([68,79,85,66,76,69,67,79,77,80,76,69,88]),aa ([76,79,71,73,67,65,76]),aa ([67,72,65,82,65,67,84,69,82])]:=⟨[aa ([73,78,84,69,71,69,82])],[aa ([82,69,65,76]),aa ([68,79,85,66,76,69,80,82,69,67,73,83,73,79,78]),aa ([67,79,77,80,76,69,88]),aa ([68,79,85,66,76,69,67,79,77,80,76,69,88]),aa ([76,79,71,73,67,65,76]),aa ([67,72,65,82,65,67,84,69,82])],rfl,rfl,⟨[aa ([82,69,65,76])],[aa ([68,79,85,66,76,69,80,82,69,67,73,83,73,79,78]),aa ([67,79,77,80,76,69,88]),aa ([68,79,85,66,76,69,67,79,77,80,76,69,88]),aa ([76,79,71,73,67,65,76]),aa ([67,72,65,82,65,67,84,69,82])],rfl,rfl,⟨[aa ([68,79,85,66,76,69,80,82,69,67,73,83,73,79,78])],[aa ([67,79,77,80,76,69,88]),aa ([68,79,85,66,76,69,67,79,77,80,76,69,88]),aa ([76,79,71,73,67,65,76]),aa ([67,72,65,82,65,67,84,69,82])],rfl,rfl,⟨[aa ([67,79,77,80,76,69,88])],[aa ([68,79,85,66,76,69,67,79,77,80,76,69,88]),aa ([76,79,71,73,67,65,76]),aa ([67,72,65,82,65,67,84,69,82])],rfl,rfl,⟨[aa ([68,79,85,66,76,69,67,79,77,80,76,69,88])],[aa ([76,79,71,73,67,65,76]),aa ([67,72,65,82,65,67,84,69,82])],rfl,rfl,⟨[aa ([76,79,71,73,67,65,76])],[aa ([67,72,65,82,65,67,84,69,82])],rfl,rfl,⟨[aa ([67,72,65,82,65,67,84,69,82])],[],rfl,rfl,rfl⟩⟩⟩⟩⟩⟩⟩
 refine sg0 hS 1 [] [0] [.slice (some ⟨i1,0,none⟩) ([([73,78,84,69,71,69,82]),([82,69,65,76]),([68,79,85,66,76,69,80,82,69,67,73,83,73,79,78]),([67,79,77,80,76,69,88]),([68,79,85,66,76,69,67,79,77,80,76,69,88]),([76,79,71,73,67,65,76]),([67,72,65,82,65,67,84,69,82])]:List (List UInt8)).length 1] [] (by kernel_rfl) fun s hS=>(KW.nil ?_)
 refine WW.ret ?_
 cases h
 exact ax hS (.inr rfl) 0 rfl rfl ⟨_,_,_,rfl,rfl,rfl,(Own.blk0 hC2)⟩
noncomputable def g_2r.b0 (pA:List (List UInt8)) (pH:List UInt8) (pI:List Int) (pN:Int) (pW:Bool) (x1:Int):Option ((Int)⊕((Int)⊕(Int))) :=
  (if(decide (x1<(pA.length:Int))) then(if 0≤x1∧x1<(pA.length:Int) then Option.bind (g_z.f pH pI pN pW (gt pA x1)) fun y15=>(if y15 then some (.inr (.inr x1)) else some (.inl (w64 (x1+1)))) else none) else some (.inr (.inl x1)))
noncomputable def g_2r.f (pA:List (List UInt8)) (pH:List UInt8) (pI:List Int) (pN:Int) (pW:Bool):Option (Int) :=
  Option.bind (iter (g_2r.b0 pA pH pI pN pW) 0) fun o2=>cu o2 fun y18=>some (-1)
theorem g_2r.ok {aC:Option Addr} {zD:Nat} {iH:Nat} {aK:Option Addr} {zM:Nat} {aT:Option Addr} {zU:Nat} {BW:Seg} {pA:List (List UInt8)} {pH:List UInt8} {pI:List Int} {pN:Int} {pO:List Int} {pW:Bool} {F:FZ} {r:Int} (h:g_2r.f pA pH pI pN pW=some r) (hE:Frz (elS 9) F aC zD pA) (hN:Frz (elI .i64 3) F aK zM pI) :
    Cl EV 145 [.slice aC pA.length zD,.func (.func 90) #[.pointer (some ⟨iH,0,none⟩)] #[]] [[(iH,.row [aa pH,.slice aK pI.length zM,.int .i64 pN,.slice aT pO.length zU,.bool pW] 99 0 true)],BW] F (fun v S' F'=>F=F'∧v= .int .i64 r∧S'= [[(iH,.row [aa pH,.slice aK pI.length zM,.int .i64 pN,.slice aT pO.length zU,.bool pW] 99 0 true)],BW]):=by
 refine Cl.of Tryz.func145 rfl (fun _ _=>rfl) (by kernel_rfl) fun s L nx0 hS=>?_
 unfold g_2r.f at h
 refine WW.seq (WW.region ?_)
 refine sg0 hS 1 [] [4] [.int .i64 0] [] (by kernel_rfl) fun s hS=>(KW.nil ?_)
 refine WW.seq (WW.seq ?_)
 refine WW.region (sg0 hS 3 [] [7,8] [.int .i64 (pA.length:Int),.int .i64 0] [] (by kernel_rfl) fun s hS=>?_)
 refine KW.nil (WW.block ?_)
 obtain⟨o2,ho2,h⟩:=bind_some h
 refine WW.loop (LW.iterS ho2 (fun(x1:Int) s=>Stt EV s [(0,.slice aC pA.length zD),(1,.func (.func 90) #[.pointer (some ⟨iH,0,none⟩)] #[]),(4,.int .i64 0),(7,.int .i64 (pA.length:Int)),(8,.int .i64 x1)] [[(iH,.row [aa pH,.slice aK pI.length zM,.int .i64 pN,.slice aT pO.length zU,.bool pW] 99 0 true)],BW] F L F nx0) 0 (fun r=>ej EV Tryz.f145 L F nx0 (fun v S' F'=>F=F'∧v= .int .i64 r∧S'= [[(iH,.row [aa pH,.slice aK pI.length zM,.int .i64 pN,.slice aT pO.length zU,.bool pW] 99 0 true)],BW])) (hS.subR rfl) ?_ ?_)
 clear hS
 rintro x1 s hS o2' h4
 unfold g_2r.b0 at h4
 refine WW.seq (WW.region ?_)
 refine sg0 hS 1 [] [9] [.bool (decide (x1<(pA.length:Int)))] [] (by kernel_rfl) fun s hS=>(KW.nil ?_)
 refine WW.seq (bc h4 (fun hc5 h4=>?_) fun hc5 h4=>?_)
 refine WW.condK hS rfl hc5 (WW.skip ?_)
 refine WW.seq (WW.block ?_)
 refine WW.seq (WW.region ?_)
 refine sg0 hS 2 [] [5] [.int .i64 x1] [] (by kernel_rfl) fun s hS=>(KW.nil ?_)
 refine WW.seq (WW.region ?_)
 refine sg0 hS 3 [] [11,12,13] [.func (.func 90) #[.pointer (some ⟨iH,0,none⟩)] #[],.slice aC pA.length zD,.int .i64 x1] [] (by kernel_rfl) fun s hS=>?_
 obtain⟨hk6,h4⟩:=ac h4
 obtain⟨i12,of13,rfl⟩:=Frz.addr hE (by omega)
 obtain⟨_,_,_,_,c7,hF14,hR8,hN9,hN10,hT11⟩:=Frz.at hE hk6 (m:=1) rfl
 obtain rfl:=hR8
 refine aw hS (wn rfl) rfl rfl rfl (v:= .pointer (some ⟨i12,of13+(x1).toNat*1,none⟩)) (aF (hS.lk rfl) (hS.lk rfl) tc hk6) fun s hS=>(eu hS (wn rfl) rfl rfl rfl (hS.fat hF14) tg9 (v:=aa (gt pA x1)) hN9 fun s hS=>?_)
 obtain⟨y15,hy15,h4⟩:=bind_some h4
 refine cR (g_z.ok hy15 hN) hS 0 16 2 rfl (by kernel_rfl) fun s hS=>(KW.nil ?_)
 refine bc h4 (fun hc17 h4=>?_) fun hc17 h4=>?_
 refine WW.condK hS rfl hc17 (WW.seq ?_)
 refine WW.region (sg0 hS 2 [] [4] [.int .i64 x1] [] (by kernel_rfl) fun s hS=>?_)
 refine KW.nil (WW.ret ?_)
 cases h4
 exact⟨_,rfl,rfl,ax hS (.inr rfl) 4 rfl rfl ⟨rfl,rfl,rfl⟩⟩
 refine WW.condF hS rfl hc17 (WW.skip ?_)
 refine WW.region (sg0 hS 2 [] [8] [.int .i64 (w64 (x1+1))] [] (by kernel_rfl) fun s hS=>?_)
 refine KW.nil ?_
 obtain rfl:=Option.some.inj h4
 exact⟨_,rfl,(hS.subR rfl)⟩
 refine WW.condF hS rfl hc5 (WW.exit ?_)
 refine ae ?_
 obtain rfl:=Option.some.inj h4
 exact⟨_,rfl,rfl,(hS.subR rfl)⟩
 clear hS
 rcases o2 with y18 | y18
 rintro e s ⟨rfl,hS⟩
 replace h:=bp h
 refine af (WW.seq ?_)
 refine WW.region (sg0 hS 1 [] [4] [.int .i64 (-1)] [] (by kernel_rfl) fun s hS=>?_)
 refine KW.nil (WW.ret ?_)
 cases h
 exact ax hS (.inr rfl) 4 rfl rfl ⟨rfl,rfl,rfl⟩
 rintro e s ⟨rfl,hfin⟩
 replace h:=bq h
 obtain rfl:=Option.some.inj h
 exact hfin
noncomputable def g_1r.f (pB:List UInt8) (pC:List Int) (pI:Int) (pJ:List Int) (pP:Bool):Option (Bool×Int×List Int×Bool) :=
  Option.bind (g_27.f) fun y1=>Option.bind (g_2r.f y1 pB pC pI pP) fun y10=>(if(decide (y10<0)) then some (false,pI,pJ,pP) else Option.bind (g_27.f) fun y13=>(if 0≤y10∧y10<(y13.length:Int) then Option.bind (g_20.f pB pC pI pJ pP (gt y13 y10)) fun y29=>some (true,y29.1,y29.2.1,y29.2.2) else none))
theorem g_1r.ok {iB:Nat} {aE:Option Addr} {zH:Nat} {aM:Option Addr} {zN:Nat} {BP:Seg} {pB:List UInt8} {pC:List Int} {pI:Int} {pJ:List Int} {pP:Bool} {F:FZ} {r:Bool×Int×List Int×Bool} (h:g_1r.f pB pC pI pJ pP=some r) (hI:Frz (elI .i64 3) F aE zH pC) (hO:Own (elI .i64 3) F aM zN pJ BP) :
    Cl EV 108 [.pointer (some ⟨iB,0,none⟩)] [[(iB,.row [aa pB,.slice aE pC.length zH,.int .i64 pI,.slice aM pJ.length zN,.bool pP] 99 0 true)],BP] F (fun v S' F'=> ∃(ra1:Option Addr) (rz2:Nat) (rB4:Seg),FLe F F'∧v= .bool r.1∧S'= [[(iB,.row [aa pB,.slice aE pC.length zH,.int .i64 r.2.1,.slice ra1 r.2.2.1.length rz2,.bool r.2.2.2] 99 0 true)],rB4]∧Own (elI .i64 3) F' ra1 rz2 r.2.2.1 rB4):=by
 refine Cl.of Tryz.func108 rfl (fun _ _=>rfl) (by kernel_rfl) fun s L nx0 hS=>?_
 unfold g_1r.f at h
 refine WW.seq (WW.region ?_)
 refine sg0 hS 1 [] [2] [.bool false] [] (by kernel_rfl) fun s hS=>(KW.nil ?_)
 refine WW.seq (WW.region ?_)
 obtain⟨y1,hy1,h⟩:=bind_some h
 refine cK (g_27.ok hy1) hS 0 4 0 rfl (by kernel_rfl) fun s v S' F' hp2 hF hS=>?_
 obtain⟨a3,z4,B6,rfl,rfl,rfl,h5⟩:=hp2
 refine sg0 hS 1 [] [5] [.pointer (some ⟨iB,0,none⟩)] [] (by kernel_rfl) fun s hS=>(aw hS (wn rfl) rfl rfl rfl (v:= .func (.func 90) #[.pointer (some ⟨iB,0,none⟩)] #[]) (cF (bb hS (vs:=[.pointer (some ⟨iB,0,none⟩)]) rfl) (bb hS (vs:=[]) rfl)) fun s hS=>?_)
 obtain⟨F7,hF8,hS,hz9⟩:=hS.frzO h5
 obtain⟨y10,hy10,h⟩:=bind_some h
 refine cR (g_2r.ok hy10 hz9 (hI.mono hF8)) hS 0 7 2 rfl (by kernel_rfl) fun s hS=>(sg0 hS 1 [] [3] [.int .i64 y10] [] (by kernel_rfl) fun s hS=>?_)
 refine KW.nil (WW.seq ?_)
 refine WW.seq (WW.region ?_)
 refine sg0 hS 2 [] [9] [.bool (decide (y10<0))] [] (by kernel_rfl) fun s hS=>(KW.nil ?_)
 refine bc h (fun hc12 h=>?_) fun hc12 h=>?_
 refine WW.condK hS rfl hc12 (WW.seq ?_)
 refine WW.region (sg0 hS 1 [] [2] [.bool false] [] (by kernel_rfl) fun s hS=>?_)
 refine KW.nil (WW.ret ?_)
 cases h
 exact ax hS (.inr rfl) 2 rfl rfl ⟨_,_,_,(hF8),rfl,rfl,(hO.mono hF8)⟩
 refine WW.condF hS rfl hc12 (WW.skip ?_)
 refine WW.seq (WW.region ?_)
 refine sg0 hS 1 [] [10] [.pointer (some ⟨iB,0,none⟩)] [] (by kernel_rfl) fun s hS=>?_
 obtain⟨y13,hy13,h⟩:=bind_some h
 refine bu hS (wn rfl) (vs:=[]) (ws:=[]) rfl rfl rfl rfl rfl 0 rfl (g_27.ok hy13) fun s v S' F' hp14 hF hS=>?_
 obtain⟨a15,z16,B18,rfl,rfl,rfl,h17⟩:=hp14
 refine sg0 hS 1 [] [12] [.int .i64 y10] [] (by kernel_rfl) fun s hS=>?_
 obtain⟨hk19,h⟩:=ac h
 obtain⟨i25,cs26,ex27,rfl,rfl,rfl,hC28⟩:=Own.some_ h17 (by omega)
 obtain⟨c20,hR21,hN23,hN22,hT24⟩:=ai.loadF hC28 ex27 hk19 (z:=1) rfl
 obtain rfl:=hR21
 refine aw hS (wn rfl) rfl rfl rfl (v:= .pointer (some ⟨i25,0+(y10).toNat*1,none⟩)) (aF (hS.lk rfl) (hS.lk rfl) tc hk19) fun s hS=>(eu hS (wn rfl) rfl rfl rfl (hS.at (k:=0) rfl) tg9 (v:=aa (gt y13 y10)) hN22 fun s hS=>?_)
 obtain⟨y29,hy29,h⟩:=bind_some h
 replace hS:=hS.pull 2
 replace hS:=hS.pull 2
 refine cK (g_20.ok hy29 (hI.mono hF8) (hO.mono hF8)) hS 0 15 2 rfl (by kernel_rfl) fun s v S' F' hp30 hF hS=>?_
 obtain⟨a31,z32,B34,rfl,rfl,rfl,h33⟩:=hp30
 refine KW.nil (WW.seq ?_)
 refine WW.region (sg0 hS 1 [] [2] [.bool true] [] (by kernel_rfl) fun s hS=>?_)
 refine KW.nil (WW.ret ?_)
 replace hS:=(hS.pull 2).drop
 cases h
 exact ax hS (.inr rfl) 2 rfl rfl ⟨_,_,_,(hF8),rfl,rfl,h33⟩
noncomputable def g_18.f (pB:List UInt8) (pC:List Int) (pI:Int) (pP:Bool):Option (Bool) :=
  (if pP then(if(decide (pI<(pB.length:Int))) then(if 0≤pI∧pI<(pC.length:Int) then(if((gt pC pI)==0) then(if 0≤pI∧pI<(pB.length:Int) then Option.bind (g_k.f (gt pB pI)) fun y14=>some y14 else none) else some false) else none) else some false) else some false)
theorem g_18.ok {iB:Nat} {aE:Option Addr} {zH:Nat} {aM:Option Addr} {zN:Nat} {BP:Seg} {pB:List UInt8} {pC:List Int} {pI:Int} {pJ:List Int} {pP:Bool} {F:FZ} {r:Bool} (h:g_18.f pB pC pI pP=some r) (hI:Frz (elI .i64 3) F aE zH pC) :
    Cl EV 140 [.pointer (some ⟨iB,0,none⟩),.func (.func 62) #[] #[]] [[(iB,.row [aa pB,.slice aE pC.length zH,.int .i64 pI,.slice aM pJ.length zN,.bool pP] 99 0 true)],BP] F (fun v S' F'=>F=F'∧v= .bool r∧S'= [[(iB,.row [aa pB,.slice aE pC.length zH,.int .i64 pI,.slice aM pJ.length zN,.bool pP] 99 0 true)],BP]):=by
 refine Cl.of Tryz.func140 rfl (fun _ _=>rfl) (by kernel_rfl) fun s L nx0 hS=>?_
 unfold g_18.f at h
 refine WW.seq (WW.region ?_)
 refine sg0 hS 1 [] [4] [.bool false] [] (by kernel_rfl) fun s hS=>(KW.nil ?_)
 refine WW.seq (WW.regionD (i:=[[],[],[],[],[],[],[],[],[],[8,7,6,5],[8,7,6,5],[8,7,6,5],[8,7,6,5],[8,7,6,5],[],[],[],[],[],[],[],[20,19,18,17],[20,19,18,17],[20,19,18,17],[20,19,18,17],[],[],[],[],[],[],[30],[30],[30],[30],[34,33,32,31,30],[34,33,32,31,30],[34,33,32,31,30],[34,33,32,31,30],[30],[],[],[]]) (by kernel_rfl) ?_)
 have hq:=RS.start [iB]
 refine kg hS hq 3 [7] [.pointer (some ⟨iB,4,none⟩)] (by kernel_rfl) fun s rs hS hq=>(K.ld hS hq rfl (wn rfl) rfl rfl rfl (hS.at (k:=0) rfl) tg4 (v:= .bool pP) rfl 0 rfl rfl fun s rs hS hq=>?_)
 refine kg hS hq 1 [9] [.bool pP] (by kernel_rfl) fun s rs hS hq=>(bc h (fun hc1 h=>?_) fun hc1 h=>?_)
 replace hS:=hS.kb 8 hc1 rfl
 replace hS:=hS.kb 9 hc1 rfl
 refine kg hS hq 3 [12] [.pointer (some ⟨iB,2,none⟩)] (by kernel_rfl) fun s rs hS hq=>(K.ld hS hq rfl (wt hS rfl rfl rfl rfl) rfl rfl rfl (hS.at (k:=0) rfl) tg3 (v:= .int .i64 pI) rfl 0 rfl rfl fun s rs hS hq=>?_)
 refine kg hS hq 3 [16] [.pointer (some ⟨iB,0,none⟩)] (by kernel_rfl) fun s rs hS hq=>(K.ld hS hq rfl (wt hS rfl rfl rfl rfl) rfl rfl rfl (hS.at (k:=0) rfl) tg9 (v:=aa pB) rfl 0 rfl rfl fun s rs hS hq=>?_)
 refine kg hS hq 4 [21] [.bool (decide (pI<(pB.length:Int)))] (by kernel_rfl) fun s rs hS hq=>(bc h (fun hc2 h=>?_) fun hc2 h=>?_)
 replace hS:=hS.kb 21 hc2 rfl
 refine kg hS hq 3 [24] [.pointer (some ⟨iB,1,none⟩)] (by kernel_rfl) fun s rs hS hq=>(K.ld hS hq rfl (wt hS rfl rfl rfl rfl) rfl rfl rfl (hS.at (k:=0) rfl) fL (v:= .slice aE pC.length zH) rfl 0 rfl rfl fun s rs hS hq=>?_)
 refine kg hS hq 3 [28] [.pointer (some ⟨iB,2,none⟩)] (by kernel_rfl) fun s rs hS hq=>(K.ld hS hq rfl (wt hS rfl rfl rfl rfl) rfl rfl rfl (hS.at (k:=0) rfl) tg3 (v:= .int .i64 pI) rfl 0 rfl rfl fun s rs hS hq=>?_)
 obtain⟨hk3,h⟩:=ac h
 obtain⟨i9,of10,rfl⟩:=Frz.addr hI (by omega)
 obtain⟨_,_,_,_,c4,hF11,hR5,hN6,hN7,hT8⟩:=Frz.at hI hk3 (m:=1) rfl
 obtain rfl:=hR5
 refine K.pu hS hq rfl (wt hS rfl rfl rfl rfl) rfl rfl rfl (v:= .pointer (some ⟨i9,of10+(pI).toNat*1,none⟩)) (aF (hS.lk rfl) (hS.lk rfl) dj hk3) fun s rs hS hq=>?_
 replace hq:=hq.more i9 rfl rfl rfl
 refine K.ld hS hq rfl (wt hS rfl rfl rfl rfl) rfl rfl rfl (hS.fat hF11) tg3 (v:= .int .i64 (gt pC pI)) hN6 1 rfl rfl fun s rs hS hq=>(kg hS hq 3 [34] [.bool ((gt pC pI)==0)] (by kernel_rfl) fun s rs hS hq=>?_)
 refine bc h (fun hc12 h=>?_) fun hc12 h=>?_
 replace hS:=hS.kb 34 hc12 rfl
 refine kg hS hq 4 [35,38] [.func (.func 62) #[] #[],.pointer (some ⟨iB,0,none⟩)] (by kernel_rfl) fun s rs hS hq=>(K.ld hS hq rfl (wt hS rfl rfl rfl rfl) rfl rfl rfl (hS.at (k:=0) rfl) tg9 (v:=aa pB) rfl 0 rfl rfl fun s rs hS hq=>?_)
 refine kg hS hq 3 [42] [.pointer (some ⟨iB,2,none⟩)] (by kernel_rfl) fun s rs hS hq=>(K.ld hS hq rfl (wt hS rfl rfl rfl rfl) rfl rfl rfl (hS.at (k:=0) rfl) tg3 (v:= .int .i64 pI) rfl 0 rfl rfl fun s rs hS hq=>?_)
 obtain⟨hk13,h⟩:=ac h
 refine K.pu hS hq rfl (wt hS rfl rfl rfl rfl) rfl rfl rfl (v:=vB (gt pB pI)) (au tu9 (hS.lk rfl) (hS.lk rfl) hk13) fun s rs hS hq=>?_
 obtain⟨y14,hy14,h⟩:=bind_some h
 refine K.cl hS hq rfl (wt hS rfl rfl rfl rfl) (vs:=[vB (gt pB pI)]) (ws:=[vB (gt pB pI)]) rfl rfl rfl rfl rfl 0 rfl (g_k.ok hy14)  [0,1] rfl rfl (aP rfl mm0 (nD rfl hF11 bn)) fun s rs v S' F' hp15 hF hS hq=>?_
 obtain⟨rfl,rfl,rfl⟩:=hp15
 refine kg hS hq 2 [4] [.bool y14] (by kernel_rfl) fun s rs hS hq=>(KW.nil ?_)
 refine WW.ret ?_
 cases h
 exact ax hS (.inr rfl) 4 rfl rfl ⟨rfl,rfl,rfl⟩
 replace hS:=hS.kb 34 hc12 rfl
 refine kg hS hq 13 [4] [.bool false] (by kernel_rfl) fun s rs hS hq=>(KW.nil ?_)
 refine WW.ret ?_
 cases h
 exact ax hS (.inr rfl) 4 rfl rfl ⟨rfl,rfl,rfl⟩
 replace hS:=hS.kb 21 hc2 rfl
 refine kg hS hq 26 [4] [.bool false] (by kernel_rfl) fun s rs hS hq=>(KW.nil ?_)
 refine WW.ret ?_
 cases h
 exact ax hS (.inr rfl) 4 rfl rfl ⟨rfl,rfl,rfl⟩
 replace hS:=hS.kb 8 hc1 rfl
 replace hS:=hS.kb 9 hc1 rfl
 refine kg hS hq 38 [4] [.bool false] (by kernel_rfl) fun s rs hS hq=>(KW.nil ?_)
 refine WW.ret ?_
 cases h
 exact ax hS (.inr rfl) 4 rfl rfl ⟨rfl,rfl,rfl⟩
noncomputable def g_v.b0 (pB:List UInt8) (pC:List Int) (pP:Bool) (x1:Int):Option ((Int)⊕(Int)) :=
  Option.bind (g_18.f pB pC x1 pP) fun y5=>(if y5 then some (.inl (w64 (x1+1))) else some (.inr x1))
noncomputable def g_v.f (pB:List UInt8) (pC:List Int) (pI:Int) (pP:Bool):Option (List UInt8×Int×Bool) :=
  Option.bind (iter (g_v.b0 pB pC pP) pI) fun o2=>Option.bind (g_1o.f pP (decide (o2>pI))) fun y8=>(if 0≤pI∧pI≤o2∧o2≤(pB.length:Int) then some ((mid pB pI o2),o2,y8) else none)
theorem g_v.ok {iB:Nat} {aE:Option Addr} {zH:Nat} {aM:Option Addr} {zN:Nat} {BP:Seg} {pB:List UInt8} {pC:List Int} {pI:Int} {pJ:List Int} {pP:Bool} {F:FZ} {r:List UInt8×Int×Bool} (h:g_v.f pB pC pI pP=some r) (hI:Frz (elI .i64 3) F aE zH pC) :
    Cl EV 146 [.pointer (some ⟨iB,0,none⟩)] [[(iB,.row [aa pB,.slice aE pC.length zH,.int .i64 pI,.slice aM pJ.length zN,.bool pP] 99 0 true)],BP] F (fun v S' F'=>F=F'∧v=aa r.1∧S'= [[(iB,.row [aa pB,.slice aE pC.length zH,.int .i64 r.2.1,.slice aM pJ.length zN,.bool r.2.2] 99 0 true)],BP]):=by
 refine Cl.of Tryz.func146 rfl (fun _ _=>rfl) (by kernel_rfl) fun s L nx0 hS=>?_
 unfold g_v.f at h
 refine WW.seq (WW.region ?_)
 refine sg0 hS 1 [] [2] [aa ([])] [] (by kernel_rfl) fun s hS=>(KW.nil ?_)
 refine WW.seq (WW.region ?_)
 refine sg0 hS 5 [0] [3] [.int .i64 pI] [iB] (by kernel_rfl) fun s hS=>(KW.nil ?_)
 refine WW.seq (WW.block ?_)
 obtain⟨o2,ho2,h⟩:=bind_some h
 refine WW.loop (LW.iterE ho2 (fun(x1:Int) s=>Stt EV s [(0,.pointer (some ⟨iB,0,none⟩)),(2,aa ([])),(3,.int .i64 pI)] [[(iB,.row [aa pB,.slice aE pC.length zH,.int .i64 x1,.slice aM pJ.length zN,.bool pP] 99 0 true)],BP] F L F nx0) 0 (hS.subR rfl) ?_ ?_)
 clear hS
 rintro x1 s hS o2' h4
 unfold g_v.b0 at h4
 refine WW.seq (WW.seq ?_)
 refine WW.region ?_
 obtain⟨y5,hy5,h4⟩:=bind_some h4
 refine cR (g_18.ok hy5 hI) hS 1 9 2 rfl (by kernel_rfl) fun s hS=>(KW.nil ?_)
 refine bc h4 (fun hc7 h4=>?_) fun hc7 h4=>?_
 refine WW.condK hS rfl hc7 (WW.skip ?_)
 refine WW.block (WW.region ?_)
 refine sg hS 8 [0,0] [] [] [iB,iB] [[(iB,.row [aa pB,.slice aE pC.length zH,.int .i64 (w64 (x1+1)),.slice aM pJ.length zN,.bool pP] 99 0 true)],BP] (by kernel_rfl) fun s hS=>(KW.nil ?_)
 obtain rfl:=Option.some.inj h4
 exact⟨_,rfl,(hS.subR rfl)⟩
 refine WW.condF hS rfl hc7 (WW.exit ?_)
 refine ae ?_
 obtain rfl:=Option.some.inj h4
 exact⟨_,rfl,rfl,(hS.subR rfl)⟩
 clear hS
 rintro e s ⟨rfl,hS⟩
 refine af (WW.seq ?_)
 refine WW.region (sg0 hS 7 [0] [17,23] [.pointer (some ⟨iB,0,none⟩),.bool (decide (o2>pI))] [iB] (by kernel_rfl) fun s hS=>?_)
 obtain⟨y8,hy8,h⟩:=bind_some h
 refine bu hS (wn rfl) (vs:=[.pointer (some ⟨iB,0,none⟩),.bool (decide (o2>pI))]) (ws:=[.pointer (some ⟨iB,0,none⟩),.bool (decide (o2>pI))]) rfl rfl rfl rfl rfl 2 rfl (g_1o.ok hy8) fun s v S' F' hp9 hF hS=>?_
 obtain⟨rfl,rfl,rfl⟩:=hp9
 refine KW.nil (WW.seq ?_)
 refine WW.regionD (i:=[[],[],[],[],[3,2,1,0],[4,3,2,1,0],[4,3,2,1,0],[4,3,2,1,0],[4,3,2,1,0],[],[]]) (by kernel_rfl) ?_
 have hq:=RS.start [iB]
 refine kg hS hq 3 [27] [.pointer (some ⟨iB,0,none⟩)] (by kernel_rfl) fun s rs hS hq=>(K.ld hS hq rfl (wn rfl) rfl rfl rfl (hS.at (k:=0) rfl) tg9 (v:=aa pB) rfl 0 rfl rfl fun s rs hS hq=>?_)
 refine kg hS hq 4 [29,32] [.int .i64 pI,.pointer (some ⟨iB,2,none⟩)] (by kernel_rfl) fun s rs hS hq=>(K.ld hS hq rfl (wn rfl) rfl rfl rfl (hS.at (k:=0) rfl) tg3 (v:= .int .i64 o2) rfl 0 rfl rfl fun s rs hS hq=>?_)
 obtain⟨hk10,h⟩:=ac h
 refine K.pu hS hq rfl (wn rfl) rfl rfl rfl (v:=aa (mid pB pI o2)) (cU tu9 (hS.lk rfl) (i:=pI) (j:=o2) (bF hS rfl) (bF hS rfl) hk10) fun s rs hS hq=>(kg hS hq 1 [2] [aa (mid pB pI o2)] (by kernel_rfl) fun s rs hS hq=>?_)
 refine KW.nil (WW.ret ?_)
 cases h
 exact ax hS (.inr rfl) 2 rfl rfl ⟨rfl,rfl,rfl⟩
noncomputable def g_x.f (pB:List UInt8) (pC:List Int) (pI:Int) (pP:Bool):Option (Int×Bool) :=
  Option.bind (g_1p.f pB pC pI pP) fun y1=>Option.bind (g_1n.f pB pC y1.1 y1.2) fun y3=>Option.bind (g_1y.f pB pC y3.1 y3.2 42) fun y5=>(if(!y5.1) then some (y5.2,y3.2) else Option.bind (g_12.f pB pC y5.2 y3.2) fun y8=>(if y8 then Option.bind (g_1t.f pB pC y5.2 y3.2) fun y11=>some (y11.1,y11.2) else Option.bind (g_v.f pB pC y5.2 y3.2) fun y13=>some (y13.2.1,y13.2.2)))
theorem g_x.ok {iB:Nat} {aE:Option Addr} {zH:Nat} {aM:Option Addr} {zN:Nat} {BP:Seg} {pB:List UInt8} {pC:List Int} {pI:Int} {pJ:List Int} {pP:Bool} {F:FZ} {r:Int×Bool} (h:g_x.f pB pC pI pP=some r) (hI:Frz (elI .i64 3) F aE zH pC) :
    Cl EV 110 [.pointer (some ⟨iB,0,none⟩)] [[(iB,.row [aa pB,.slice aE pC.length zH,.int .i64 pI,.slice aM pJ.length zN,.bool pP] 99 0 true)],BP] F (fun v S' F'=>F=F'∧v= .tuple #[]∧S'= [[(iB,.row [aa pB,.slice aE pC.length zH,.int .i64 r.1,.slice aM pJ.length zN,.bool r.2] 99 0 true)],BP]):=by
 refine Cl.of Tryz.func110 rfl (fun _ _=>rfl) (by kernel_rfl) fun s L nx0 hS=>?_
 unfold g_x.f at h
 refine WW.seq (WW.region ?_)
 obtain⟨y1,hy1,h⟩:=bind_some h
 refine cR (g_1p.ok hy1 hI) hS 1 3 2 rfl (by kernel_rfl) fun s hS=>(KW.nil ?_)
 refine WW.seq (WW.region ?_)
 obtain⟨y3,hy3,h⟩:=bind_some h
 refine cR (g_1n.ok hy3 hI) hS 1 5 2 rfl (by kernel_rfl) fun s hS=>(KW.nil ?_)
 refine WW.seq (WW.seq ?_)
 refine WW.region ?_
 obtain⟨y5,hy5,h⟩:=bind_some h
 refine cR (g_1y.ok hy5 hI) hS 1 7 2 rfl (by kernel_rfl) fun s hS=>(sg0 hS 1 [] [8] [.bool (!y5.1)] [] (by kernel_rfl) fun s hS=>?_)
 refine KW.nil (bc h (fun hc7 h=>?_) fun hc7 h=>?_)
 refine WW.condK hS rfl hc7 (WW.ret ?_)
 cases h
 exact aG hS (.inr rfl) rfl ⟨rfl,rfl,rfl⟩
 refine WW.condF hS rfl hc7 (WW.skip ?_)
 refine WW.seq (WW.region ?_)
 obtain⟨y8,hy8,h⟩:=bind_some h
 refine cR (g_12.ok hy8 hI) hS 1 10 2 rfl (by kernel_rfl) fun s hS=>(KW.nil ?_)
 refine bc h (fun hc10 h=>?_) fun hc10 h=>?_
 refine WW.condK hS rfl hc10 (WW.region ?_)
 obtain⟨y11,hy11,h⟩:=bind_some h
 refine cR (g_1t.ok hy11 hI) hS 1 12 2 rfl (by kernel_rfl) fun s hS=>(KW.nil ?_)
 cases h
 exact aG hS (.inl rfl) rfl ⟨rfl,rfl,rfl⟩
 refine WW.condF hS rfl hc10 (WW.region ?_)
 obtain⟨y13,hy13,h⟩:=bind_some h
 refine cR (g_v.ok hy13 hI) hS 1 14 2 rfl (by kernel_rfl) fun s hS=>(KW.nil ?_)
 cases h
 exact aG hS (.inl rfl) rfl ⟨rfl,rfl,rfl⟩
noncomputable def g_1g.b0 (pB:List UInt8) (pC:List Int) (x3:Int×Bool):Option ((Int×Bool)⊕(Int×Bool)) :=
  (if x3.2 then Option.bind (g_1y.f pB pC x3.1 x3.2 44) fun y8=>(if y8.1 then Option.bind (g_x.f pB pC y8.2 x3.2) fun y11=>some (.inl (y11.1,y11.2)) else some (.inr (y8.2,x3.2))) else some (.inr (x3.1,x3.2)))
noncomputable def g_1g.f (pB:List UInt8) (pC:List Int) (pI:Int) (pP:Bool):Option (Int×Bool) :=
  Option.bind (g_x.f pB pC pI pP) fun y1=>Option.bind (iter (g_1g.b0 pB pC) (y1.1,y1.2)) fun o4=>some (o4.1,o4.2)
theorem g_1g.ok {iB:Nat} {aE:Option Addr} {zH:Nat} {aM:Option Addr} {zN:Nat} {BP:Seg} {pB:List UInt8} {pC:List Int} {pI:Int} {pJ:List Int} {pP:Bool} {F:FZ} {r:Int×Bool} (h:g_1g.f pB pC pI pP=some r) (hI:Frz (elI .i64 3) F aE zH pC) :
    Cl EV 109 [.pointer (some ⟨iB,0,none⟩),.func (.func 110) #[.pointer (some ⟨iB,0,none⟩)] #[]] [[(iB,.row [aa pB,.slice aE pC.length zH,.int .i64 pI,.slice aM pJ.length zN,.bool pP] 99 0 true)],BP] F (fun v S' F'=>F=F'∧v= .tuple #[]∧S'= [[(iB,.row [aa pB,.slice aE pC.length zH,.int .i64 r.1,.slice aM pJ.length zN,.bool r.2] 99 0 true)],BP]):=by
 refine Cl.of Tryz.func109 rfl (fun _ _=>rfl) (by kernel_rfl) fun s L nx0 hS=>?_
 unfold g_1g.f at h
 refine WW.seq (WW.region ?_)
 obtain⟨y1,hy1,h⟩:=bind_some h
 refine cR (g_x.ok hy1 hI) hS 1 5 2 rfl (by kernel_rfl) fun s hS=>(KW.nil ?_)
 refine WW.block ?_
 obtain⟨o4,ho4,h⟩:=bind_some h
 refine WW.loop (LW.iterE ho4 (fun(x3:Int×Bool) s=>Stt EV s [(0,.pointer (some ⟨iB,0,none⟩)),(1,.func (.func 110) #[.pointer (some ⟨iB,0,none⟩)] #[])] [[(iB,.row [aa pB,.slice aE pC.length zH,.int .i64 x3.1,.slice aM pJ.length zN,.bool x3.2] 99 0 true)],BP] F L F nx0) 0 (hS.subR rfl) ?_ ?_)
 clear hS
 rintro x3 s hS o4' h6
 unfold g_1g.b0 at h6
 refine WW.seq (WW.seq ?_)
 refine WW.region (sg0 hS 5 [0] [10] [.bool x3.2] [iB] (by kernel_rfl) fun s hS=>?_)
 refine bc h6 (fun hc7 h6=>?_) fun hc7 h6=>?_
 replace hS:=hS.kb 10 hc7 rfl
 refine sg0 hS 1 [] [11] [.pointer (some ⟨iB,0,none⟩)] [] (by kernel_rfl) fun s hS=>?_
 obtain⟨y8,hy8,h6⟩:=bind_some h6
 refine bu hS (wt hS rfl rfl rfl rfl) (vs:=[.pointer (some ⟨iB,0,none⟩),vB 44]) (ws:=[.pointer (some ⟨iB,0,none⟩),vB 44]) rfl rfl rfl rfl rfl 2 rfl (g_1y.ok hy8 hI) fun s v S' F' hp9 hF hS=>?_
 obtain⟨rfl,rfl,rfl⟩:=hp9
 refine sg0 hS 1 [] [13] [.bool y8.1] [] (by kernel_rfl) fun s hS=>(KW.nil ?_)
 refine bc h6 (fun hc10 h6=>?_) fun hc10 h6=>?_
 refine WW.condK hS rfl hc10 (WW.skip ?_)
 refine WW.block (WW.region ?_)
 obtain⟨y11,hy11,h6⟩:=bind_some h6
 refine cR (g_x.ok hy11 hI) hS 1 15 2 rfl (by kernel_rfl) fun s hS=>(KW.nil ?_)
 obtain rfl:=Option.some.inj h6
 exact⟨_,rfl,(hS.subR rfl)⟩
 refine WW.condF hS rfl hc10 (WW.exit ?_)
 refine ae ?_
 obtain rfl:=Option.some.inj h6
 exact⟨_,rfl,rfl,(hS.subR rfl)⟩
 replace hS:=hS.kb 10 hc7 rfl
 refine sg0 hS 3 [] [13] [.bool false] [] (by kernel_rfl) fun s hS=>(KW.nil ?_)
 refine WW.condF hS rfl rfl (WW.exit ?_)
 refine ae ?_
 obtain rfl:=Option.some.inj h6
 exact⟨_,rfl,rfl,(hS.subR rfl)⟩
 clear hS
 rintro e s ⟨rfl,hS⟩
 refine af ?_
 cases h
 exact aG hS (.inl rfl) rfl ⟨rfl,rfl,rfl⟩
noncomputable def g_1d.f (pB:List UInt8) (pC:List Int) (pI:Int) (pP:Bool):Option (Int×Bool) :=
  Option.bind (g_v.f pB pC pI pP) fun y1=>Option.bind ((if(decide ((y1.1.length:Int)≤5)) then Option.bind (g_Trim.f y1.1 ([48])) fun y5=>some (!decide (y5= [])) else some false)) fun z3=>Option.bind (g_1o.f y1.2.2 z3) fun y7=>some (y1.2.1,y7)
theorem g_1d.ok {iB:Nat} {aE:Option Addr} {zH:Nat} {aM:Option Addr} {zN:Nat} {BP:Seg} {pB:List UInt8} {pC:List Int} {pI:Int} {pJ:List Int} {pP:Bool} {F:FZ} {r:Int×Bool} (h:g_1d.f pB pC pI pP=some r) (hI:Frz (elI .i64 3) F aE zH pC) :
    Cl EV 147 [.pointer (some ⟨iB,0,none⟩)] [[(iB,.row [aa pB,.slice aE pC.length zH,.int .i64 pI,.slice aM pJ.length zN,.bool pP] 99 0 true)],BP] F (fun v S' F'=>F=F'∧v= .tuple #[]∧S'= [[(iB,.row [aa pB,.slice aE pC.length zH,.int .i64 r.1,.slice aM pJ.length zN,.bool r.2] 99 0 true)],BP]):=by
 refine Cl.of Tryz.func147 rfl (fun _ _=>rfl) (by kernel_rfl) fun s L nx0 hS=>?_
 unfold g_1d.f at h
 refine WW.seq (WW.region ?_)
 obtain⟨y1,hy1,h⟩:=bind_some h
 refine cR (g_v.ok hy1 hI) hS 1 4 2 rfl (by kernel_rfl) fun s hS=>(sg0 hS 1 [] [2] [aa y1.1] [] (by kernel_rfl) fun s hS=>?_)
 refine KW.nil (WW.region ?_)
 refine sg0 hS 5 [] [5,9] [.pointer (some ⟨iB,0,none⟩),.bool (decide ((y1.1.length:Int)≤5))] [] (by kernel_rfl) fun s hS=>?_
 obtain⟨z3,hz3,h⟩:=bind_some h
 refine ay 4 (fun s=>Stt EV s [(13,.bool z3),(5,.pointer (some ⟨iB,0,none⟩))] [[(iB,.row [aa pB,.slice aE pC.length zH,.int .i64 y1.2.1,.slice aM pJ.length zN,.bool y1.2.2] 99 0 true)],BP] F L F nx0) ?_ fun s hS=>?_
 refine bc hz3 (fun hc4 hz3=>?_) fun hc4 hz3=>?_
 replace hS:=hS.kb 9 hc4 rfl
 refine sg0 hS 1 [] [10] [aa y1.1] [] (by kernel_rfl) fun s hS=>?_
 obtain⟨y5,hy5,hz3⟩:=bind_some hz3
 refine bu hS (wt hS rfl rfl rfl rfl) (vs:=[aa y1.1,aa ([48])]) (ws:=[aa y1.1,aa ([48])]) rfl rfl rfl rfl rfl 0 rfl (g_Trim.ok hy5) fun s v S' F' hp6 hF hS=>?_
 obtain⟨rfl,rfl,rfl⟩:=hp6
 refine aw hS (wt hS rfl rfl rfl rfl) rfl rfl rfl (v:= .bool (!decide (y5= []))) (pV (hS.lk rfl) (hS.lk rfl)) fun s hS=>(sg0 hS 1 [] [13] [.bool (!decide (y5= []))] [] (by kernel_rfl) fun s hS=>?_)
 refine KW.nil ?_
 obtain rfl:=Option.some.inj hz3
 exact hS.subR rfl
 replace hS:=hS.kb 9 hc4 rfl
 refine sg0 hS 4 [] [13] [.bool false] [] (by kernel_rfl) fun s hS=>(KW.nil ?_)
 obtain rfl:=Option.some.inj hz3
 exact hS.subR rfl
 obtain⟨y7,hy7,h⟩:=bind_some h
 refine cR (g_1o.ok hy7) hS 0 14 2 rfl (by kernel_rfl) fun s hS=>(KW.nil ?_)
 cases h
 exact aG hS (.inl rfl) rfl ⟨rfl,rfl,rfl⟩
end Go.Proofs.YtcafgoomipkljaaGreatDoorAi
