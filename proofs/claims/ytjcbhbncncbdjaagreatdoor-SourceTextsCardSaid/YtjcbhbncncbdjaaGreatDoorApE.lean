/-
ApE, ApB, ApF
-/
import Derived.Test.YtjcbhbncncbdjaaGreatDoorApMb
import Derived.Test.YtjcbhbncncbdjaaGreatDoorProg
import Derived.KernelRfl
import Derived.Lib.AtoiAll
import Derived.Shelf.Strings.Trim
namespace Go.Proofs.YtjcbhbncncbdjaaGreatDoorAi
open Go Go.RowKit
set_option linter.unusedVariables false
def jO (l:List UInt8) (c:UInt8):Int:=match l.findIdx? (· == c) with | some i=>(i:Int) | none=> -1
noncomputable def gK:List Value→Option Value
 | [.string s,.int .u8 n]=>some (.int .i64 (jO s.data.toList (UInt8.ofNat n.toNat)))
 | _=>none
noncomputable def dM (args:List Value) (H:T) (nx:Nat):Option R :=
 match args,H.get 8 with
 | [.string s],some (.row [.iface 249 (.chan (some 0))] _ _ _) =>
  if s.size≤281474976710656 then
   (match Lib.atoiAll s.data.toList with
    | .ok v=>some (.tuple #[.int .i64 v,.nilIface],H,nx,[])
    | .range=>some (.tuple #[.int .i64 (Lib.atoiSat s.data.toList),.iface 235 (.chan (some 0))],H,nx,[])
    | _=>none) else none
 | _,_=>none
noncomputable def dN (args:List Value) (H:T) (nx:Nat):Option R :=
 match args with
 | [.string s,.string c]=>(match c.data.toList with
  | [b]=>if b.toNat<128∧s.size≤9223372036854775807 then some (.string ⟨(Lib.trimB s.data.toList b).toArray⟩,H,nx,[]) else none
  | _=>none)
 | _=>none
noncomputable def gL (g:FuncId) (args:List Value) (H:T) (nx:Nat):Option R :=
 bif Nat.beq g 11 then(match args with | []=>some (.bool true,H,nx,[]) | _=>none) else
 bif Nat.beq g 146 then dM args H nx else bif Nat.beq g 129 then dN args H nx else none
noncomputable def EV:Env:=⟨Tryz.prog,11,fun g args=>bif Nat.beq g 154 then gK args else none,fun g=>Nat.beq g 159,fun g=>bif Nat.beq g 160 then some 5 else none,gL⟩
def Gl (F:FZ):Prop:=F 8=some (.row [.iface 249 (.chan (some 0))] 0 1 false)
theorem Gl.mono {F F':FZ} (h:Gl F) (hf:FLe F F'):Gl F':=hf _ _ h
noncomputable def g_awake.f:Option Bool:=some true
theorem g_awake.ok {F:FZ} {r:Bool} (h:g_awake.f=some r):Cl EV 11 [] [] F (fun v S' F'=>F=F'∧v= .bool r∧S'= []):=by
 obtain rfl:=Option.some.inj h
 exact(Cl.over (E:=EV) (g:=11) Tryz.func11 rfl (v:= .bool true) (fun _ _=>rfl)).mono fun v S' F' q=>⟨q.1.symm,q.2.1,q.2.2⟩
noncomputable def g_idx.f (s:List UInt8) (c:UInt8):Option Int:=some (jO s c)
theorem g_idx.ok {s:List UInt8} {c:UInt8} {F:FZ} {r:Int} (h:g_idx.f s c=some r):Cl EV 154 [aa s,vB c] [] F (fun v S' F'=>F=F'∧v= .int .i64 r∧S'= []):=by
 obtain rfl:=Option.some.inj h
 refine(Cl.ext (E:=EV) (g:=154) Tryz.func154 rfl rfl rfl rfl (v:= .int .i64 (jO s c)) ?_).mono fun v S' F' q=>⟨q.1.symm,q.2.1,q.2.2⟩
 show some (Value.int .i64 (jO s (UInt8.ofNat (c.toNat:Int).toNat)))=_
 simp
noncomputable def g_atoi.f (s:List UInt8):Option (Int×Bool) :=
 if s.length≤281474976710656 then(match Lib.atoiAll s with | .ok v=>some (v,false) | .range=>some (Lib.atoiSat s,true) | _=>none) else none
theorem g_atoi.ok {s:List UInt8} {F:FZ} {r:Int×Bool} (h:g_atoi.f s=some r) (hG:Gl F):Cl EV 146 [aa s] [] F (fun v S' F'=>F=F'∧v= .tuple #[.int .i64 r.1,errV 235 r.2]∧S'= []):=by
 obtain⟨h1,h⟩:=ac h
 intro H nx L hM
 have hget:H.get 8=some (.row [.iface 249 (.chan (some 0))] 0 1 false):=(hM.frz 8 _ hG).1
 refine⟨.tuple #[.int .i64 r.1,errV 235 r.2],[],F,H,nx,[],⟨0,fun n _=>?_⟩,hM,FLe.refl F,Nat.le_refl _,fun i hi=>(by cases hi),rfl,rfl,rfl⟩
 rw[show EV.P.funcs[146]? = some Tryz.f146 from Tryz.func146]
 show fQ (dM [aa s] H nx) (run EV n 146 [aa s] H nx)=_
 unfold dM
 simp only[hget]
 rw[mH,if_pos h1]
 cases ha:Lib.atoiAll s with
 | ok v=>rw[ha] at h; obtain rfl:=Option.some.inj h; rfl
 | range=>rw[ha] at h; obtain rfl:=Option.some.inj h; rfl
 | _=>rw[ha] at h; cases h
noncomputable def g_Trim.f (s c:List UInt8):Option (List UInt8):=match c with | [b]=>if b.toNat<128∧s.length≤9223372036854775807 then some (Lib.trimB s b) else none | _=>none
theorem g_Trim.ok {s c:List UInt8} {F:FZ} {r:List UInt8} (h:g_Trim.f s c=some r):Cl EV 129 [aa s,aa c] [] F (fun v S' F'=>F=F'∧v=aa r∧S'= []):=by
 unfold g_Trim.f at h
 split at h
 ·next b =>
  obtain⟨h1,h⟩:=ac h
  obtain rfl:=Option.some.inj h
  refine(Cl.over (E:=EV) (g:=129) Tryz.func129 rfl (v:=aa (Lib.trimB s b)) (fun H nx=>?_)).mono fun v S' F' q=>⟨q.1.symm,q.2.1,q.2.2⟩
  show dN [aa s,aa [b]] H nx=_
  unfold dN
  exact if_pos h1
 ·cases h
set_option maxRecDepth 100000 in
theorem eq3 (d:Nat) (a c:Int):aO EV.P (Op.equalIn (d+1) 3 (.int .i64 a) (.int .i64 c))=some (a==c):=by
 rw[Op.equalIn,bF (a:= .int .i64) (by kernel_rfl)]
 rfl
theorem s3:aO EV.P (sizeOf 3)=some 1:=by kernel_rfl
theorem p0 (a b:Int):aO EV.P (part 3 #[.int .i64 a,.int .i64 b] 0)=some (.int .i64 a):=by kernel_rfl
theorem p1 (a b:Int):aO EV.P (part 3 #[.int .i64 a,.int .i64 b] 1)=some (.int .i64 b):=by kernel_rfl
end Go.Proofs.YtjcbhbncncbdjaaGreatDoorAi
namespace Go.Proofs.YtjcbhbncncbdjaaGreatDoorAi
open Go Go.RowKit
set_option linter.unusedVariables false
set_option maxRecDepth 100000
def tbB:Tab:=⟨[((153,0),(0,1,151)),((153,1),(1,1,83))],[(151,false),(83,false)],[(151,1),(83,1)],[83],[]⟩
theorem kU:tbB.ok EV.P:=Tab.ok_of (by kernel_rfl) (by kernel_rfl) (by kernel_rfl) (by kernel_rfl) (by kernel_rfl)
theorem upB:EV.P.underlying 151=some (.pointer 153):=by kernel_rfl
theorem szB:bi EV.P 153=some 2:=by kernel_rfl
theorem bpg {op:BinOp} {t:TypeId} {x y:Operand} {i ad:Nat} {q:Option Addr}:iG EV.P op t x y (.pointer (some ⟨i,ad,none⟩)) (.pointer q)=(match op with
 | .eql=>(dQ EV.P t (.pointer (some ⟨i,ad,none⟩)) (.pointer q)).map .bool
 | .neq=>(dQ EV.P t (.pointer (some ⟨i,ad,none⟩)) (.pointer q)).map fun c=> .bool !c
 | _=>Option.none):=rfl
theorem bp0 {nx:Nat} {ty:TypeId} {ρ:Operand→Value} {b:Option Blk} {x:Operand} {u:TypeId} (hx:ρ x= .pointer none) (hy:ρ (.const (.pointer none))= .pointer none):al (.binOp .eql 151 x (.const (.pointer none)) u) EV.P nx ty ρ b=some (.bool true,.none):=by
 show az (iG EV.P .eql 151 x (.const (.pointer none)) (ρ x) (ρ (.const (.pointer none))))=_
 rw[hx,hy]
 cases x<;>kernel_rfl
theorem bp1 {nx:Nat} {ty:TypeId} {ρ:Operand→Value} {b:Option Blk} {x y:Operand} {u:TypeId} {i:Nat} (hx:ρ x= .pointer (some ⟨i,0,none⟩)) (hy:ρ y= .pointer none):al (.binOp .eql 151 x y u) EV.P nx ty ρ b=some (.bool false,.none):=by
 show az (iG EV.P .eql 151 x y (ρ x) (ρ y))=_
 rw[hx,hy,bpg]
 show az ((dQ EV.P 151 (.pointer (some ⟨i,0,none⟩)) (.pointer none)).map .bool)=_
 unfold dQ
 rw[upB]; rfl
theorem bq1 {nx:Nat} {ty:TypeId} {ρ:Operand→Value} {b:Option Blk} {x y:Operand} {u:TypeId} {i:Nat} (hx:ρ x= .pointer (some ⟨i,0,none⟩)) (hy:ρ y= .pointer (some ⟨i,0,none⟩)):al (.binOp .neq 151 x y u) EV.P nx ty ρ b=some (.bool false,.none):=by
 show az (iG EV.P .neq 151 x y (ρ x) (ρ y))=_
 rw[hx,hy,bpg]
 show az ((dQ EV.P 151 (.pointer (some ⟨i,0,none⟩)) (.pointer (some ⟨i,0,none⟩))).map fun c=> .bool !c)=_
 unfold dQ
 rw[upB]
 show az ((eqP EV.P 153 (some (some ⟨i,0,none⟩)) (some (some ⟨i,0,none⟩))).map fun c=>Value.bool !c)=_
 unfold eqP
 simp only[szB,Nat.beq_refl]
 rfl
theorem bcv1 {nx:Nat} {ty:TypeId} {ρ:Operand→Value} {x:Operand} {i:Nat} {u v:Value} (hx:ρ x= .pointer (some ⟨i,0,none⟩)):al (.convert 151 212 x) EV.P nx ty ρ (some (.row [u,v] 153 0 true))=some (.pointer (some ⟨i,0,none⟩),.none):=by
 show cb EV.P nx 151 212 (ρ x) (some (.row [u,v] 153 0 true))=_
 rw[hx]
 kernel_rfl
theorem bcv2 {nx:Nat} {ty:TypeId} {ρ:Operand→Value} {x:Operand} {i:Nat} {u v:Value} (hx:ρ x= .pointer (some ⟨i,0,none⟩)):al (.convert 212 151 x) EV.P nx ty ρ (some (.row [u,v] 153 0 true))=some (.pointer (some ⟨i,0,none⟩),.none):=by
 show cb EV.P nx 212 151 (ρ x) (some (.row [u,v] 153 0 true))=_
 rw[hx]
 kernel_rfl
theorem oX {E:Env} {s:St} {kn:Kn} {S L:List Seg} {F F0:FZ} {nx0:Nat} (hS:Stt E s kn S F L F0 nx0) {t u:TypeId} {x:Operand} {i:Nat} (hx:lkO E.NG kn x=some (.pointer (some ⟨i,0,none⟩))):aG (.convert t u x) (opv E.NG s.fr)=some i:=by
 show bO (opv E.NG s.fr x)=_
 rw[hS.lk hx]; rfl
noncomputable def g_copyCheck.f (p:Bool):Option Bool:=some true
theorem g_copyCheck.ok {i:Nat} {p:Bool} {a:Option Addr} {z:Nat} {l:List UInt8} {B:Seg} {F:FZ} {r:Bool} (h:g_copyCheck.f p=some r):Cl EV 134 [.pointer (some ⟨i,0,none⟩)] [[(i,.row [ir i p,.slice a l.length z] 153 0 true)],B] F (fun v S' F'=>F=F'∧v= .tuple #[]∧S'= [[(i,.row [ir i r,.slice a l.length z] 153 0 true)],B]):=by
 obtain rfl:=Option.some.inj h
 refine Cl.of Tryz.func134 rfl (fun _ _=>rfl) (by kernel_rfl) fun s L nx0 hS=>?_
 cases p
 ·refine WW.seq (WW.region (jM kU hS 4 [0] [5] [.pointer none] [i] (by kernel_rfl) fun s hS=>?_))
  refine am hS (wn rfl) rfl rfl rfl (v:= .bool true) (bp0 (hS.lk rfl) rfl) fun s hS=>KW.nil ?_
  refine WW.condK hS rfl rfl ?_
  refine WW.region (jM kU hS 2 [] [7,8] [.pointer (some ⟨i,0,none⟩),.pointer (some ⟨i,0,none⟩)] [] (by kernel_rfl) fun s hS=>?_)
  refine q_rd (i:=i) (b:= .row [.pointer none,.slice a l.length z] 153 0 true) (v:= .pointer (some ⟨i,0,none⟩)) hS (wn rfl) rfl rfl (oX hS rfl) (hS.at (k:=0) rfl) (bcv1 (hS.lk rfl)) fun s hS=>?_
  refine bE hS (wn rfl) (vs:=[.pointer (some ⟨i,0,none⟩)]) (ws:=[.pointer (some ⟨i,0,none⟩)]) rfl rfl rfl rfl rfl 0 rfl (Cl.same (E:=EV) Tryz.func159 rfl rfl) fun s v S' F' hp hF hS=>?_
  obtain⟨rfl,rfl,rfl⟩:=hp
  refine q_rd (i:=i) (b:= .row [.pointer none,.slice a l.length z] 153 0 true) (v:= .pointer (some ⟨i,0,none⟩)) hS (wn rfl) rfl rfl (oX hS rfl) (hS.at (k:=0) rfl) (bcv2 (hS.lk rfl)) fun s hS=>?_
  refine oT kU hS 3 [0] [] [] [i] [[(i,.row [.pointer (some ⟨i,0,none⟩),.slice a l.length z] 153 0 true)],B] (by kernel_rfl) fun s hS=>KW.nil ?_
  exact fin hS (.inl rfl) (aw (E:=EV) (s:=s)) (v:= .tuple #[]) rfl ⟨rfl,rfl,rfl⟩
 ·refine WW.seq (WW.region (jM kU hS 4 [0] [5] [.pointer (some ⟨i,0,none⟩)] [i] (by kernel_rfl) fun s hS=>?_))
  refine am hS (wn rfl) rfl rfl rfl (v:= .bool false) (bp1 (hS.lk rfl) rfl) fun s hS=>KW.nil ?_
  refine WW.condF hS rfl rfl (WW.seq (WW.region ?_))
  refine jM kU hS 5 [0] [17,18] [.pointer (some ⟨i,0,none⟩),.pointer (some ⟨i,0,none⟩)] [i] (by kernel_rfl) fun s hS=>?_
  refine am hS (wn rfl) rfl rfl rfl (v:= .bool false) (bq1 (hS.lk rfl) (hS.lk rfl)) fun s hS=>KW.nil ?_
  refine WW.condF hS rfl rfl (WW.skip ?_)
  exact fin hS (.inl rfl) (aw (E:=EV) (s:=s)) (v:= .tuple #[]) rfl ⟨rfl,rfl,rfl⟩
theorem fb1:fieldAt EV.P 153 1=some (1,1,83):=by kernel_rfl
theorem gbB:(EV.P.underlying 83).map bZ=some false:=by kernel_rfl
theorem ubB:EV.P.underlying 83=some (.slice 5):=by kernel_rfl
theorem ub5:EV.P.cellsOf 5=1:=by kernel_rfl
theorem rM {nx:Nat} {ty:TypeId} {ρ:Operand→Value} {x:Operand} {ats:Array TypeId} {n z:Nat} (hx:ρ x= .slice none n z):al (.call ⟨.builtin .unsafeSliceData,#[x],ats⟩) EV.P nx ty ρ none=some (.pointer none,.none):=by
 show bUsd EV.P ats ty [ρ x] none=_
 rw[hx]; rfl
theorem rN {nx:Nat} {ty:TypeId} {ρ:Operand→Value} {x:Operand} {ats:Array TypeId} {a:Addr} {n z:Nat} (hx:ρ x= .slice (some a) n z) (hn:1≤n):al (.call ⟨.builtin .unsafeSliceData,#[x],ats⟩) EV.P nx ty ρ none=some (.pointer (some a),.none):=by
 show bUsd EV.P ats ty [ρ x] none=_
 rw[hx]
 show(bif Nat.ble 1 n then some (Value.pointer (some a),Eff.none) else Option.none)=_
 rw[bM (Nat.ble_eq_true_of_le hn)]
theorem aop_usN {nx:Nat} {ty:TypeId} {ρ:Operand→Value} {x y:Operand} (hx:ρ x= .pointer none) (hy:ρ y= .int .i64 0):al (.call ⟨.builtin .unsafeString,#[x,y],#[190,3]⟩) EV.P nx ty ρ none=some (aa [],.none):=by
 show qG EV.P #[190,3] (ρ x) (ρ y) none=_
 rw[hx,hy]; rfl
theorem aop_usS {nx:Nat} {ty:TypeId} {ρ:Operand→Value} {x y:Operand} {j:Nat} {l:List UInt8} {cs ex:List Value} {F:FZ} (hx:ρ x= .pointer (some ⟨j,0,none⟩)) (hy:ρ y= .int .i64 (l.length:Int)) (hC:au (elB 5) F l cs) (h0:0<l.length) (h1:l.length<1000000000) :
  al (.call ⟨.builtin .unsafeString,#[x,y],#[190,3]⟩) EV.P nx ty ρ (some (.row (cs++ex) 5 1 true))=some (aa l,.upd (.row (cs++ex) 5 1 false)):=by
 show qG EV.P #[190,3] (ρ x) (ρ y) (some (.row (cs++ex) 5 1 true))=_
 rw[hx,hy]
 show usP EV.P #[190,3] ⟨j,0,none⟩ (l.length:Int) (some (.row (cs++ex) 5 1 true))=_
 have hu:(#[190,3]:Array TypeId)[0]?.bind EV.P.underlying=some (.pointer 5):=by kernel_rfl
 unfold usP
 rw[hu]
 show oh EV.P 5 1 0 true (l.length:Int) (cs++ex) 5=_
 unfold oh
 have hc:(true&&Nat.beq (EV.P.cellsOf 5) 1&&EV.P.underlyingId 5==EV.P.underlyingId 5)=true:=by rw[ub5]; simp
 have hl:=hC.len
 have ht:bB (cs++ex) 0 l.length=some cs:=by
  unfold bB
  have hl':cs.length=l.length:=by rw[hl]; show l.length*1=_; omega
  rw[bM (Nat.ble_eq_true_of_le (by rw[List.length_append]; omega)),List.drop_zero,← hl',List.take_left]
 rw[hc,cond_true,if_pos ⟨by omega,by omega⟩,Int.toNat_natCast,ht]
 simp only[fC hC]
noncomputable def g_BString.f (l:List UInt8):Option (List UInt8):=if l.length<1000000000 then some l else none
theorem g_BString.ok {i:Nat} {p:Bool} {a:Option Addr} {z:Nat} {l:List UInt8} {B:Seg} {F:FZ} {r:List UInt8} (h:g_BString.f l=some r) (hO:Own (elB 5) F a z l B) (h0:l= []→a=none):Cl EV 100 [.pointer (some ⟨i,0,none⟩)] [[(i,.row [ir i p,.slice a l.length z] 153 0 true)],B] F (fun v S' F'=>F=F'∧v=aa r∧S'= []):=by
 obtain⟨hlt,h⟩:=ac h
 obtain rfl:=Option.some.inj h
 refine Cl.of Tryz.func100 rfl (fun _ _=>rfl) (by kernel_rfl) fun s L nx0 hS=>?_
 refine WW.seq (WW.region (jM kU hS 1 [] [2] [aa []] [] (by kernel_rfl) fun s hS=>KW.nil ?_))
 refine WW.seq (WW.regionD (i:=[[],[],[],[],[],[4,3,2,1,0],[4,3,2,1,0],[4,3,2,1,0],[4,3,2,1,0],[4,3,2,1,0],[],[]]) (by kernel_rfl) ?_)
 have hq:=RS.start [i]
 refine K.pu hS hq rfl (wn rfl) rfl rfl rfl (v:= .pointer (some ⟨i,0,none⟩)) (eP (hS.lk rfl)) fun s rs hS hq=>?_
 refine K.pu hS hq rfl (wn rfl) rfl rfl rfl (v:= .pointer (some ⟨i,0,none⟩)) (gE (hS.lk rfl)) fun s rs hS hq=>?_
 refine K.pu hS hq rfl (wn rfl) rfl rfl rfl (v:= .pointer (some ⟨i,1,none⟩)) (cn (hS.lk rfl) fb1 rfl rfl) fun s rs hS hq=>?_
 refine K.ld hS hq rfl (wn rfl) rfl rfl rfl (hS.at (k:=0) rfl) gbB (v:= .slice a l.length z) rfl 0 rfl rfl fun s rs hS hq=>?_
 rcases hO with⟨rfl,rfl,rfl,rfl⟩ | ⟨j,cs,ex,rfl,rfl,rfl,hC⟩
 ·refine K.pu hS hq rfl (wn rfl) rfl rfl rfl (v:= .pointer none) (rM (hS.lk rfl)) fun s rs hS hq=>?_
  refine K.pu hS hq rfl (wn rfl) rfl rfl rfl (v:= .pointer (some ⟨i,0,none⟩)) (eP (hS.lk rfl)) fun s rs hS hq=>?_
  refine K.pu hS hq rfl (wn rfl) rfl rfl rfl (v:= .pointer (some ⟨i,0,none⟩)) (gE (hS.lk rfl)) fun s rs hS hq=>?_
  refine K.pu hS hq rfl (wn rfl) rfl rfl rfl (v:= .pointer (some ⟨i,1,none⟩)) (cn (hS.lk rfl) fb1 rfl rfl) fun s rs hS hq=>?_
  refine K.ld hS hq rfl (wn rfl) rfl rfl rfl (hS.at (k:=0) rfl) gbB (v:= .slice none 0 0) rfl 0 rfl rfl fun s rs hS hq=>?_
  refine K.pu hS hq rfl (wn rfl) rfl rfl rfl (v:= .int .i64 0) (ib rfl rfl ubB (hS.lk rfl)) fun s rs hS hq=>?_
  refine K.pu hS hq rfl (wn rfl) rfl rfl (by show(some (Operand.tmp 7)).bind (fun x=>bO (opv EV.NG s.fr x))=none; show bO (opv EV.NG s.fr (.tmp 7))=none; rw[hS.lk (x:= .tmp 7) (v:= .pointer none) rfl]; rfl) (v:=aa []) (aop_usN (hS.lk rfl) (hS.lk rfl)) fun s rs hS hq=>?_
  refine K.pu hS hq rfl (wn rfl) rfl rfl rfl (v:=aa []) (f3 (hS.lk rfl)) fun s rs hS hq=>KW.nil (WW.ret ?_)
  have hres:=aM hS (t:=2) (v:=aa []) rfl (aw (E:=EV) (s:=s))
  replace hS:=hS.drop.drop
  exact fin hS (.inr rfl) hres (v:=aa []) rfl ⟨rfl,rfl,rfl⟩
 ·have hpos:0<l.length:=by
   rcases Nat.eq_zero_or_pos l.length with q | q
   ·have:=h0 (List.eq_nil_of_length_eq_zero q); cases this
   ·exact q
  refine K.pu hS hq rfl (wn rfl) rfl rfl rfl (v:= .pointer (some ⟨j,0,none⟩)) (rN (hS.lk rfl) hpos) fun s rs hS hq=>?_
  refine K.pu hS hq rfl (wn rfl) rfl rfl rfl (v:= .pointer (some ⟨i,0,none⟩)) (eP (hS.lk rfl)) fun s rs hS hq=>?_
  refine K.pu hS hq rfl (wn rfl) rfl rfl rfl (v:= .pointer (some ⟨i,0,none⟩)) (gE (hS.lk rfl)) fun s rs hS hq=>?_
  refine K.pu hS hq rfl (wn rfl) rfl rfl rfl (v:= .pointer (some ⟨i,1,none⟩)) (cn (hS.lk rfl) fb1 rfl rfl) fun s rs hS hq=>?_
  refine K.ld hS hq rfl (wn rfl) rfl rfl rfl (hS.at (k:=0) rfl) gbB (v:= .slice (some ⟨j,0,none⟩) l.length 1) rfl 0 rfl rfl fun s rs hS hq=>?_
  refine K.pu hS hq rfl (wn rfl) rfl rfl rfl (v:= .int .i64 (l.length:Int)) (ib rfl rfl ubB (hS.lk rfl)) fun s rs hS hq=>?_
  refine K.stD (p:=1) hS hq rfl (wn rfl) rfl rfl (by show(some (Operand.tmp 7)).bind (fun x=>bO (opv EV.NG s.fr x))=some j; show bO (opv EV.NG s.fr (.tmp 7))=some j; rw[hS.lk (x:= .tmp 7) (v:= .pointer (some ⟨j,0,none⟩)) rfl]; rfl) rfl (aop_usS (hS.lk rfl) (hS.lk rfl) hC hpos hlt) [] rfl (fun j hj=>by cases hj) fun s rs hS hq=>?_
  refine K.pu hS hq rfl (wn rfl) rfl rfl rfl (v:=aa l) (f3 (hS.lk rfl)) fun s rs hS hq=>KW.nil (WW.ret ?_)
  have hres:=aM hS (t:=2) (v:=aa l) rfl (aw (E:=EV) (s:=s))
  replace hS:=hS.drop.drop
  exact fin hS (.inr rfl) hres (v:=aa l) rfl ⟨rfl,rfl,rfl⟩
end Go.Proofs.YtjcbhbncncbdjaaGreatDoorAi
namespace Go.Proofs.YtjcbhbncncbdjaaGreatDoorAi
open Go Go.RowKit
set_option linter.unusedVariables false
theorem u58:aO EV.P (underlying 58)=some (.struct #[⟨ "Text",3,0,false, "", "",0⟩,⟨ "Line",3,1,false, "", "",8⟩,⟨ "Column",3,2,false, "", "",16⟩]):=by kernel_rfl
theorem st58:(EV.P.stoodInHeld 58)=false:=by kernel_rfl
theorem p30 (a b c:Int):aO EV.P (part 3 #[.int .i64 a,.int .i64 b,.int .i64 c] 0)=some (.int .i64 a):=by kernel_rfl
theorem p31 (a b c:Int):aO EV.P (part 3 #[.int .i64 a,.int .i64 b,.int .i64 c] 1)=some (.int .i64 b):=by kernel_rfl
theorem p32 (a b c:Int):aO EV.P (part 3 #[.int .i64 a,.int .i64 b,.int .i64 c] 2)=some (.int .i64 c):=by kernel_rfl
theorem pr_prog:aO EV.P program=some EV.P:=by rfl
set_option maxRecDepth 100000 in
theorem eq58 (d:Nat) (a b c x y z:Int):aO EV.P (Op.equalIn (d+2) 58 (.agg #[.int .i64 a,.int .i64 b,.int .i64 c]) (.agg #[.int .i64 x,.int .i64 y,.int .i64 z]))=some ((a==x)&&((b==y)&&(c==z))):=by
 rw[Op.equalIn,bF u58]
 simp only[]
 rw[bF pr_prog,st58]
 simp only[Bool.false_eq_true,if_false]
 simp
 rw[bF (p30 a b c),bF (p30 x y z),bF (eq3 d a x)]
 cases(a==x)
 ·rfl
 ·simp only[Bool.true_eq_false,if_false,pure_bind,bind_assoc,Bool.true_and]
  rw[bF (p31 a b c),bF (p31 x y z),bF (eq3 d b y)]
  cases(b==y)
  ·rfl
  ·simp only[Bool.true_eq_false,if_false,pure_bind,bind_assoc,Bool.true_and]
   rw[bF (p32 a b c),bF (p32 x y z),bF (eq3 d c z)]
   cases(c==z)<;>rfl
set_option maxRecDepth 100000 in
theorem ta58 {nx:Nat} {ty:TypeId} {ρ:Operand→Value} {bl:Option Blk} {v w:Operand} {u:TypeId} {a b c x y z:Int} (hx:ρ v= .agg #[.int .i64 a,.int .i64 b,.int .i64 c]) (hy:ρ w= .agg #[.int .i64 x,.int .i64 y,.int .i64 z]):al (.binOp .neq 58 v w u) EV.P nx ty ρ bl=some (.bool (!((a==x)&&(b==y)&&(c==z))),.none):=by
 show az (iG EV.P .neq 58 v w (ρ v) (ρ w))=_
 rw[hx,hy]
 show az (bm (aO EV.P (eqGuard .neq 58 v w (.agg #[.int .i64 a,.int .i64 b,.int .i64 c]) (.agg #[.int .i64 x,.int .i64 y,.int .i64 z]) >>= fun _=>binOp .neq 58 (.agg #[.int .i64 a,.int .i64 b,.int .i64 c]) (.agg #[.int .i64 x,.int .i64 y,.int .i64 z]))))=_
 rw[bF (a:=()) (by kernel_rfl)]
 show az (bm (aO EV.P (Op.equalIn (9998+2) 58 (.agg #[.int .i64 a,.int .i64 b,.int .i64 c]) (.agg #[.int .i64 x,.int .i64 y,.int .i64 z]) >>= fun q=>pure (.bool !q))))=_
 rw[bF (eq58 9998 a b c x y z),Bool.and_assoc]
 rfl
end Go.Proofs.YtjcbhbncncbdjaaGreatDoorAi
