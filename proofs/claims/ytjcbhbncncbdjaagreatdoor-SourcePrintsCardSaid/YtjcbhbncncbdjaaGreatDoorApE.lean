/-
ApE, ApB, ApF
-/
import Derived.Test.YtjcbhbncncbdjaaGreatDoorApMb
import Derived.Test.YtjcbhbncncbdjaaGreatDoorProg
import Derived.KernelRfl
import Derived.Lib.AtoiAll
import Derived.Shelf.Strings.Trim
import Derived.Lib.LaidTab
import Derived.Lib.ItoaNum
import Derived.Lib.Repeat
namespace Go.Proofs.YtjcbhbncncbdjaaGreatDoorAi
open Go Go.RowKit
set_option linter.unusedVariables false
def nh (l:List UInt8) (c:UInt8):Int:=match l.findIdx? (· == c) with | some i=>(i:Int) | none=> -1
noncomputable def fh:List Value→Option Value
 | [.string s,.int .u8 n]=>some (.int .i64 (nh s.data.toList (UInt8.ofNat n.toNat)))
 | _=>none
noncomputable def cQ (args:List Value) (H:T) (nx:Nat):Option R :=
 match args,H.get 8 with
 | [.string s],some (.row [.iface 249 (.chan (some 0))] _ _ _) =>
  if s.size≤281474976710656 then
   (match Lib.atoiAll s.data.toList with
    | .ok v=>some (.tuple #[.int .i64 v,.nilIface],H,nx,[])
    | .range=>some (.tuple #[.int .i64 (Lib.atoiSat s.data.toList),.iface 235 (.chan (some 0))],H,nx,[])
    | _=>none) else none
 | _,_=>none
noncomputable def cS (args:List Value) (H:T) (nx:Nat):Option R :=
 match args with
 | [.string s,.string c]=>(match c.data.toList with
  | [b]=>if b.toNat<128∧s.size≤9223372036854775807 then some (.string ⟨(Lib.trimB s.data.toList b).toArray⟩,H,nx,[]) else none
  | _=>none)
 | _=>none
noncomputable def jN:List Value:=Lib.pow10Tab.map fun z=> .int .u64 z
open Classical in
noncomputable def cT (args:List Value) (H:T) (nx:Nat):Option R :=
 match args,H.get 6 with
 | [.int .i64 n],some (.row cs _ _ _)=>if cs=jN∧ -9223372036854775808≤n∧n≤9223372036854775807 then some (.string ⟨(Lib.itoa n).toArray⟩,H,nx,[]) else none
 | _,_=>none
noncomputable def bP (args:List Value) (H:T) (nx:Nat):Option R :=
 match args with
 | [.string s,.int .i64 c]=>if 0≤c∧c≤9223372036854775807∧s.size*c.toNat≤140737488355328 then some (.string ⟨(Lib.repeatL s.data.toList c.toNat).toArray⟩,H,nx,[]) else none
 | _=>none
noncomputable def fi (g:FuncId) (args:List Value) (H:T) (nx:Nat):Option R :=
 bif Nat.beq g 11 then(match args with | []=>some (.bool true,H,nx,[]) | _=>none) else
 bif Nat.beq g 94 then cT args H nx else bif Nat.beq g 62 then bP args H nx else
 bif Nat.beq g 146 then cQ args H nx else bif Nat.beq g 129 then cS args H nx else none
noncomputable def EV:Env:=⟨Tryz.prog,11,fun g args=>bif Nat.beq g 154 then fh args else none,fun g=>Nat.beq g 159,fun g=>bif Nat.beq g 160 then some 5 else none,fi⟩
def Gl (F:FZ):Prop:=F 8=some (.row [.iface 249 (.chan (some 0))] 0 1 false)∧F 6=some (.row jN 0 1 false)
theorem Gl.mono {F F':FZ} (h:Gl F) (hf:FLe F F'):Gl F':=⟨hf _ _ h.1,hf _ _ h.2⟩
theorem Gl.er {F:FZ} (h:Gl F):F 8=some (.row [.iface 249 (.chan (some 0))] 0 1 false):=h.1
noncomputable def g_awake.f:Option Bool:=some true
theorem g_awake.ok {F:FZ} {r:Bool} (h:g_awake.f=some r):Cl EV 11 [] [] F (fun v S' F'=>F=F'∧v= .bool r∧S'= []):=by
 obtain rfl:=Option.some.inj h
 exact(Cl.over (E:=EV) (g:=11) Tryz.func11 rfl (v:= .bool true) (fun _ _=>rfl)).mono fun v S' F' q=>⟨q.1.symm,q.2.1,q.2.2⟩
noncomputable def g_idx.f (s:List UInt8) (c:UInt8):Option Int:=some (nh s c)
theorem g_idx.ok {s:List UInt8} {c:UInt8} {F:FZ} {r:Int} (h:g_idx.f s c=some r):Cl EV 154 [aa s,vB c] [] F (fun v S' F'=>F=F'∧v= .int .i64 r∧S'= []):=by
 obtain rfl:=Option.some.inj h
 refine(Cl.ext (E:=EV) (g:=154) Tryz.func154 rfl rfl rfl rfl (v:= .int .i64 (nh s c)) ?_).mono fun v S' F' q=>⟨q.1.symm,q.2.1,q.2.2⟩
 show some (Value.int .i64 (nh s (UInt8.ofNat (c.toNat:Int).toNat)))=_
 simp
noncomputable def g_atoi.f (s:List UInt8):Option (Int×Bool) :=
 if s.length≤281474976710656 then(match Lib.atoiAll s with | .ok v=>some (v,false) | .range=>some (Lib.atoiSat s,true) | _=>none) else none
theorem g_atoi.ok {s:List UInt8} {F:FZ} {r:Int×Bool} (h:g_atoi.f s=some r) (hG:Gl F):Cl EV 146 [aa s] [] F (fun v S' F'=>F=F'∧v= .tuple #[.int .i64 r.1,errV 235 r.2]∧S'= []):=by
 obtain⟨h1,h⟩:=ac h
 intro H nx L hM
 have hget:H.get 8=some (.row [.iface 249 (.chan (some 0))] 0 1 false):=(hM.frz 8 _ hG.er).1
 refine⟨.tuple #[.int .i64 r.1,errV 235 r.2],[],F,H,nx,[],⟨0,fun n _=>?_⟩,hM,FLe.refl F,Nat.le_refl _,fun i hi=>(by cases hi),rfl,rfl,rfl⟩
 rw[show EV.P.funcs[146]? = some Tryz.f146 from Tryz.func146]
 show dH (cQ [aa s] H nx) (run EV n 146 [aa s] H nx)=_
 unfold cQ
 simp only[hget]
 rw[kz,if_pos h1]
 cases ha:Lib.atoiAll s with
 | ok v=>rw[ha] at h; obtain rfl:=Option.some.inj h; rfl
 | range=>rw[ha] at h; obtain rfl:=Option.some.inj h; rfl
 | _=>rw[ha] at h; cases h
noncomputable def g_Itoa.f (n:Int):Option (List UInt8):=if -9223372036854775808≤n∧n≤9223372036854775807 then some (Lib.itoa n) else none
theorem g_Itoa.ok {n:Int} {F:FZ} {r:List UInt8} (h:g_Itoa.f n=some r) (hG:Gl F):Cl EV 94 [.int .i64 n] [] F (fun v S' F'=>F=F'∧v=aa r∧S'= []):=by
 obtain⟨h1,h⟩:=ac h
 obtain rfl:=Option.some.inj h
 intro H nx L hM
 have hget:H.get 6=some (.row jN 0 1 false):=(hM.frz 6 _ hG.2).1
 refine⟨aa (Lib.itoa n),[],F,H,nx,[],⟨0,fun k _=>?_⟩,hM,FLe.refl F,Nat.le_refl _,fun i hi=>(by cases hi),rfl,rfl,rfl⟩
 rw[show EV.P.funcs[94]? = some Tryz.f94 from Tryz.func94]
 show dH (cT [.int .i64 n] H nx) (run EV k 94 [.int .i64 n] H nx)=_
 unfold cT
 simp only[hget]
 rw[if_pos ⟨trivial,h1.1,h1.2⟩]
 rfl
noncomputable def g_Repeat.f (s:List UInt8) (c:Int):Option (List UInt8):=if 0≤c∧c≤9223372036854775807∧s.length*c.toNat≤140737488355328 then some (Lib.repeatL s c.toNat) else none
theorem g_Repeat.ok {s:List UInt8} {c:Int} {F:FZ} {r:List UInt8} (h:g_Repeat.f s c=some r):Cl EV 62 [aa s,.int .i64 c] [] F (fun v S' F'=>F=F'∧v=aa r∧S'= []):=by
 obtain⟨h1,h⟩:=ac h
 obtain rfl:=Option.some.inj h
 refine(Cl.over (E:=EV) (g:=62) Tryz.func62 rfl (v:=aa (Lib.repeatL s c.toNat)) (fun H nx=>?_)).mono fun v S' F' q=>⟨q.1.symm,q.2.1,q.2.2⟩
 show bP [aa s,.int .i64 c] H nx=_
 unfold bP
 exact if_pos h1
noncomputable def g_Trim.f (s c:List UInt8):Option (List UInt8):=match c with | [b]=>if b.toNat<128∧s.length≤9223372036854775807 then some (Lib.trimB s b) else none | _=>none
theorem g_Trim.ok {s c:List UInt8} {F:FZ} {r:List UInt8} (h:g_Trim.f s c=some r):Cl EV 129 [aa s,aa c] [] F (fun v S' F'=>F=F'∧v=aa r∧S'= []):=by
 unfold g_Trim.f at h
 split at h
 ·next b =>
  obtain⟨h1,h⟩:=ac h
  obtain rfl:=Option.some.inj h
  refine(Cl.over (E:=EV) (g:=129) Tryz.func129 rfl (v:=aa (Lib.trimB s b)) (fun H nx=>?_)).mono fun v S' F' q=>⟨q.1.symm,q.2.1,q.2.2⟩
  show cS [aa s,aa [b]] H nx=_
  unfold cS
  exact if_pos h1
 ·cases h
theorem s3:aF EV.P (sizeOf 3)=some 1:=by kernel_rfl
theorem p0 (a b:Int):aF EV.P (part 3 #[.int .i64 a,.int .i64 b] 0)=some (.int .i64 a):=by kernel_rfl
theorem p1 (a b:Int):aF EV.P (part 3 #[.int .i64 a,.int .i64 b] 1)=some (.int .i64 b):=by kernel_rfl
end Go.Proofs.YtjcbhbncncbdjaaGreatDoorAi
namespace Go.Proofs.YtjcbhbncncbdjaaGreatDoorAi
open Go Go.RowKit
set_option linter.unusedVariables false
set_option maxRecDepth 100000
def tbB:Tab:=⟨[((153,0),(0,1,151)),((153,1),(1,1,83))],[(151,false),(83,false)],[(151,1),(83,1)],[83],[]⟩
theorem iZ:tbB.ok EV.P:=Tab.ok_of (by kernel_rfl) (by kernel_rfl) (by kernel_rfl) (by kernel_rfl) (by kernel_rfl)
theorem upB:EV.P.underlying 151=some (.pointer 153):=by kernel_rfl
theorem szB:aU EV.P 153=some 2:=by kernel_rfl
theorem bpg {op:BinOp} {t:TypeId} {x y:Operand} {i ad:Nat} {q:Option Addr}:gb EV.P op t x y (.pointer (some ⟨i,ad,none⟩)) (.pointer q)=(match op with
 | .eql=>(cW EV.P t (.pointer (some ⟨i,ad,none⟩)) (.pointer q)).map .bool
 | .neq=>(cW EV.P t (.pointer (some ⟨i,ad,none⟩)) (.pointer q)).map fun c=> .bool !c
 | _=>Option.none):=rfl
theorem bp0 {nx:Nat} {ty:TypeId} {ρ:Operand→Value} {b:Option Blk} {x:Operand} {u:TypeId} (hx:ρ x= .pointer none) (hy:ρ (.const (.pointer none))= .pointer none):ai (.binOp .eql 151 x (.const (.pointer none)) u) EV.P nx ty ρ b=some (.bool true,.none):=by
 show ar (gb EV.P .eql 151 x (.const (.pointer none)) (ρ x) (ρ (.const (.pointer none))))=_
 rw[hx,hy]
 cases x<;>kernel_rfl
theorem bp1 {nx:Nat} {ty:TypeId} {ρ:Operand→Value} {b:Option Blk} {x y:Operand} {u:TypeId} {i:Nat} (hx:ρ x= .pointer (some ⟨i,0,none⟩)) (hy:ρ y= .pointer none):ai (.binOp .eql 151 x y u) EV.P nx ty ρ b=some (.bool false,.none):=by
 show ar (gb EV.P .eql 151 x y (ρ x) (ρ y))=_
 rw[hx,hy,bpg]
 show ar ((cW EV.P 151 (.pointer (some ⟨i,0,none⟩)) (.pointer none)).map .bool)=_
 unfold cW
 rw[upB]; rfl
theorem bq1 {nx:Nat} {ty:TypeId} {ρ:Operand→Value} {b:Option Blk} {x y:Operand} {u:TypeId} {i:Nat} (hx:ρ x= .pointer (some ⟨i,0,none⟩)) (hy:ρ y= .pointer (some ⟨i,0,none⟩)):ai (.binOp .neq 151 x y u) EV.P nx ty ρ b=some (.bool false,.none):=by
 show ar (gb EV.P .neq 151 x y (ρ x) (ρ y))=_
 rw[hx,hy,bpg]
 show ar ((cW EV.P 151 (.pointer (some ⟨i,0,none⟩)) (.pointer (some ⟨i,0,none⟩))).map fun c=> .bool !c)=_
 unfold cW
 rw[upB]
 show ar ((eqP EV.P 153 (some (some ⟨i,0,none⟩)) (some (some ⟨i,0,none⟩))).map fun c=>Value.bool !c)=_
 unfold eqP
 simp only[szB,Nat.beq_refl]
 rfl
theorem bcv1 {nx:Nat} {ty:TypeId} {ρ:Operand→Value} {x:Operand} {i:Nat} {u v:Value} (hx:ρ x= .pointer (some ⟨i,0,none⟩)):ai (.convert 151 212 x) EV.P nx ty ρ (some (.row [u,v] 153 0 true))=some (.pointer (some ⟨i,0,none⟩),.none):=by
 show aZ EV.P nx 151 212 (ρ x) (some (.row [u,v] 153 0 true))=_
 rw[hx]
 kernel_rfl
theorem bcv2 {nx:Nat} {ty:TypeId} {ρ:Operand→Value} {x:Operand} {i:Nat} {u v:Value} (hx:ρ x= .pointer (some ⟨i,0,none⟩)):ai (.convert 212 151 x) EV.P nx ty ρ (some (.row [u,v] 153 0 true))=some (.pointer (some ⟨i,0,none⟩),.none):=by
 show aZ EV.P nx 212 151 (ρ x) (some (.row [u,v] 153 0 true))=_
 rw[hx]
 kernel_rfl
theorem mB {E:Env} {s:St} {kn:Kn} {S L:List Seg} {F F0:FZ} {nx0:Nat} (hS:Stt E s kn S F L F0 nx0) {t u:TypeId} {x:Operand} {i:Nat} (hx:lkO E.NG kn x=some (.pointer (some ⟨i,0,none⟩))):aq (.convert t u x) (opv E.NG s.fr)=some i:=by
 show bh (opv E.NG s.fr x)=_
 rw[hS.lk hx]; rfl
noncomputable def g_copyCheck.f (p:Bool):Option Bool:=some true
theorem g_copyCheck.ok {i:Nat} {p:Bool} {a:Option Addr} {z:Nat} {l:List UInt8} {B:Seg} {F:FZ} {r:Bool} (h:g_copyCheck.f p=some r):Cl EV 134 [.pointer (some ⟨i,0,none⟩)] [[(i,.row [oO i p,.slice a l.length z] 153 0 true)],B] F (fun v S' F'=>F=F'∧v= .tuple #[]∧S'= [[(i,.row [oO i r,.slice a l.length z] 153 0 true)],B]):=by
 obtain rfl:=Option.some.inj h
 refine Cl.of Tryz.func134 rfl (fun _ _=>rfl) (by kernel_rfl) fun s L nx0 hS=>?_
 cases p
 ·refine WW.seq (WW.region (ib iZ hS 4 [0] [5] [.pointer none] [i] (by kernel_rfl) fun s hS=>?_))
  refine aD hS (wn rfl) rfl rfl rfl (v:= .bool true) (bp0 (hS.lk rfl) rfl) fun s hS=>KW.nil ?_
  refine WW.condK hS rfl rfl ?_
  refine WW.region (ib iZ hS 2 [] [7,8] [.pointer (some ⟨i,0,none⟩),.pointer (some ⟨i,0,none⟩)] [] (by kernel_rfl) fun s hS=>?_)
  refine q_rd (i:=i) (b:= .row [.pointer none,.slice a l.length z] 153 0 true) (v:= .pointer (some ⟨i,0,none⟩)) hS (wn rfl) rfl rfl (mB hS rfl) (hS.at (k:=0) rfl) (bcv1 (hS.lk rfl)) fun s hS=>?_
  refine dQ hS (wn rfl) (vs:=[.pointer (some ⟨i,0,none⟩)]) (ws:=[.pointer (some ⟨i,0,none⟩)]) rfl rfl rfl rfl rfl 0 rfl (Cl.same (E:=EV) Tryz.func159 rfl rfl) fun s v S' F' hp hF hS=>?_
  obtain⟨rfl,rfl,rfl⟩:=hp
  refine q_rd (i:=i) (b:= .row [.pointer none,.slice a l.length z] 153 0 true) (v:= .pointer (some ⟨i,0,none⟩)) hS (wn rfl) rfl rfl (mB hS rfl) (hS.at (k:=0) rfl) (bcv2 (hS.lk rfl)) fun s hS=>?_
  refine my iZ hS 3 [0] [] [] [i] [[(i,.row [.pointer (some ⟨i,0,none⟩),.slice a l.length z] 153 0 true)],B] (by kernel_rfl) fun s hS=>KW.nil ?_
  exact fin hS (.inl rfl) (aQ (E:=EV) (s:=s)) (v:= .tuple #[]) rfl ⟨rfl,rfl,rfl⟩
 ·refine WW.seq (WW.region (ib iZ hS 4 [0] [5] [.pointer (some ⟨i,0,none⟩)] [i] (by kernel_rfl) fun s hS=>?_))
  refine aD hS (wn rfl) rfl rfl rfl (v:= .bool false) (bp1 (hS.lk rfl) rfl) fun s hS=>KW.nil ?_
  refine WW.condF hS rfl rfl (WW.seq (WW.region ?_))
  refine ib iZ hS 5 [0] [17,18] [.pointer (some ⟨i,0,none⟩),.pointer (some ⟨i,0,none⟩)] [i] (by kernel_rfl) fun s hS=>?_
  refine aD hS (wn rfl) rfl rfl rfl (v:= .bool false) (bq1 (hS.lk rfl) (hS.lk rfl)) fun s hS=>KW.nil ?_
  refine WW.condF hS rfl rfl (WW.skip ?_)
  exact fin hS (.inl rfl) (aQ (E:=EV) (s:=s)) (v:= .tuple #[]) rfl ⟨rfl,rfl,rfl⟩
theorem fb1:fieldAt EV.P 153 1=some (1,1,83):=by kernel_rfl
theorem gbB:(EV.P.underlying 83).map df=some false:=by kernel_rfl
theorem ubB:EV.P.underlying 83=some (.slice 5):=by kernel_rfl
theorem ub5:EV.P.cellsOf 5=1:=by kernel_rfl
theorem oU {nx:Nat} {ty:TypeId} {ρ:Operand→Value} {x:Operand} {ats:Array TypeId} {n z:Nat} (hx:ρ x= .slice none n z):ai (.call ⟨.builtin .unsafeSliceData,#[x],ats⟩) EV.P nx ty ρ none=some (.pointer none,.none):=by
 show bUsd EV.P ats ty [ρ x] none=_
 rw[hx]; rfl
theorem oV {nx:Nat} {ty:TypeId} {ρ:Operand→Value} {x:Operand} {ats:Array TypeId} {a:Addr} {n z:Nat} (hx:ρ x= .slice (some a) n z) (hn:1≤n):ai (.call ⟨.builtin .unsafeSliceData,#[x],ats⟩) EV.P nx ty ρ none=some (.pointer (some a),.none):=by
 show bUsd EV.P ats ty [ρ x] none=_
 rw[hx]
 show(bif Nat.ble 1 n then some (Value.pointer (some a),Eff.none) else Option.none)=_
 rw[bO (Nat.ble_eq_true_of_le hn)]
theorem aop_usN {nx:Nat} {ty:TypeId} {ρ:Operand→Value} {x y:Operand} (hx:ρ x= .pointer none) (hy:ρ y= .int .i64 0):ai (.call ⟨.builtin .unsafeString,#[x,y],#[190,3]⟩) EV.P nx ty ρ none=some (aa [],.none):=by
 show nI EV.P #[190,3] (ρ x) (ρ y) none=_
 rw[hx,hy]; rfl
theorem aop_usS {nx:Nat} {ty:TypeId} {ρ:Operand→Value} {x y:Operand} {j:Nat} {l:List UInt8} {cs ex:List Value} {F:FZ} (hx:ρ x= .pointer (some ⟨j,0,none⟩)) (hy:ρ y= .int .i64 (l.length:Int)) (hC:af (elB 5) F l cs) (h0:0<l.length) (h1:l.length<1000000000) :
  ai (.call ⟨.builtin .unsafeString,#[x,y],#[190,3]⟩) EV.P nx ty ρ (some (.row (cs++ex) 5 1 true))=some (aa l,.upd (.row (cs++ex) 5 1 false)):=by
 show nI EV.P #[190,3] (ρ x) (ρ y) (some (.row (cs++ex) 5 1 true))=_
 rw[hx,hy]
 show usP EV.P #[190,3] ⟨j,0,none⟩ (l.length:Int) (some (.row (cs++ex) 5 1 true))=_
 have hu:(#[190,3]:Array TypeId)[0]?.bind EV.P.underlying=some (.pointer 5):=by kernel_rfl
 unfold usP
 rw[hu]
 show lT EV.P 5 1 0 true (l.length:Int) (cs++ex) 5=_
 unfold lT
 have hc:(true&&Nat.beq (EV.P.cellsOf 5) 1&&EV.P.underlyingId 5==EV.P.underlyingId 5)=true:=by rw[ub5]; simp
 have hl:=hC.len
 have ht:aR (cs++ex) 0 l.length=some cs:=by
  unfold aR
  have hl':cs.length=l.length:=by rw[hl]; show l.length*1=_; omega
  rw[bO (Nat.ble_eq_true_of_le (by rw[List.length_append]; omega)),List.drop_zero,← hl',List.take_left]
 rw[hc,cond_true,if_pos ⟨by omega,by omega⟩,Int.toNat_natCast,ht]
 simp only[ed hC]
noncomputable def g_BString.f (l:List UInt8):Option (List UInt8):=if l.length<1000000000 then some l else none
theorem g_BString.ok {i:Nat} {p:Bool} {a:Option Addr} {z:Nat} {l:List UInt8} {B:Seg} {F:FZ} {r:List UInt8} (h:g_BString.f l=some r) (hO:Own (elB 5) F a z l B) (h0:l= []→a=none):Cl EV 100 [.pointer (some ⟨i,0,none⟩)] [[(i,.row [oO i p,.slice a l.length z] 153 0 true)],B] F (fun v S' F'=>F=F'∧v=aa r∧S'= []):=by
 obtain⟨hlt,h⟩:=ac h
 obtain rfl:=Option.some.inj h
 refine Cl.of Tryz.func100 rfl (fun _ _=>rfl) (by kernel_rfl) fun s L nx0 hS=>?_
 refine WW.seq (WW.region (ib iZ hS 1 [] [2] [aa []] [] (by kernel_rfl) fun s hS=>KW.nil ?_))
 refine WW.seq (WW.regionD (i:=[[],[],[],[],[],[4,3,2,1,0],[4,3,2,1,0],[4,3,2,1,0],[4,3,2,1,0],[4,3,2,1,0],[],[]]) (by kernel_rfl) ?_)
 have hq:=RS.start [i]
 refine K.pu hS hq rfl (wn rfl) rfl rfl rfl (v:= .pointer (some ⟨i,0,none⟩)) (eY (hS.lk rfl)) fun s rs hS hq=>?_
 refine K.pu hS hq rfl (wn rfl) rfl rfl rfl (v:= .pointer (some ⟨i,0,none⟩)) (fb (hS.lk rfl)) fun s rs hS hq=>?_
 refine K.pu hS hq rfl (wn rfl) rfl rfl rfl (v:= .pointer (some ⟨i,1,none⟩)) (dy (hS.lk rfl) fb1 rfl rfl) fun s rs hS hq=>?_
 refine K.ld hS hq rfl (wn rfl) rfl rfl rfl (hS.at (k:=0) rfl) gbB (v:= .slice a l.length z) rfl 0 rfl rfl fun s rs hS hq=>?_
 rcases hO with⟨rfl,rfl,rfl,rfl⟩ | ⟨j,cs,ex,rfl,rfl,rfl,hC⟩
 ·refine K.pu hS hq rfl (wn rfl) rfl rfl rfl (v:= .pointer none) (oU (hS.lk rfl)) fun s rs hS hq=>?_
  refine K.pu hS hq rfl (wn rfl) rfl rfl rfl (v:= .pointer (some ⟨i,0,none⟩)) (eY (hS.lk rfl)) fun s rs hS hq=>?_
  refine K.pu hS hq rfl (wn rfl) rfl rfl rfl (v:= .pointer (some ⟨i,0,none⟩)) (fb (hS.lk rfl)) fun s rs hS hq=>?_
  refine K.pu hS hq rfl (wn rfl) rfl rfl rfl (v:= .pointer (some ⟨i,1,none⟩)) (dy (hS.lk rfl) fb1 rfl rfl) fun s rs hS hq=>?_
  refine K.ld hS hq rfl (wn rfl) rfl rfl rfl (hS.at (k:=0) rfl) gbB (v:= .slice none 0 0) rfl 0 rfl rfl fun s rs hS hq=>?_
  refine K.pu hS hq rfl (wn rfl) rfl rfl rfl (v:= .int .i64 0) (fE rfl rfl ubB (hS.lk rfl)) fun s rs hS hq=>?_
  refine K.pu hS hq rfl (wn rfl) rfl rfl (by show(some (Operand.tmp 7)).bind (fun x=>bh (opv EV.NG s.fr x))=none; show bh (opv EV.NG s.fr (.tmp 7))=none; rw[hS.lk (x:= .tmp 7) (v:= .pointer none) rfl]; rfl) (v:=aa []) (aop_usN (hS.lk rfl) (hS.lk rfl)) fun s rs hS hq=>?_
  refine K.pu hS hq rfl (wn rfl) rfl rfl rfl (v:=aa []) (eG (hS.lk rfl)) fun s rs hS hq=>KW.nil (WW.ret ?_)
  have hres:=ak hS (t:=2) (v:=aa []) rfl (aQ (E:=EV) (s:=s))
  replace hS:=hS.drop.drop
  exact fin hS (.inr rfl) hres (v:=aa []) rfl ⟨rfl,rfl,rfl⟩
 ·have hpos:0<l.length:=by
   rcases Nat.eq_zero_or_pos l.length with q | q
   ·have:=h0 (List.eq_nil_of_length_eq_zero q); cases this
   ·exact q
  refine K.pu hS hq rfl (wn rfl) rfl rfl rfl (v:= .pointer (some ⟨j,0,none⟩)) (oV (hS.lk rfl) hpos) fun s rs hS hq=>?_
  refine K.pu hS hq rfl (wn rfl) rfl rfl rfl (v:= .pointer (some ⟨i,0,none⟩)) (eY (hS.lk rfl)) fun s rs hS hq=>?_
  refine K.pu hS hq rfl (wn rfl) rfl rfl rfl (v:= .pointer (some ⟨i,0,none⟩)) (fb (hS.lk rfl)) fun s rs hS hq=>?_
  refine K.pu hS hq rfl (wn rfl) rfl rfl rfl (v:= .pointer (some ⟨i,1,none⟩)) (dy (hS.lk rfl) fb1 rfl rfl) fun s rs hS hq=>?_
  refine K.ld hS hq rfl (wn rfl) rfl rfl rfl (hS.at (k:=0) rfl) gbB (v:= .slice (some ⟨j,0,none⟩) l.length 1) rfl 0 rfl rfl fun s rs hS hq=>?_
  refine K.pu hS hq rfl (wn rfl) rfl rfl rfl (v:= .int .i64 (l.length:Int)) (fE rfl rfl ubB (hS.lk rfl)) fun s rs hS hq=>?_
  refine K.stD (p:=1) hS hq rfl (wn rfl) rfl rfl (by show(some (Operand.tmp 7)).bind (fun x=>bh (opv EV.NG s.fr x))=some j; show bh (opv EV.NG s.fr (.tmp 7))=some j; rw[hS.lk (x:= .tmp 7) (v:= .pointer (some ⟨j,0,none⟩)) rfl]; rfl) rfl (aop_usS (hS.lk rfl) (hS.lk rfl) hC hpos hlt) [] rfl (fun j hj=>by cases hj) fun s rs hS hq=>?_
  refine K.pu hS hq rfl (wn rfl) rfl rfl rfl (v:=aa l) (eG (hS.lk rfl)) fun s rs hS hq=>KW.nil (WW.ret ?_)
  have hres:=ak hS (t:=2) (v:=aa l) rfl (aQ (E:=EV) (s:=s))
  replace hS:=hS.drop.drop
  exact fin hS (.inr rfl) hres (v:=aa l) rfl ⟨rfl,rfl,rfl⟩
end Go.Proofs.YtjcbhbncncbdjaaGreatDoorAi
namespace Go.Proofs.YtjcbhbncncbdjaaGreatDoorAi
open Go Go.RowKit
set_option linter.unusedVariables false
end Go.Proofs.YtjcbhbncncbdjaaGreatDoorAi
