/-
ApE, ApB
-/
import Derived.Test.YtcafgoomipkljaaGreatDoorApMb
import Derived.Test.YtcafgoomipkljaaGreatDoorProg
import Derived.KernelRfl
import Derived.Lib.AtoiAll
import Derived.Shelf.Strings.Trim
namespace Go.Proofs.YtcafgoomipkljaaGreatDoorAi
open Go Go.RowKit
set_option linter.unusedVariables false
def jo (l:List UInt8) (c:UInt8):Int:=match l.findIdx? (· == c) with | some i=>(i:Int) | none=> -1
noncomputable def jv:List Value→Option Value
 | [.string s,.int .u8 n]=>some (.int .i64 (jo s.data.toList (UInt8.ofNat n.toNat)))
 | _=>none
noncomputable def dR (args:List Value) (H:T) (nx:Nat):Option R :=
 match args,H.get 2 with
 | [.string s],some (.row [.iface 172 (.chan (some 0))] _ _ _) =>
  if s.size≤281474976710656 then
   (match Lib.atoiAll s.data.toList with
    | .ok v=>some (.tuple #[.int .i64 v,.nilIface],H,nx,[])
    | .range=>some (.tuple #[.int .i64 (Lib.atoiSat s.data.toList),.iface 157 (.chan (some 0))],H,nx,[])
    | _=>none) else none
 | _,_=>none
noncomputable def dS (args:List Value) (H:T) (nx:Nat):Option R :=
 match args with
 | [.string s,.string c]=>(match c.data.toList with
  | [b]=>if b.toNat<128∧s.size≤9223372036854775807 then some (.string ⟨(Lib.trimB s.data.toList b).toArray⟩,H,nx,[]) else none
  | _=>none)
 | _=>none
noncomputable def g0 (g:FuncId) (args:List Value) (H:T) (nx:Nat):Option R :=
 bif Nat.beq g 158 then dR args H nx else bif Nat.beq g 165 then dS args H nx else none
noncomputable def EV:Env:=⟨Tryz.prog,8,fun g args=>bif Nat.beq g 139 then jv args else none,fun g=>Nat.beq g 102,fun _=>none,g0⟩
def Gl (F:FZ):Prop:=F 2=some (.row [.iface 172 (.chan (some 0))] 0 1 false)
theorem Gl.mono {F F':FZ} (h:Gl F) (hf:FLe F F'):Gl F':=hf _ _ h
noncomputable def g_idx.f (s:List UInt8) (c:UInt8):Option Int:=some (jo s c)
theorem g_idx.ok {s:List UInt8} {c:UInt8} {F:FZ} {r:Int} (h:g_idx.f s c=some r):Cl EV 139 [aa s,vB c] [] F (fun v S' F'=>F=F'∧v= .int .i64 r∧S'= []):=by
 obtain rfl:=Option.some.inj h
 refine(Cl.ext (E:=EV) (g:=139) Tryz.func139 rfl rfl rfl rfl (v:= .int .i64 (jo s c)) ?_).mono fun v S' F' q=>⟨q.1.symm,q.2.1,q.2.2⟩
 show some (Value.int .i64 (jo s (UInt8.ofNat (c.toNat:Int).toNat)))=_
 simp
noncomputable def g_atoi.f (s:List UInt8):Option (Int×Bool) :=
 if s.length≤281474976710656 then(match Lib.atoiAll s with | .ok v=>some (v,false) | .range=>some (Lib.atoiSat s,true) | _=>none) else none
theorem g_atoi.ok {s:List UInt8} {F:FZ} {r:Int×Bool} (h:g_atoi.f s=some r) (hG:Gl F):Cl EV 158 [aa s] [] F (fun v S' F'=>F=F'∧v= .tuple #[.int .i64 r.1,sO 157 r.2]∧S'= []):=by
 obtain⟨h1,h⟩:=ac h
 intro H nx L hM
 have hget:H.get 2=some (.row [.iface 172 (.chan (some 0))] 0 1 false):=(hM.frz 2 _ hG).1
 refine⟨.tuple #[.int .i64 r.1,sO 157 r.2],[],F,H,nx,[],⟨0,fun n _=>?_⟩,hM,FLe.refl F,Nat.le_refl _,fun i hi=>(by cases hi),rfl,rfl,rfl⟩
 rw[show EV.P.funcs[158]? = some Tryz.f158 from Tryz.func158]
 show ga (dR [aa s] H nx) (run EV n 158 [aa s] H nx)=_
 unfold dR
 simp only[hget]
 rw[nC,if_pos h1]
 cases ha:Lib.atoiAll s with
 | ok v=>rw[ha] at h; obtain rfl:=Option.some.inj h; rfl
 | range=>rw[ha] at h; obtain rfl:=Option.some.inj h; rfl
 | _=>rw[ha] at h; cases h
noncomputable def g_Trim.f (s c:List UInt8):Option (List UInt8):=match c with | [b]=>if b.toNat<128∧s.length≤9223372036854775807 then some (Lib.trimB s b) else none | _=>none
theorem g_Trim.ok {s c:List UInt8} {F:FZ} {r:List UInt8} (h:g_Trim.f s c=some r):Cl EV 165 [aa s,aa c] [] F (fun v S' F'=>F=F'∧v=aa r∧S'= []):=by
 unfold g_Trim.f at h
 split at h
 ·next b =>
  obtain⟨h1,h⟩:=ac h
  obtain rfl:=Option.some.inj h
  refine(Cl.over (E:=EV) (g:=165) Tryz.func165 rfl (v:=aa (Lib.trimB s b)) (fun H nx=>?_)).mono fun v S' F' q=>⟨q.1.symm,q.2.1,q.2.2⟩
  show dS [aa s,aa [b]] H nx=_
  unfold dS
  exact if_pos h1
 ·cases h
set_option maxRecDepth 100000 in
theorem eq3 (d:Nat) (a c:Int):aD EV.P (Op.equalIn (d+1) 3 (.int .i64 a) (.int .i64 c))=some (a==c):=by
 rw[Op.equalIn,bw (a:= .int .i64) (by kernel_rfl)]
 rfl
theorem u34:aD EV.P (underlying 50)=some (.array 2 3):=by kernel_rfl
theorem s3:aD EV.P (sizeOf 3)=some 1:=by kernel_rfl
theorem p0 (a b:Int):aD EV.P (part 3 #[.int .i64 a,.int .i64 b] 0)=some (.int .i64 a):=by kernel_rfl
theorem p1 (a b:Int):aD EV.P (part 3 #[.int .i64 a,.int .i64 b] 1)=some (.int .i64 b):=by kernel_rfl
set_option maxRecDepth 100000 in
theorem eq34 (d:Nat) (a b c e:Int):aD EV.P (Op.equalIn (d+2) 50 (.agg #[.int .i64 a,.int .i64 b]) (.agg #[.int .i64 c,.int .i64 e]))=some ((a==c)&&(b==e)):=by
 rw[Op.equalIn,bw u34]
 simp only[]
 rw[bw s3]
 simp only[Std.Legacy.Range.forIn_eq_forIn_range',Std.Legacy.Range.size,Nat.sub_zero,Nat.add_sub_cancel,Nat.div_one,List.range',List.forIn_cons,List.forIn_nil,Nat.zero_mul,Nat.zero_add,Nat.one_mul]
 rw[bind_assoc]
 refine(bw (a:=if(!(a==c))=true then ForInStep.done (some false,()) else ForInStep.yield (none,())) ?_).trans ?_
 ·rw[bw (p0 a b),bw (p0 c e),bw (eq3 d a c)]
  split<;>rfl
 ·cases h1:(a==c)
  ·rfl
  ·refine(bw (a:=if(!(b==e))=true then(some false,()) else(none,())) ?_).trans ?_
   ·refine(bw (a:=if(!(b==e))=true then ForInStep.done (some false,()) else ForInStep.yield (none,())) ?_).trans ?_
    ·rw[bw (p1 a b),bw (p1 c e),bw (eq3 d b e)]
     split<;>rfl
    ·cases(b==e)<;>rfl
   ·cases(b==e)<;>rfl
set_option maxRecDepth 100000 in
theorem ta34e {nx:Nat} {ty:TypeId} {ρ:Operand→Value} {bl:Option Blk} {x y:Operand} {u:TypeId} {a b c e:Int} (hx:ρ x= .agg #[.int .i64 a,.int .i64 b]) (hy:ρ y= .agg #[.int .i64 c,.int .i64 e]):al (.binOp .eql 50 x y u) EV.P nx ty ρ bl=some (.bool ((a==c)&&(b==e)),.none):=by
 show aA (ij EV.P .eql 50 x y (ρ x) (ρ y))=_
 rw[hx,hy]
 show aA (be (aD EV.P (eqGuard .eql 50 x y (.agg #[.int .i64 a,.int .i64 b]) (.agg #[.int .i64 c,.int .i64 e]) >>= fun _=>binOp .eql 50 (.agg #[.int .i64 a,.int .i64 b]) (.agg #[.int .i64 c,.int .i64 e]))))=_
 rw[bw (a:=()) (by kernel_rfl)]
 show aA (be (aD EV.P (Op.equalIn (9998+2) 50 (.agg #[.int .i64 a,.int .i64 b]) (.agg #[.int .i64 c,.int .i64 e]) >>= fun q=>pure (.bool q))))=_
 rw[bw (eq34 9998 a b c e)]
 rfl
end Go.Proofs.YtcafgoomipkljaaGreatDoorAi
namespace Go.Proofs.YtcafgoomipkljaaGreatDoorAi
open Go Go.RowKit
set_option linter.unusedVariables false
set_option maxRecDepth 100000
def tbB:Tab:=⟨[((81,0),(0,1,78)),((81,1),(1,1,79))],[(78,false),(79,false)],[(78,1),(79,1)],[79],[]⟩
theorem lH:tbB.ok EV.P:=Tab.ok_of (by kernel_rfl) (by kernel_rfl) (by kernel_rfl) (by kernel_rfl) (by kernel_rfl)
theorem upB:EV.P.underlying 78=some (.pointer 81):=by kernel_rfl
theorem szB:bh EV.P 81=some 2:=by kernel_rfl
theorem bpg {op:BinOp} {t:TypeId} {x y:Operand} {i ad:Nat} {q:Option Addr}:ij EV.P op t x y (.pointer (some ⟨i,ad,none⟩)) (.pointer q)=(match op with
 | .eql=>(dZ EV.P t (.pointer (some ⟨i,ad,none⟩)) (.pointer q)).map .bool
 | .neq=>(dZ EV.P t (.pointer (some ⟨i,ad,none⟩)) (.pointer q)).map fun c=> .bool !c
 | _=>Option.none):=rfl
theorem bp0 {nx:Nat} {ty:TypeId} {ρ:Operand→Value} {b:Option Blk} {x:Operand} {u:TypeId} (hx:ρ x= .pointer none) (hy:ρ (.const (.pointer none))= .pointer none):al (.binOp .eql 78 x (.const (.pointer none)) u) EV.P nx ty ρ b=some (.bool true,.none):=by
 show aA (ij EV.P .eql 78 x (.const (.pointer none)) (ρ x) (ρ (.const (.pointer none))))=_
 rw[hx,hy]
 cases x<;>kernel_rfl
theorem bp1 {nx:Nat} {ty:TypeId} {ρ:Operand→Value} {b:Option Blk} {x y:Operand} {u:TypeId} {i:Nat} (hx:ρ x= .pointer (some ⟨i,0,none⟩)) (hy:ρ y= .pointer none):al (.binOp .eql 78 x y u) EV.P nx ty ρ b=some (.bool false,.none):=by
 show aA (ij EV.P .eql 78 x y (ρ x) (ρ y))=_
 rw[hx,hy,bpg]
 show aA ((dZ EV.P 78 (.pointer (some ⟨i,0,none⟩)) (.pointer none)).map .bool)=_
 unfold dZ
 rw[upB]; rfl
theorem bq1 {nx:Nat} {ty:TypeId} {ρ:Operand→Value} {b:Option Blk} {x y:Operand} {u:TypeId} {i:Nat} (hx:ρ x= .pointer (some ⟨i,0,none⟩)) (hy:ρ y= .pointer (some ⟨i,0,none⟩)):al (.binOp .neq 78 x y u) EV.P nx ty ρ b=some (.bool false,.none):=by
 show aA (ij EV.P .neq 78 x y (ρ x) (ρ y))=_
 rw[hx,hy,bpg]
 show aA ((dZ EV.P 78 (.pointer (some ⟨i,0,none⟩)) (.pointer (some ⟨i,0,none⟩))).map fun c=> .bool !c)=_
 unfold dZ
 rw[upB]
 show aA ((eqP EV.P 81 (some (some ⟨i,0,none⟩)) (some (some ⟨i,0,none⟩))).map fun c=>Value.bool !c)=_
 unfold eqP
 simp only[szB,Nat.beq_refl]
 rfl
theorem bcv1 {nx:Nat} {ty:TypeId} {ρ:Operand→Value} {x:Operand} {i:Nat} {u v:Value} (hx:ρ x= .pointer (some ⟨i,0,none⟩)):al (.convert 78 124 x) EV.P nx ty ρ (some (.row [u,v] 81 0 true))=some (.pointer (some ⟨i,0,none⟩),.none):=by
 show bC EV.P nx 78 124 (ρ x) (some (.row [u,v] 81 0 true))=_
 rw[hx]
 kernel_rfl
theorem bcv2 {nx:Nat} {ty:TypeId} {ρ:Operand→Value} {x:Operand} {i:Nat} {u v:Value} (hx:ρ x= .pointer (some ⟨i,0,none⟩)):al (.convert 124 78 x) EV.P nx ty ρ (some (.row [u,v] 81 0 true))=some (.pointer (some ⟨i,0,none⟩),.none):=by
 show bC EV.P nx 124 78 (ρ x) (some (.row [u,v] 81 0 true))=_
 rw[hx]
 kernel_rfl
theorem qj {E:Env} {s:St} {kn:Kn} {S L:List Seg} {F F0:FZ} {nx0:Nat} (hS:Stt E s kn S F L F0 nx0) {t u:TypeId} {x:Operand} {i:Nat} (hx:lkO E.NG kn x=some (.pointer (some ⟨i,0,none⟩))):aN (.convert t u x) (opv E.NG s.fr)=some i:=by
 show bG (opv E.NG s.fr x)=_
 rw[hS.lk hx]; rfl
noncomputable def g_copyCheck.f (p:Bool):Option Bool:=some true
theorem g_copyCheck.ok {i:Nat} {p:Bool} {a:Option Addr} {z:Nat} {l:List UInt8} {B:Seg} {F:FZ} {r:Bool} (h:g_copyCheck.f p=some r):Cl EV 82 [.pointer (some ⟨i,0,none⟩)] [[(i,.row [kx i p,.slice a l.length z] 81 0 true)],B] F (fun v S' F'=>F=F'∧v= .tuple #[]∧S'= [[(i,.row [kx i r,.slice a l.length z] 81 0 true)],B]):=by
 obtain rfl:=Option.some.inj h
 refine Cl.of Tryz.func82 rfl (fun _ _=>rfl) (by kernel_rfl) fun s L nx0 hS=>?_
 cases p
 ·refine WW.seq (WW.region (kz lH hS 4 [0] [5] [.pointer none] [i] (by kernel_rfl) fun s hS=>?_))
  refine aw hS (wn rfl) rfl rfl rfl (v:= .bool true) (bp0 (hS.lk rfl) rfl) fun s hS=>KW.nil ?_
  refine WW.condK hS rfl rfl ?_
  refine WW.region (kz lH hS 2 [] [7,8] [.pointer (some ⟨i,0,none⟩),.pointer (some ⟨i,0,none⟩)] [] (by kernel_rfl) fun s hS=>?_)
  refine q_rd (i:=i) (b:= .row [.pointer none,.slice a l.length z] 81 0 true) (v:= .pointer (some ⟨i,0,none⟩)) hS (wn rfl) rfl rfl (qj hS rfl) (hS.at (k:=0) rfl) (bcv1 (hS.lk rfl)) fun s hS=>?_
  refine bu hS (wn rfl) (vs:=[.pointer (some ⟨i,0,none⟩)]) (ws:=[.pointer (some ⟨i,0,none⟩)]) rfl rfl rfl rfl rfl 0 rfl (Cl.same (E:=EV) Tryz.func102 rfl rfl) fun s v S' F' hp hF hS=>?_
  obtain⟨rfl,rfl,rfl⟩:=hp
  refine q_rd (i:=i) (b:= .row [.pointer none,.slice a l.length z] 81 0 true) (v:= .pointer (some ⟨i,0,none⟩)) hS (wn rfl) rfl rfl (qj hS rfl) (hS.at (k:=0) rfl) (bcv2 (hS.lk rfl)) fun s hS=>?_
  refine qi lH hS 3 [0] [] [] [i] [[(i,.row [.pointer (some ⟨i,0,none⟩),.slice a l.length z] 81 0 true)],B] (by kernel_rfl) fun s hS=>KW.nil ?_
  exact fin hS (.inl rfl) (aY (E:=EV) (s:=s)) (v:= .tuple #[]) rfl ⟨rfl,rfl,rfl⟩
 ·refine WW.seq (WW.region (kz lH hS 4 [0] [5] [.pointer (some ⟨i,0,none⟩)] [i] (by kernel_rfl) fun s hS=>?_))
  refine aw hS (wn rfl) rfl rfl rfl (v:= .bool false) (bp1 (hS.lk rfl) rfl) fun s hS=>KW.nil ?_
  refine WW.condF hS rfl rfl (WW.seq (WW.region ?_))
  refine kz lH hS 5 [0] [17,18] [.pointer (some ⟨i,0,none⟩),.pointer (some ⟨i,0,none⟩)] [i] (by kernel_rfl) fun s hS=>?_
  refine aw hS (wn rfl) rfl rfl rfl (v:= .bool false) (bq1 (hS.lk rfl) (hS.lk rfl)) fun s hS=>KW.nil ?_
  refine WW.condF hS rfl rfl (WW.skip ?_)
  exact fin hS (.inl rfl) (aY (E:=EV) (s:=s)) (v:= .tuple #[]) rfl ⟨rfl,rfl,rfl⟩
theorem fb1:fieldAt EV.P 81 1=some (1,1,79):=by kernel_rfl
theorem gbB:(EV.P.underlying 79).map cL=some false:=by kernel_rfl
theorem ubB:EV.P.underlying 79=some (.slice 5):=by kernel_rfl
theorem ub5:EV.P.cellsOf 5=1:=by kernel_rfl
theorem sW {nx:Nat} {ty:TypeId} {ρ:Operand→Value} {x:Operand} {ats:Array TypeId} {n z:Nat} (hx:ρ x= .slice none n z):al (.call ⟨.builtin .unsafeSliceData,#[x],ats⟩) EV.P nx ty ρ none=some (.pointer none,.none):=by
 show bUsd EV.P ats ty [ρ x] none=_
 rw[hx]; rfl
theorem sX {nx:Nat} {ty:TypeId} {ρ:Operand→Value} {x:Operand} {ats:Array TypeId} {a:Addr} {n z:Nat} (hx:ρ x= .slice (some a) n z) (hn:1≤n):al (.call ⟨.builtin .unsafeSliceData,#[x],ats⟩) EV.P nx ty ρ none=some (.pointer (some a),.none):=by
 show bUsd EV.P ats ty [ρ x] none=_
 rw[hx]
 show(bif Nat.ble 1 n then some (Value.pointer (some a),Eff.none) else Option.none)=_
 rw[bW (Nat.ble_eq_true_of_le hn)]
theorem aop_usN {nx:Nat} {ty:TypeId} {ρ:Operand→Value} {x y:Operand} (hx:ρ x= .pointer none) (hy:ρ y= .int .i64 0):al (.call ⟨.builtin .unsafeString,#[x,y],#[120,3]⟩) EV.P nx ty ρ none=some (aa [],.none):=by
 show rO EV.P #[120,3] (ρ x) (ρ y) none=_
 rw[hx,hy]; rfl
theorem aop_usS {nx:Nat} {ty:TypeId} {ρ:Operand→Value} {x y:Operand} {j:Nat} {l:List UInt8} {cs ex:List Value} {F:FZ} (hx:ρ x= .pointer (some ⟨j,0,none⟩)) (hy:ρ y= .int .i64 (l.length:Int)) (hC:ai (elB 5) F l cs) (h0:0<l.length) (h1:l.length<1000000000) :
  al (.call ⟨.builtin .unsafeString,#[x,y],#[120,3]⟩) EV.P nx ty ρ (some (.row (cs++ex) 5 1 true))=some (aa l,.upd (.row (cs++ex) 5 1 false)):=by
 show rO EV.P #[120,3] (ρ x) (ρ y) (some (.row (cs++ex) 5 1 true))=_
 rw[hx,hy]
 show usP EV.P #[120,3] ⟨j,0,none⟩ (l.length:Int) (some (.row (cs++ex) 5 1 true))=_
 have hu:(#[120,3]:Array TypeId)[0]?.bind EV.P.underlying=some (.pointer 5):=by kernel_rfl
 unfold usP
 rw[hu]
 show pk EV.P 5 1 0 true (l.length:Int) (cs++ex) 5=_
 unfold pk
 have hc:(true&&Nat.beq (EV.P.cellsOf 5) 1&&EV.P.underlyingId 5==EV.P.underlyingId 5)=true:=by rw[ub5]; simp
 have hl:=hC.len
 have ht:bv (cs++ex) 0 l.length=some cs:=by
  unfold bv
  have hl':cs.length=l.length:=by rw[hl]; show l.length*1=_; omega
  rw[bW (Nat.ble_eq_true_of_le (by rw[List.length_append]; omega)),List.drop_zero,← hl',List.take_left]
 rw[hc,cond_true,if_pos ⟨by omega,by omega⟩,Int.toNat_natCast,ht]
 simp only[d9 hC]
noncomputable def g_BString.f (l:List UInt8):Option (List UInt8):=if l.length<1000000000 then some l else none
theorem g_BString.ok {i:Nat} {p:Bool} {a:Option Addr} {z:Nat} {l:List UInt8} {B:Seg} {F:FZ} {r:List UInt8} (h:g_BString.f l=some r) (hO:Own (elB 5) F a z l B) (h0:l= []→a=none):Cl EV 50 [.pointer (some ⟨i,0,none⟩)] [[(i,.row [kx i p,.slice a l.length z] 81 0 true)],B] F (fun v S' F'=>F=F'∧v=aa r∧S'= []):=by
 obtain⟨hlt,h⟩:=ac h
 obtain rfl:=Option.some.inj h
 refine Cl.of Tryz.func50 rfl (fun _ _=>rfl) (by kernel_rfl) fun s L nx0 hS=>?_
 refine WW.seq (WW.region (kz lH hS 1 [] [2] [aa []] [] (by kernel_rfl) fun s hS=>KW.nil ?_))
 refine WW.seq (WW.regionD (i:=[[],[],[],[],[],[4,3,2,1,0],[4,3,2,1,0],[4,3,2,1,0],[4,3,2,1,0],[4,3,2,1,0],[],[]]) (by kernel_rfl) ?_)
 have hq:=RS.start [i]
 refine K.pu hS hq rfl (wn rfl) rfl rfl rfl (v:= .pointer (some ⟨i,0,none⟩)) (gQ (hS.lk rfl)) fun s rs hS hq=>?_
 refine K.pu hS hq rfl (wn rfl) rfl rfl rfl (v:= .pointer (some ⟨i,0,none⟩)) (gT (hS.lk rfl)) fun s rs hS hq=>?_
 refine K.pu hS hq rfl (wn rfl) rfl rfl rfl (v:= .pointer (some ⟨i,1,none⟩)) (iI (hS.lk rfl) fb1 rfl rfl) fun s rs hS hq=>?_
 refine K.ld hS hq rfl (wn rfl) rfl rfl rfl (hS.at (k:=0) rfl) gbB (v:= .slice a l.length z) rfl 0 rfl rfl fun s rs hS hq=>?_
 rcases hO with⟨rfl,rfl,rfl,rfl⟩ | ⟨j,cs,ex,rfl,rfl,rfl,hC⟩
 ·refine K.pu hS hq rfl (wn rfl) rfl rfl rfl (v:= .pointer none) (sW (hS.lk rfl)) fun s rs hS hq=>?_
  refine K.pu hS hq rfl (wn rfl) rfl rfl rfl (v:= .pointer (some ⟨i,0,none⟩)) (gQ (hS.lk rfl)) fun s rs hS hq=>?_
  refine K.pu hS hq rfl (wn rfl) rfl rfl rfl (v:= .pointer (some ⟨i,0,none⟩)) (gT (hS.lk rfl)) fun s rs hS hq=>?_
  refine K.pu hS hq rfl (wn rfl) rfl rfl rfl (v:= .pointer (some ⟨i,1,none⟩)) (iI (hS.lk rfl) fb1 rfl rfl) fun s rs hS hq=>?_
  refine K.ld hS hq rfl (wn rfl) rfl rfl rfl (hS.at (k:=0) rfl) gbB (v:= .slice none 0 0) rfl 0 rfl rfl fun s rs hS hq=>?_
  refine K.pu hS hq rfl (wn rfl) rfl rfl rfl (v:= .int .i64 0) (iF rfl rfl ubB (hS.lk rfl)) fun s rs hS hq=>?_
  refine K.pu hS hq rfl (wn rfl) rfl rfl (by show(some (Operand.tmp 7)).bind (fun x=>bG (opv EV.NG s.fr x))=none; show bG (opv EV.NG s.fr (.tmp 7))=none; rw[hS.lk (x:= .tmp 7) (v:= .pointer none) rfl]; rfl) (v:=aa []) (aop_usN (hS.lk rfl) (hS.lk rfl)) fun s rs hS hq=>?_
  refine K.pu hS hq rfl (wn rfl) rfl rfl rfl (v:=aa []) (gl (hS.lk rfl)) fun s rs hS hq=>KW.nil (WW.ret ?_)
  have hres:=br hS (t:=2) (v:=aa []) rfl (aY (E:=EV) (s:=s))
  replace hS:=hS.drop.drop
  exact fin hS (.inr rfl) hres (v:=aa []) rfl ⟨rfl,rfl,rfl⟩
 ·have hpos:0<l.length:=by
   rcases Nat.eq_zero_or_pos l.length with q | q
   ·have:=h0 (List.eq_nil_of_length_eq_zero q); cases this
   ·exact q
  refine K.pu hS hq rfl (wn rfl) rfl rfl rfl (v:= .pointer (some ⟨j,0,none⟩)) (sX (hS.lk rfl) hpos) fun s rs hS hq=>?_
  refine K.pu hS hq rfl (wn rfl) rfl rfl rfl (v:= .pointer (some ⟨i,0,none⟩)) (gQ (hS.lk rfl)) fun s rs hS hq=>?_
  refine K.pu hS hq rfl (wn rfl) rfl rfl rfl (v:= .pointer (some ⟨i,0,none⟩)) (gT (hS.lk rfl)) fun s rs hS hq=>?_
  refine K.pu hS hq rfl (wn rfl) rfl rfl rfl (v:= .pointer (some ⟨i,1,none⟩)) (iI (hS.lk rfl) fb1 rfl rfl) fun s rs hS hq=>?_
  refine K.ld hS hq rfl (wn rfl) rfl rfl rfl (hS.at (k:=0) rfl) gbB (v:= .slice (some ⟨j,0,none⟩) l.length 1) rfl 0 rfl rfl fun s rs hS hq=>?_
  refine K.pu hS hq rfl (wn rfl) rfl rfl rfl (v:= .int .i64 (l.length:Int)) (iF rfl rfl ubB (hS.lk rfl)) fun s rs hS hq=>?_
  refine K.stD (p:=1) hS hq rfl (wn rfl) rfl rfl (by show(some (Operand.tmp 7)).bind (fun x=>bG (opv EV.NG s.fr x))=some j; show bG (opv EV.NG s.fr (.tmp 7))=some j; rw[hS.lk (x:= .tmp 7) (v:= .pointer (some ⟨j,0,none⟩)) rfl]; rfl) rfl (aop_usS (hS.lk rfl) (hS.lk rfl) hC hpos hlt) [] rfl (fun j hj=>by cases hj) fun s rs hS hq=>?_
  refine K.pu hS hq rfl (wn rfl) rfl rfl rfl (v:=aa l) (gl (hS.lk rfl)) fun s rs hS hq=>KW.nil (WW.ret ?_)
  have hres:=br hS (t:=2) (v:=aa l) rfl (aY (E:=EV) (s:=s))
  replace hS:=hS.drop.drop
  exact fin hS (.inr rfl) hres (v:=aa l) rfl ⟨rfl,rfl,rfl⟩
end Go.Proofs.YtcafgoomipkljaaGreatDoorAi
