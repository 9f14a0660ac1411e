/-
ApA, ApQ, ApR, ApT, ApU, ApV
-/
import Derived.Test.YtcafgoomipkljaaGreatDoorApMa
namespace Go.Proofs.YtcafgoomipkljaaGreatDoorAi
open Go Go.RowKit
set_option linter.unusedVariables false
set_option linter.unusedSimpArgs false
set_option linter.unusedSectionVars false
section
variable {P:Program} {nx:Nat} {ty:TypeId} {ρ:Operand→Value} {b:Option Blk} {x y:Operand} {v:Value} {k:IntKind} {m n:Int}
theorem nC (l:List UInt8):(⟨l.toArray⟩:ByteArray).size=l.length:=rfl
theorem sM {args:Array Operand} {ats:Array TypeId} {t:TypeId} {l:List UInt8} (ha:args.toList= [x]) (ht:ats[0]? = some t) (hu:P.underlying t=some .string) (hx:ρ x=aa l):al (.call ⟨.builtin .len,args,ats⟩) P nx ty ρ b=some (.int .i64 (l.length:Nat),.none):=by
 show bLen P ats ty (args.toList.map ρ) b=_
 rw[ha]
 show lj P ats (ρ x)=_
 unfold lj
 rw[ht,hx,Option.bind_some,hu]; rfl
theorem iF {args:Array Operand} {ats:Array TypeId} {t e:TypeId} {a:Option Addr} {j z:Nat} (ha:args.toList= [x]) (ht:ats[0]? = some t) (hu:P.underlying t=some (.slice e)) (hx:ρ x= .slice a j z):al (.call ⟨.builtin .len,args,ats⟩) P nx ty ρ b=some (.int .i64 (j:Nat),.none):=by
 show bLen P ats ty (args.toList.map ρ) b=_
 rw[ha]
 show lj P ats (ρ x)=_
 unfold lj
 rw[ht,hx,Option.bind_some,hu]; rfl
theorem au {t:TypeId} {l:List UInt8} {i:Int} (hu:P.underlying t=some .string) (hx:ρ x=aa l) (hy:ρ y= .int k i) (hc:0≤i∧i<(l.length:Int)):al (.index t x y) P nx ty ρ b=some (vB (gt l i),.none):=by
 show aA (ip P t (ρ x) (ρ y))=_
 rw[hx,hy]
 show aA (bif cd P t then jI ⟨l.toArray⟩ i else none)=_
 unfold cd
 rw[hu]
 show aA (jI ⟨l.toArray⟩ i)=_
 unfold jI
 rw[if_pos hc.1,bs]
 show aA (match l[i.toNat]? with | some b=>some (Value.int .u8 b.toNat) | none=>none)=_
 have:i.toNat<l.length:=by omega
 rw[List.getElem?_eq_getElem this]
 show some (Value.int .u8 ((l[i.toNat]).toNat:Int),Eff.none)=_
 unfold gt
 rw[List.getD_eq_getElem?_getD,List.getElem?_eq_getElem this]; rfl
theorem rf {c:Operand} (hc:ρ c= .bool true) (hx:ρ x=v):al (.pick c x y) P nx ty ρ b=some (v,.none):=nv hc hx rfl
theorem rg {c:Operand} (hc:ρ c= .bool false) (hy:ρ y=v):al (.pick c x y) P nx ty ρ b=some (v,.none):=nv hc rfl hy
def mid {α:Type} (l:List α) (i j:Int):List α:=(l.take j.toNat).drop i.toNat
theorem slB_eq {l:List UInt8} {i j:Int} (hc:0≤i∧i≤j∧j≤(l.length:Int)):slB i j ⟨l.toArray⟩=some (aa (mid l i j)):=by
 unfold slB
 rw[if_pos ⟨hc.1,hc.2.1,by rw[nC]; exact hc.2.2⟩]
 congr 2
 apply ByteArray.ext
 rw[ByteArray.data_extract]
 simp[mid,List.extract_eq_take_drop,List.drop_take]
theorem cU {t:TypeId} {l:List UInt8} {lo hi:Option Operand} {i j:Int} (hu:P.underlying t=some .string) (hx:ρ x=aa l) (hl:bM (lo.map ρ) 0=some i) (hh:bM (hi.map ρ) l.length=some j) (hc:0≤i∧i≤j∧j≤(l.length:Int)) :
  al (.slice t x lo hi none) P nx ty ρ b=some (aa (mid l i j),.none):=by
 show aA (lX P t (ρ x) (lo.map ρ) (hi.map ρ))=_
 rw[hx]
 show aA (bif cd P t then mS ⟨l.toArray⟩ (bM (lo.map ρ) 0) (bM (hi.map ρ) (⟨l.toArray⟩:ByteArray).size) else none)=_
 unfold cd
 rw[hu,nC,hl,hh]
 show aA (slB i j ⟨l.toArray⟩)=_
 rw[slB_eq hc]; rfl
theorem iG {t u:TypeId} {a c:UInt8} (hx:ρ x=vB a) (hy:ρ y=vB c):al (.binOp .sub t x y u) P nx ty ρ b=some (vB (a-c),.none):=by
 refine mt hx hy ?_
 show some (Value.int .u8 (IntKind.u8.wrap (Int.sub a.toNat c.toNat)))=some (vB (a-c))
 have h1:=a.toNat_lt
 have h2:=c.toNat_lt
 have:IntKind.u8.wrap (Int.sub a.toNat c.toNat)=((a-c).toNat:Int):=by
  rw[UInt8.toNat_sub]
  show((a.toNat:Int)-c.toNat) % 256=_
  omega
 rw[this]
theorem iI {s:TypeId} {f i off sz ad ad':Nat} {ft:Nat} (hx:ρ x= .pointer (some ⟨i,ad,none⟩)) (hf:fieldAt P s f=some (off,sz,ft)) (hz:Nat.beq sz 0=false) (had:ad+off=ad'):al (.fieldAddr s x f) P nx ty ρ b=some (.pointer (some ⟨i,ad',none⟩),.none):=by
 subst had
 exact kX hx hf (fun e=>by subst e; cases hz)
theorem aop_ext {i:Nat} {vs:Array Value} (hx:ρ x= .tuple vs) (hi:nth vs.toList i=some v):al (.extract x i) P nx ty ρ b=some (v,.none):=by
 show aA (eY i (ρ x))=_
 rw[hx]
 show aA (nth vs.toList i)=_
 rw[hi]; rfl
theorem gT {i ad:Nat} (h:ρ x= .pointer (some ⟨i,ad,none⟩)):al (.nilCheck x) P nx ty ρ b=some (.pointer (some ⟨i,ad,none⟩),.none):=aop_nil h
noncomputable def rh (P:Program) (t:TypeId):Option (List (Nat×Nat)):=match P.underlying t with | some (.struct fs)=>cM P fs.toList | _=>none
theorem cn {t:TypeId} {ps:Array (Nat×Operand)} {z cs:List Value} {pl:List (Nat×Nat)} (hz:aV P t=some z) (hp:rh P t=some pl) (parts:List (Nat×Value)) (hps:ps.toList.map (fun p=>(p.1,ρ p.2))=parts) (hf:dn (nth pl) z parts=some cs):al (.build t ps) P nx ty ρ b=some (.agg cs.toArray,.none):=by
 show aA (eG P t (ps.toList.map fun p=>(p.1,ρ p.2)))=_
 rw[hps]
 unfold eG
 rw[hz]
 show aA (rN P z parts (P.underlying t))=_
 unfold rh at hp
 split at hp
 ·rename_i fs hu
  rw[hu]
  show aA (bldS z parts (cM P fs.toList))=_
  rw[hp]
  show aA (iS (dn (nth pl) z parts))=_
  rw[hf]; rfl
 ·cases hp
theorem eq {t e:TypeId} {ps:Array (Nat×Operand)} {z cs:List Value} {len n:Nat} (hz:aV P t=some z) (hu:P.underlying t=some (.array len e)) (hp:bh P e=some n) (parts:List (Nat×Value)) (hps:ps.toList.map (fun p=>(p.1,ρ p.2))=parts) (hf:dn (fun i=>some (i*n,n)) z parts=some cs):al (.build t ps) P nx ty ρ b=some (.agg cs.toArray,.none):=by
 show aA (eG P t (ps.toList.map fun p=>(p.1,ρ p.2)))=_
 rw[hps]
 unfold eG
 rw[hz]
 show aA (rN P z parts (P.underlying t))=_
 rw[hu]
 show aA (bldA z parts (bh P e))=_
 rw[hp]
 show aA (iS (dn (fun i=>some (i*n,n)) z parts))=_
 rw[hf]; rfl
theorem aW {t e:TypeId} {len sz:Nat} {ps:Array (Nat×Operand)} {z cs:List Value} (hu:P.underlying t=some (.slice e)) (hs:bh P e=some sz) (hz:aV P e=some z) (hok:(Nat.ble 1 sz&&Nat.beq z.length sz&&Nat.ble (len*sz) 16777216)=true) (parts:List (Nat×Value)) (hps:ps.toList.map (fun p=>(p.1,ρ p.2))=parts) (hf:dn (fun i=>some (i*sz,sz)) (f0 z len) parts=some cs) :
  al (.buildSlice t len ps) P nx ty ρ b=some (.slice (some ⟨nx,0,none⟩) len sz,.new (.row cs e sz true)):=by
 show cb P nx t len (ps.toList.map fun p=>(p.1,ρ p.2))=_
 rw[hps]
 unfold cb
 simp only[hu,hs,hz,hok,cond_true,hf,Option.map_some]
theorem co {t:TypeId} {u:Value} (hx:ρ x=u) (ho:u.cells.toList.all one=true) (cs:List Value) (hc:u.cells.toList=cs):al (.box t x) P nx ty ρ b=some (.pointer (some ⟨nx,0,none⟩),.new (.row cs t 0 true)):=by
 show om nx t (ρ x)=_
 rw[hx]
 unfold om
 rw[bW ho,hc]
theorem bf {t:TypeId} {z:List Value} (hz:aV P t=some z):al (.alloc t) P nx ty ρ b=some (.pointer (some ⟨nx,0,none⟩),.new (.row z t 0 true)):=by
 show f7 t P nx ty ρ b=_
 unfold f7
 rw[hz]
theorem aF {t:TypeId} {i ad len c sz:Nat} {j:Int} (hx:ρ x= .slice (some ⟨i,ad,none⟩) len c) (hy:ρ y= .int k j) (hn:cN P t=some sz) (hc:0≤j∧j<(len:Int)):al (.indexAddr t x y) P nx ty ρ b=some (.pointer (some ⟨i,ad+j.toNat*sz,none⟩),.none):=kY hx hy hn hc.1 hc.2
theorem gU {s t:TypeId} {k2:IntKind} (hx:ρ x= .int k n) (hs:P.underlying s=some (.int k)) (ht:P.underlying t=some (.int k2)):al (.convert s t x) P nx ty ρ b=some (.int k2 (k2.wrap n),.none):=by
 show bC P nx s t (ρ x) b=_
 rw[hx]
 unfold bC
 show(match cvI P s t n with | some r=>some r | none=>cvG P s t (.int k n))=_
 unfold cvI
 rw[hs,ht]
theorem d9 {e:TypeId} {F:FZ}: ∀{l:List UInt8} {cs:List Value},ai (elB e) F l cs→bQ cs=some l
 | [],cs,h=>by rw[h]; rfl
 | x::l,cs,⟨c,r,e,h1,h2⟩=>by
  have h1:c= [vB x]:=h1
  subst h1
  rw[e]
  show(match pi (vB x),bQ r with | some b,some l=>some (b::l) | _,_=>none)=_
  rw[d9 h2]
  show some (UInt8.ofNat (x.toNat:Int).toNat::l)=_
  simp
theorem iK {s t e e2:TypeId} {i off len z:Nat} {l:List UInt8} {cs cs2:List Value} {e3:TypeId} {z3:Nat} {own:Bool} {F:FZ} (hx:ρ x= .slice (some ⟨i,off,none⟩) len z) (hs:P.underlying s=some (.slice e)) (hb:bX P e=true) (ht:P.underlying t=some .string) (hc:ai (elB e2) F l cs2) (htk:bv cs off len=some cs2) :
  al (.convert s t x) P nx ty ρ (some (.row cs e3 z3 own))=some (aa l,.none):=by
 show bC P nx s t (ρ x) (some (.row cs e3 z3 own))=_
 rw[hx]
 unfold bC
 show(match ol P s t (some ⟨i,off,none⟩) len (some (.row cs e3 z3 own)) with | some r=>some r | none=>cvG P s t _)=_
 unfold ol
 rw[hs,ht]
 simp only[hb,cond_true,htk]
 unfold pj
 simp only[d9 hc]
theorem kq {s t e:TypeId} (hx:ρ x= .slice none 0 0) (hs:P.underlying s=some (.slice e)) (hb:bX P e=true) (ht:P.underlying t=some .string):al (.convert s t x) P nx ty ρ none=some (aa [],.none):=by
 show bC P nx s t (ρ x) none=_
 rw[hx]
 unfold bC
 show(match ol P s t none 0 none with | some r=>some r | none=>cvG P s t _)=_
 unfold ol
 rw[hs,ht]
 simp only[hb,cond_true]; rfl
theorem gV {t u:TypeId} {l r:List UInt8} (hx:ρ x=aa l) (hy:ρ y=aa r):al (.binOp .eql t x y u) P nx ty ρ b=some (.bool (decide (l=r)),.none):=by
 refine mu hx hy ?_
 show some (Value.bool (eqB l r))=_
 rw[oC]
 by_cases h:l=r<;>simp[h]
theorem pV {t u:TypeId} {l r:List UInt8} (hx:ρ x=aa l) (hy:ρ y=aa r):al (.binOp .neq t x y u) P nx ty ρ b=some (.bool (!decide (l=r)),.none):=by
 refine mu hx hy ?_
 show some (Value.bool (!eqB l r))=_
 rw[oC]
 by_cases h:l=r<;>simp[h]
theorem bS {t u:TypeId} {l r:List UInt8} (hx:ρ x=aa l) (hy:ρ y=aa r) (hb:l.length+r.length<1000000000):al (.binOp .add t x y u) P nx ty ρ b=some (aa (l++r),.none):=by
 refine mu hx hy ?_
 show(if l.length+r.length≤9223372036854775807 then some (Value.string (⟨l.toArray⟩++⟨r.toArray⟩)) else none)=_
 rw[if_pos (by omega)]
 congr 2
end
end Go.Proofs.YtcafgoomipkljaaGreatDoorAi
namespace Go.Proofs.YtcafgoomipkljaaGreatDoorAi
open Go Go.RowKit
set_option linter.unusedVariables false
set_option linter.unusedSimpArgs false
set_option linter.unusedSectionVars false
section
variable {E:Env} {s:St} {kn:Kn} {S:List Seg} {F:FZ} {L:List Seg} {F0:FZ} {nx0:Nat} {l:List Oper} {ops:Array Oper} {o:Oper} {Q:St→Prop} {d:Nat} {v:Value}
abbrev QW (E:Env) (l:List Oper) (ops:Array Oper) (s:St) (Q:St→Prop):Prop:=KW E l ops none [] s Q
theorem KW.seq {rs:List Rec} (h:QW E l ops s Q):KW E l ops none rs s Q:=h
theorem aw (hS:Stt E s kn S F L F0 nx0) (hw:am ops s.fr o=some true) (hc:aQ o.op=false) (hd:o.dst=some d) (ht:aN o.op (opv E.NG s.fr)=none) (hv:al o.op E.P s.nx o.type (opv E.NG s.fr) none=some (v,.none))
  (k: ∀s',Stt E s' ((d,v)::kn) S F L F0 nx0→QW E l ops s' Q):QW E (o::l) ops s Q:=K.pu hS (RS.start []) rfl hw hc hd ht hv fun s' _ h _=>k s' h
theorem cE (hS:Stt E s kn S F L F0 nx0) (hw:am ops s.fr o=some false) (hd:o.dst=some d)
  (k: ∀s',Stt E s' ((d,undef)::kn) S F L F0 nx0→QW E l ops s' Q):QW E (o::l) ops s Q:=K.no hS (RS.start []) rfl hw hd fun s' _ h _=>k s' h
theorem q_rd {i:Nat} {b:Blk} (hS:Stt E s kn S F L F0 nx0) (hw:am ops s.fr o=some true) (hc:aQ o.op=false) (hd:o.dst=some d) (ht:aN o.op (opv E.NG s.fr)=some i) (hb:s.H.get i=some b) (hv:al o.op E.P s.nx o.type (opv E.NG s.fr) (some b)=some (v,.none))
  (k: ∀s',Stt E s' ((d,v)::kn) S F L F0 nx0→QW E l ops s' Q):QW E (o::l) ops s Q:=K.rd hS (RS.start [i]) rfl hw hc hd ht hb hv 0 rfl rfl fun s' _ h _=>k s' h
theorem eu {t:TypeId} {x:Operand} {i ad:Nat} {cs:List Value} {e:TypeId} {z:Nat} {own:Bool} (hS:Stt E s kn S F L F0 nx0) (hw:am ops s.fr o=some true) (ho:o.op= .load t x) (hd:o.dst=some d)
  (hx:lkO E.NG kn x=some (.pointer (some ⟨i,ad,none⟩))) (hb:s.H.get i=some (.row cs e z own)) (hg:(E.P.underlying t).map cL=some false) (hv:nth cs ad=some v)
  (k: ∀s',Stt E s' ((d,v)::kn) S F L F0 nx0→QW E l ops s' Q):QW E (o::l) ops s Q:=K.ld hS (RS.start [i]) rfl hw ho hd hx hb hg hv 0 rfl rfl fun s' _ h _=>k s' h
theorem ja {t:TypeId} {x:Operand} {i ad m:Nat} {cs vs:List Value} {e:TypeId} {z:Nat} {own:Bool} (hS:Stt E s kn S F L F0 nx0) (hw:am ops s.fr o=some true) (ho:o.op= .load t x) (hd:o.dst=some d)
  (hx:lkO E.NG kn x=some (.pointer (some ⟨i,ad,none⟩))) (hb:s.H.get i=some (.row cs e z own)) (hg:(E.P.underlying t).map cL=some true) (hz:bh E.P t=some m) (hv:bv cs ad m=some vs)
  (k: ∀s',Stt E s' ((d,.agg vs.toArray)::kn) S F L F0 nx0→QW E l ops s' Q):QW E (o::l) ops s Q:=K.ldA hS (RS.start [i]) rfl hw ho hd hx hb hg hz hv 0 rfl rfl fun s' _ h _=>k s' h
theorem q_sto {t:TypeId} {x y:Operand} {i ad m p:Nat} {cs:List Value} {e:TypeId} {z:Nat} {u:Value} (hS:Stt E s kn S F L F0 nx0) (hw:am ops s.fr o=some true) (ho:o.op= .store t x y) (hd:o.dst=none)
  (hx:lkO E.NG kn x=some (.pointer (some ⟨i,ad,none⟩))) (hy:lkO E.NG kn y=some u) (hp:bL S p= [(i,.row cs e z true)]) (hz:bh E.P t=some m) (hok:(Nat.beq u.cells.size m&&Nat.ble (ad+m) cs.length&&u.cells.toList.all one)=true) (cs':List Value) (hcs:setCells cs ad u.cells.toList=cs')
  (k: ∀s',Stt E s' kn (iE S p [(i,.row cs' e z true)]) F L F0 nx0→QW E l ops s' Q):QW E (o::l) ops s Q:=K.sto hS (RS.start []) rfl hw ho hd hx hy hp hz hok cs' hcs [] rfl (fun j hj=>by cases hj) fun s' _ h _=>k s' h
theorem bA {v:Nat→Value} {b:Blk} (hS:Stt E s kn S F L F0 nx0) (hw:am ops s.fr o=some true) (hc:aQ o.op=false) (hd:o.dst=some d) (ht:aN o.op (opv E.NG s.fr)=none) (hv:al o.op E.P s.nx o.type (opv E.NG s.fr) none=some (v s.nx,.new b))
  (k: ∀s' i,Stt E s' ((d,v i)::kn) ([(i,b)]::S) F L F0 nx0→QW E l ops s' Q):QW E (o::l) ops s Q:=K.nw hS (RS.start []) rfl hw hc hd ht hv [] (fun j hj=>by cases hj) rfl rfl rfl fun s' _ i h _=>k s' i h
theorem fU {α:Type} {dd:El α} {ats:Array TypeId} {x y:Operand} {a:Option Addr} {z z2:Nat} {lst m:List α} {B:Seg} {j:Nat} {news:List Value} (hS:Stt E s kn ([(j,.row news dd.e dd.sz true)]::B::S) F L F0 nx0) (hw:am ops s.fr o=some true)
  (ho:o.op= .call ⟨.builtin .append,#[x,y],ats⟩) (hd:o.dst=some d) (ht:ApT E.P ats dd.e dd.sz) (hx:lkO E.NG kn x=some (.slice a lst.length z)) (hy:lkO E.NG kn y=some (.slice (some ⟨j,0,none⟩) m.length z2)) (hO:Own dd F a z lst B) (hm:0<m.length) (hC:ai dd F m news) (hb:lst.length+m.length<1000000000)
  (k: ∀s' i cs,ai dd F (lst++m) cs→Stt E s' ((d,.slice (some ⟨i,0,none⟩) (lst++m).length dd.sz)::kn) ([(i,.row cs dd.e dd.sz true)]::S) F L F0 nx0→QW E l ops s' Q):QW E (o::l) ops s Q:=K.app [] hS (RS.start []) rfl hw ho hd ht hx hy hO hm hC hb [] rfl rfl (fun j hj=>by cases hj) fun s' _ i cs hc h _=>k s' i cs hc h
theorem bu {g:FuncId} {x:Operand} {fs cs:Array Value} {args:Array Operand} {ats:Array TypeId} {vs ws:List Value} {Sc:List Seg} {Φ:Value→List Seg→FZ→Prop} (hS:Stt E s kn S F L F0 nx0) (hw:am ops s.fr o=some true)
  (ho:o.op= .call ⟨.value x,args,ats⟩) (hd:o.dst=some d) (hx:lkO E.NG kn x=some (.func (.func g) fs cs)) (ha:args.toList.map (lkO E.NG kn)=vs.map some) (hws:fs.toList++(vs++cs.toList)=ws) (c:Nat) (hc:fT c S=Sc) (hT:Cl E g ws Sc F Φ)
  (k: ∀s' v S' F',Φ v S' F'→FLe F F'→Stt E s' ((d,v)::kn) (S'++eW c S) F' L F0 nx0→QW E l ops s' Q):QW E (o::l) ops s Q:=K.cl hS (RS.start []) rfl hw ho hd hx ha hws c hc hT [] rfl rfl (fun j hj=>by cases hj) fun s' _ v S' F' hp hf h _=>k s' v S' F' hp hf h
theorem q_cvO {t u e2:TypeId} {x:Operand} {a:Option Addr} {z p:Nat} {lst:List UInt8} {B:Seg} (hS:Stt E s kn S F L F0 nx0) (hw:am ops s.fr o=some true) (ho:o.op= .convert t u x) (hd:o.dst=some d)
  (hx:lkO E.NG kn x=some (.slice a lst.length z)) (hO:Own (elB e2) F a z lst B) (hp:bL S p=B)
  (h0: ∀ρ:Operand→Value,ρ x= .slice none 0 0→al (.convert t u x) E.P s.nx o.type ρ none=some (aa [],.none))
  (h1: ∀(ρ:Operand→Value) i cs ex,ρ x= .slice (some ⟨i,0,none⟩) lst.length z→ai (elB e2) F lst cs→al (.convert t u x) E.P s.nx o.type ρ (some (.row (cs++ex) e2 1 true))=some (aa lst,.none))
  (k: ∀s',Stt E s' ((d,aa lst)::kn) S F L F0 nx0→QW E l ops s' Q):QW E (o::l) ops s Q:=K.cvO (e:=0) hS (RS.start []) rfl hw ho hd hx hO hp h0 h1 rfl fun s' _ h _=>k s' h
theorem cv1c {P:Program} {nx:Nat} {ty:TypeId} {ρ:Operand→Value} {x:Operand} {t u e e2 e3 z3:TypeId} {lst:List UInt8} {z i:Nat} {cs:List Value} {own:Bool} (hs:P.underlying t=some (.slice e)) (hb:bX P e=true) (hu:P.underlying u=some .string) (hx:ρ x= .slice (some ⟨i,0,none⟩) lst.length z) (hC:ai (elB e2) F lst cs):al (.convert t u x) P nx ty ρ (some (.row cs e3 z3 own))=some (aa lst,.none):=iK hx hs hb hu hC (by
 have hl:=hC.len
 rw[show(elB e2).sz=1 from rfl,Nat.mul_one] at hl
 unfold bv
 rw[bW (Nat.ble_eq_true_of_le (by omega)),List.drop_zero,← hl,List.take_length])
theorem pY {E:Env} {s:St} {kn:Kn} {S:List Seg} {L:List Seg} {F0:FZ} {nx0:Nat} (hS:Stt E s kn S F L F0 nx0) {a b:TypeId} {x:Operand} {i off n z:Nat} (hx:lkO E.NG kn x=some (.slice (some ⟨i,off,none⟩) n z)):aN (.convert a b x) (opv E.NG s.fr)=some i:=by
 show bG (opv E.NG s.fr x)=_
 rw[hS.lk hx]; rfl
theorem cv0 {P:Program} {nx:Nat} {ty:TypeId} {x:Operand} {t u e:TypeId} (hs:P.underlying t=some (.slice e)) (hb:bX P e=true) (hu:P.underlying u=some .string): ∀ρ:Operand→Value,ρ x= .slice none 0 0→al (.convert t u x) P nx ty ρ none=some (aa [],.none):=fun ρ h=>kq h hs hb hu
theorem cv1 {P:Program} {nx:Nat} {ty:TypeId} {x:Operand} {t u e e2:TypeId} {lst:List UInt8} {z:Nat} (hs:P.underlying t=some (.slice e)) (hb:bX P e=true) (hu:P.underlying u=some .string) :
  ∀(ρ:Operand→Value) i cs ex,ρ x= .slice (some ⟨i,0,none⟩) lst.length z→ai (elB e2) F lst cs→al (.convert t u x) P nx ty ρ (some (.row (cs++ex) e2 1 true))=some (aa lst,.none):=fun ρ i cs ex h hC=>iK h hs hb hu hC (by
 have hl:=hC.len
 rw[show(elB e2).sz=1 from rfl,Nat.mul_one] at hl
 unfold bv
 rw[bW (Nat.ble_eq_true_of_le (by rw[List.length_append]; omega)),List.drop_zero,← hl,List.take_left])
theorem Stt.know {t:Nat} {u u':Value} (hS:Stt E s kn S F L F0 nx0) (hk:lkT kn t=some u) (e:u=u'):Stt E s ((t,u')::kn) S F L F0 nx0 :=
 ⟨fun j w h=>by
  unfold lkT at h
  by_cases hj:t=j
  ·subst hj
   rw[Nat.beq_refl,cond_true] at h
   obtain rfl:=Option.some.inj h
   subst e
   exact hS.fx t u hk
  ·rw[nbF hj,cond_false] at h
   exact hS.fx j w h,hS.mem,hS.le,hS.nx,hS.ms⟩
theorem WW.condK {c:Operand} {a b:Code} {t:Bool} {Qe:Exit→St→Prop} (hS:Stt E s kn S F L F0 nx0) (hk:lkO E.NG kn c=some (.bool t)) (ht:t=true) (h:WW E a s Qe):WW E (.cond c a b) s Qe :=
 WW.condB (t:=true) (by rw[hS.lk hk,ht]; rfl) h
theorem WW.condF {c:Operand} {a b:Code} {t:Bool} {Qe:Exit→St→Prop} (hS:Stt E s kn S F L F0 nx0) (hk:lkO E.NG kn c=some (.bool t)) (ht:t=false) (h:WW E b s Qe):WW E (.cond c a b) s Qe :=
 WW.condB (t:=false) (by rw[hS.lk hk,ht]; rfl) h
end
theorem aj (c:Bool):c=true∨c=false:=by cases c<;>simp
def w64 (x:Int):Int:=IntKind.i64.wrap x
theorem lE {P:Program} {ats:Array TypeId} {t t2 e sz:Nat} (h0:ats[0]? = some t) (h1:ats[1]? = some t2) (h2:P.underlying t=some (.slice e)) {u:TypeDesc} (h3:P.underlying t2=some u) (h4:ou u=true) (h5:(P.info? e).map (fun i=>(i.size,Nat.ble i.bytes 140000))=some (sz,true)) (h6:(aV P e).map List.length=some sz) (hp:1≤sz):ApT P ats e sz:=by
 obtain⟨i,hi,h7⟩:=Option.map_eq_some_iff.1 h5
 obtain⟨z,hz,h8⟩:=Option.map_eq_some_iff.1 h6
 simp only[Prod.mk.injEq] at h7
 exact⟨t,t2,u,i,z,h0,h1,h2,h3,h4,hi,hz,by rw[h8,h7.1],h7.1,hp,Nat.le_of_ble_eq_true h7.2⟩
section
variable {E:Env} {s:St} {kn:Kn} {S:List Seg} {F:FZ} {L:List Seg} {F0:FZ} {nx0:Nat}
theorem Sub.c {l r:Kn} {k:Nat} {v:Value} (h:lkT l k=some v) (hr:Sub l r):Sub l ((k,v)::r):=⟨h,hr⟩
theorem Sub.n {l:Kn}:Sub l []:=True.intro
theorem Stt.gap0 (hS:Stt E s kn S F L F0 nx0):Stt E s kn ([]::S) F L F0 nx0:=⟨hS.fx,hS.mem.perm (by simp),hS.le,hS.nx,hS.ms⟩
theorem av (hS:Stt E s kn S F L F0 nx0) {ps:Array (Nat×Operand)} {parts:List (Nat×Value)} (h:ps.toList.map (fun p=>(p.1,lkO E.NG kn p.2))=parts.map fun p=>(p.1,some p.2)):ps.toList.map (fun p=>(p.1,opv E.NG s.fr p.2))=parts:=by
 have key: ∀(l:List (Nat×Operand)) (m:List (Nat×Value)),l.map (fun p=>(p.1,lkO E.NG kn p.2))=m.map (fun p=>(p.1,some p.2))→l.map (fun p=>(p.1,opv E.NG s.fr p.2))=m:=by
  intro l
  induction l with
  | nil=>intro m h; cases m with | nil=>rfl | cons _ _=>cases h
  | cons a l ih =>
   intro m h
   cases m with
   | nil=>cases h
   | cons b m =>
    simp only[List.map_cons,List.cons.injEq,Prod.mk.injEq] at h ⊢
    exact⟨Prod.ext h.1.1 (hS.lk h.1.2),ih m h.2⟩
 exact key _ _ h
theorem bF (hS:Stt E s kn S F L F0 nx0) {x:Operand} {k:IntKind} {i:Int} {d:Nat} (h:lkO E.NG kn x=some (.int k i)):bM ((some x).map (opv E.NG s.fr)) d=some i:=by
 show(match asI (opv E.NG s.fr x) with | some (_,i)=>some i | none=>none)=_
 rw[hS.lk h]; rfl
end
theorem RS.apart {zs:List Nat} {rs:List Rec} {n:Nat} {qs ls:List Nat} {as ns ds:List (Nat×Nat)} (h:RS zs rs n qs ls as ns ds) (k j' j:Nat) {i' i:Nat} (hk:ns.contains (k,j')=true) (h1:nth zs j'=some i') (h2:nth zs j=some i) (hne:i'≠i):RS zs rs n qs ls ((k,j)::as) ns ds :=
 ⟨h.len,h.q,h.l,fun p hp=>by
  rcases List.mem_cons.1 hp with rfl | hp
  ·have hm:(k,j')∈ns:=by simpa using hk
   refine⟨(h.nw _ hm).1,fun r x e hx=>?_⟩
   obtain⟨q1,q2,q3,_,_⟩:=(h.nw _ hm).2 r i' e h1
   rw[h2] at hx
   obtain rfl:=Option.some.inj hx
   unfold Rec.has
   rw[q1,q2,q3]
   have:(Nat.ble i' i&&Nat.blt i (i'+1))=false:=by
    cases hb:Nat.ble i' i&&Nat.blt i (i'+1) with
    | false=>rfl
    | true=>rw[Bool.and_eq_true,Nat.blt_eq] at hb; have:=Nat.le_of_ble_eq_true hb.1; omega
   simp[this]
  ·exact h.a p hp,h.nw,h.rd⟩
theorem Mem.ne {H:T} {nx:Nat} {S:List Seg} {F:FZ}: ∀{S:List Seg} {p q i j:Nat} {b c:Blk},(ar S).Nodup→bL S p= [(i,b)]→bL S q= [(j,c)]→Nat.beq p q=false→i≠j
 | a::S,0,0,_,_,_,_,_,_,_,hpq=>by simp at hpq
 | a::S,0,q+1,i,j,b,c,hn,hp,hq,_=>by
  have hp':a= [(i,b)]:=hp
  subst hp'
  have hm:j∈ar S:=List.mem_map.2 ⟨(j,c),fh S q _ (by rw[show bL S q= [(j,c)] from hq]; exact List.mem_singleton.2 rfl),rfl⟩
  simp only[ar,List.flatten_cons,List.map_append,List.map_cons,List.map_nil,List.cons_append,List.nil_append,List.nodup_cons] at hn
  intro e
  subst e
  exact hn.1 hm
 | a::S,p+1,0,i,j,b,c,hn,hp,hq,_=>by
  have hq':a= [(j,c)]:=hq
  subst hq'
  have hm:i∈ar S:=List.mem_map.2 ⟨(i,b),fh S p _ (by rw[show bL S p= [(i,b)] from hp]; exact List.mem_singleton.2 rfl),rfl⟩
  simp only[ar,List.flatten_cons,List.map_append,List.map_cons,List.map_nil,List.cons_append,List.nil_append,List.nodup_cons] at hn
  intro e
  subst e
  exact hn.1 hm
 | a::S,p+1,q+1,i,j,b,c,hn,hp,hq,hpq=>by
  simp only[ar,List.flatten_cons,List.map_append] at hn
  exact Mem.ne (H:=H) (nx:=nx) (S:=S) (F:=F) (List.nodup_append.1 hn).2.1 (show bL S p=_ from hp) (show bL S q=_ from hq) hpq
 | [],p,q,_,_,_,_,_,hp,_,_=>by cases hp
theorem Stt.ne {E:Env} {s:St} {kn:Kn} {S:List Seg} {F:FZ} {L:List Seg} {F0:FZ} {nx0:Nat} (hS:Stt E s kn S F L F0 nx0) {p q i j:Nat} {b c:Blk} (hp:bL (S++L) p= [(i,b)]) (hq:bL (S++L) q= [(j,c)]) (hpq:Nat.beq p q=false):i≠j:=Mem.ne (H:=s.H) (nx:=s.nx) (S:=S) (F:=F) hS.mem.nd hp hq hpq
theorem bn {F:FZ} {zs:List Nat} {S:List Seg}:Aw F S zs []:=fun j hj=>by cases hj
theorem aP {F:FZ} {zs:List Nat} {S:List Seg} {j i:Nat} {js:List Nat} (h0:nth zs j=some i) (h1:i∈ar S) (hr:Aw F S zs js):Aw F S zs (j::js):=fun j' hj i' e=>by
 rcases List.mem_cons.1 hj with rfl | hj
 ·rw[h0] at e; obtain rfl:=Option.some.inj e; exact .inl h1
 ·exact hr j' hj i' e
theorem nD {F:FZ} {zs:List Nat} {S:List Seg} {j i:Nat} {b:Blk} {js:List Nat} (h0:nth zs j=some i) (h1:F i=some b) (hr:Aw F S zs js):Aw F S zs (j::js):=fun j' hj i' e=>by
 rcases List.mem_cons.1 hj with rfl | hj
 ·rw[h0] at e; obtain rfl:=Option.some.inj e; exact .inr (by rw[h1]; simp)
 ·exact hr j' hj i' e
theorem mm0 {i:Nat} {b:Blk} {S:List Seg}:i∈ar ([(i,b)]::S):=by simp[ar]
theorem mm1 {i:Nat} {a:Seg} {S:List Seg} (h:i∈ar S):i∈ar (a::S):=by simp only[ar,List.flatten_cons,List.map_append,List.mem_append]; exact .inr h
section
variable {α:Type} [Inhabited α] {d:El α} {F:FZ} {l:List α} {cs:List Value}
theorem ai.loadF (h:ai d F l cs) (ex:List Value) {j:Int} (hj:0≤j∧j<(l.length:Int)) {z:Nat} (hs:d.sz=z): ∃c,d.R F (gt l j) c∧(∀k,k<z→nth (cs++ex) (0+j.toNat*z+k)=nth c k)∧nth (cs++ex) (0+j.toNat*z)=nth c 0∧bv (cs++ex) (0+j.toNat*z) z=some c:=by
 obtain⟨c,k1,k2,k3⟩:=h.elem ex hj.1 hj.2
 subst hs
 have key: ∀k,k<d.sz→nth (cs++ex) (0+j.toNat*d.sz+k)=nth c k:=fun k hk=>by rw[bs c,← k3 k hk,Nat.zero_add]
 exact⟨c,k1,key,by have:=key 0 d.pos; rwa [Nat.add_zero] at this,by simpa using k2⟩
theorem kr {E:Env} {s:St} {kn:Kn} {S:List Seg} {F:FZ} {L:List Seg} {F0:FZ} {nx0:Nat} (hS:Stt E s kn S F L F0 nx0) {a b:TypeId} {x:Operand} {v:Value} (hx:lkO E.NG kn x=some v) (hv:bG v=none):aN (.convert a b x) (opv E.NG s.fr)=none:=by
 show bG (opv E.NG s.fr x)=_
 rw[hS.lk hx,hv]
end
end Go.Proofs.YtcafgoomipkljaaGreatDoorAi
namespace Go.Proofs.YtcafgoomipkljaaGreatDoorAi
open Go Go.RowKit
set_option linter.unusedVariables false
set_option linter.unusedSimpArgs false
set_option linter.unusedSectionVars false
section
variable {α:Type} {d:El α} {F:FZ} {a:Option Addr} {z:Nat} {l:List α}
theorem Stt.frzO {E:Env} {s:St} {kn:Kn} {S:List Seg} {L:List Seg} {F0:FZ} {nx0:Nat} {B:Seg} (hS:Stt E s kn (B::S) F L F0 nx0) (hO:Own d F a z l B): ∃F',FLe F F'∧Stt E s kn S F' L F0 nx0∧Frz d F' a z l:=by
 rcases hO with⟨rfl,rfl,rfl,rfl⟩ | ⟨i,cs,ex,rfl,rfl,rfl,hC⟩
 ·exact⟨F,FLe.refl F,hS.drop,Frz.nil⟩
 ·obtain⟨h1,h2⟩:=hS.frz
  refine⟨_,h2,h1,.inr ⟨i,0,cs++ex,d.e,d.sz,true,rfl,.inr rfl,if_pos rfl,?_,?_⟩⟩
  ·rw[List.drop_zero,← hC.len,List.take_left]; exact hC.mono h2
  ·rw[List.length_append,← hC.len]; omega
theorem Frz.addr (h:Frz d F a z l) (hl:0<l.length): ∃i off,a=some ⟨i,off,none⟩:=by
 obtain⟨i,off,cs,e,ez,own,h1,_⟩:=h.some_ hl
 exact⟨i,off,h1⟩
theorem Frz.at [Inhabited α] {i off:Nat} {j:Int} (h:Frz d F (some ⟨i,off,none⟩) z l) (hj:0≤j∧j<(l.length:Int)) {m:Nat} (hs:d.sz=m) :
  ∃cs e ez own c,F i=some (.row cs e ez own)∧d.R F (gt l j) c∧nth cs (off+j.toNat*m)=nth c 0∧(∀k,k<m→nth cs (off+j.toNat*m+k)=nth c k)∧bv cs (off+j.toNat*m) m=some c:=by
 subst hs
 obtain⟨i',off',cs,e,ez,own,h1,h2,h3,h4,h5⟩:=h.some_ (by omega)
 obtain⟨rfl,rfl⟩:i=i'∧off=off':=by simpa using h1
 obtain⟨c,k1,k2,k3⟩:=h4.get (j:=j.toNat) (by omega)
 have hlen:=d.len k1
 have hp:=d.pos
 have hm:j.toNat*d.sz+d.sz≤l.length*d.sz:=by
  have:(j.toNat+1)*d.sz≤l.length*d.sz:=Nat.mul_le_mul_right _ (by omega)
  rwa [Nat.succ_mul] at this
 have key: ∀k,k<d.sz→nth cs (off+j.toNat*d.sz+k)=nth c k:=fun k hk=>by
  rw[bs,bs,← k2,List.getElem?_take_of_lt hk,List.getElem?_drop,List.getElem?_take_of_lt (by omega),List.getElem?_drop,Nat.add_assoc]
 refine⟨cs,e,ez,own,c,h3,k1,by have:=key 0 hp; rwa [Nat.add_zero] at this,key,?_⟩
 unfold bv
 rw[bW (Nat.ble_eq_true_of_le (by omega)),← k2,List.drop_take,List.drop_drop,List.take_take]
 congr 2
 omega
theorem Frz.slice (h:Frz d F a z l) {lo hi:Int} (hc:0≤lo∧lo≤hi∧hi≤(l.length:Int)) {m:Nat} (hs:d.sz=m): ∃a',kT a l.length z (some lo) (some hi) (some m)=some (.slice a' (mid l lo hi).length z)∧Frz d F a' z (mid l lo hi):=by
 subst hs
 have hml:(mid l lo hi).length=(hi-lo).toNat:=by unfold mid; rw[List.length_drop,List.length_take]; omega
 rcases h with⟨rfl,rfl,rfl⟩ | ⟨i,off,cs,e,ez,own,rfl,h2,h3,h4,h5⟩
 ·simp only[List.length_nil] at hc
  refine⟨none,?_,.inl ⟨rfl,rfl,by simp[mid]⟩⟩
  show slA lo hi 0 d.sz 0 none=_
  show(if lo=0∧hi=0∧0=0∧0=0 then some (Value.slice none 0 0) else none)=_
  rw[if_pos ⟨by omega,by omega,rfl,rfl⟩,hml]
  have:(hi-lo).toNat=0:=by omega
  rw[this]
 ·refine⟨some ⟨i,off+lo.toNat*d.sz,none⟩,?_,.inr ⟨i,off+lo.toNat*d.sz,cs,e,ez,own,rfl,h2,h3,?_,?_⟩⟩
  ·show slA lo hi l.length d.sz z (some ⟨i,off,none⟩)=_
   show(if 0≤lo∧lo≤hi∧hi≤(l.length:Int)∧(z=0∨z=d.sz) then some (Value.slice (some ⟨i,off+lo.toNat*d.sz,none⟩) (hi-lo).toNat z) else none)=_
   rw[if_pos ⟨hc.1,hc.2.1,hc.2.2,h2⟩,hml]
  ·have:=(h4.take hi.toNat).drop lo.toNat
   rw[show(l.take hi.toNat).drop lo.toNat=mid l lo hi from rfl] at this
   rw[hml,List.take_take,List.drop_take,List.drop_drop] at *
   have e1:min (hi.toNat*d.sz) (l.length*d.sz)=hi.toNat*d.sz:=Nat.min_eq_left (Nat.mul_le_mul_right _ (by omega))
   rw[e1,← Nat.sub_mul] at this
   rw[show(hi-lo).toNat=hi.toNat-lo.toNat by omega]
   exact this
  ·rw[hml]
   have:off+(lo.toNat*d.sz+(hi-lo).toNat*d.sz)≤cs.length:=by
    rw[← Nat.add_mul]
    exact Nat.le_trans (Nat.add_le_add_left (Nat.mul_le_mul_right _ (by omega)) _) h5
   omega
end
section
variable {P:Program} {nx:Nat} {ty:TypeId} {ρ:Operand→Value} {b:Option Blk} {x y:Operand} {v:Value} {k:IntKind} {m n:Int}
theorem fi {t:TypeId} {a:Option Addr} {j z sz:Nat} {lo hi:Option Operand} {i h:Int} (hn:cN P t=some sz) (hx:ρ x= .slice a j z) (hl:bM (lo.map ρ) 0=some i) (hh:bM (hi.map ρ) j=some h) (he:kT a j z (some i) (some h) (some sz)=some v) :
  al (.slice t x lo hi none) P nx ty ρ b=some (v,.none):=by
 show aA (lX P t (ρ x) (lo.map ρ) (hi.map ρ))=_
 rw[hx]
 show aA (kT a j z (bM (lo.map ρ) 0) (bM (hi.map ρ) j) (cN P t))=_
 rw[hl,hh,hn,he]; rfl
theorem aop_rng {t:TypeId} {l:List UInt8} (hu:P.underlying t=some .string) (hx:ρ x=aa l):al (.range t x) P nx ty ρ b=some (.pointer (some ⟨nx,0,none⟩),.new (.iter ⟨l.toArray⟩ 0)):=by
 show iq P nx t (ρ x)=_
 rw[hx]
 show(bif cd P t then _ else _)=_
 unfold cd
 rw[hu]; rfl
def dec (l:List UInt8) (p:Nat):Nat×Nat:=Utf8.decode ⟨l.toArray⟩ p
theorem aop_nx1 {i:Nat} {l:List UInt8} {p:Nat} (hx:ρ x= .pointer (some ⟨i,0,none⟩)) (hp:p<l.length):al (.next x true) P nx ty ρ (some (.iter ⟨l.toArray⟩ p))=some (.tuple #[.bool true,.int .i64 (p:Nat),.int .i32 ((dec l p).1:Nat)],.upd (.iter ⟨l.toArray⟩ (p+(dec l p).2))):=by
 show mV (ρ x) (some (.iter ⟨l.toArray⟩ p))=_
 rw[hx]
 show ll ⟨l.toArray⟩ p=_
 unfold ll
 rw[nC,if_pos hp]; rfl
theorem aop_nx0 {i:Nat} {l:List UInt8} {p:Nat} (hx:ρ x= .pointer (some ⟨i,0,none⟩)) (hp: ¬ p<l.length):al (.next x true) P nx ty ρ (some (.iter ⟨l.toArray⟩ p))=some (.tuple #[.bool false],.none):=by
 show mV (ρ x) (some (.iter ⟨l.toArray⟩ p))=_
 rw[hx]
 show ll ⟨l.toArray⟩ p=_
 unfold ll
 rw[nC,if_neg hp]
end
section
variable {E:Env} {s:St} {kn:Kn} {S:List Seg} {F:FZ} {L:List Seg} {F0:FZ} {nx0:Nat} {l:List Oper} {ops:Array Oper} {o:Oper} {inf:Option (List (List Nat))} {zs:List Nat} {rs:List Rec} {n:Nat} {qs ls:List Nat} {as ns ds:List (Nat×Nat)} {Q:St→Prop} {d:Nat} {v:Value}
theorem q_up {i p:Nat} {b b':Blk} (hS:Stt E s kn S F L F0 nx0) (hw:am ops s.fr o=some true) (hc:aQ o.op=false) (hd:o.dst=some d) (ht:aN o.op (opv E.NG s.fr)=some i) (hp:bL S p= [(i,b)]) (hv:al o.op E.P s.nx o.type (opv E.NG s.fr) (some b)=some (v,.upd b'))
  (k: ∀s',Stt E s' ((d,v)::kn) (iE S p [(i,b')]) F L F0 nx0→QW E l ops s' Q):QW E (o::l) ops s Q:=by
 have hpl:p<S.length:=gS (by rw[hp]; simp)
 have hpA:bL (S++L) p= [(i,b)]:=by rw[eh S L p hpl,hp]
 have hb:=hS.mem.at hpA
 have hfr:=hS.mem.front hpA
 rw[di S L p hpl] at hfr
 have hno:=rc hfr hS.le
 refine KW.upd (inf:=none) rfl hw hc (RS.start []) ht (by rw[hb]; exact hv) [] rfl (fun j hj=>by cases hj) fun rs' hr=>k _ ⟨by rw[hd]; exact hS.fx.put d _,?_,hS.le,hS.nx,fun j hj=>?_⟩
 ·refine(hfr.setH (b':=b')).perm ?_
  have:=fF (S++L) p [(i,b')] (by rw[hpA]; simp)
  rw[di S L p hpl,gR S L p _ hpl] at this
  simpa using this
 ·rcases cT hj with hj | hj
  ·rw[List.mem_singleton] at hj; subst hj; exact hno
  ·exact hS.ms j hj
theorem sN (hS:Stt E s kn S F L F0 nx0) {i:Nat} {x:Operand} {b:Bool} (hx:lkO E.NG kn x=some (.pointer (some ⟨i,0,none⟩))):aN (.next x b) (opv E.NG s.fr)=some i:=by
 show bG (opv E.NG s.fr x)=_
 rw[hS.lk hx]; rfl
end
def sO (t:Nat) (b:Bool):Value:=bif b then .iface t (.chan (some 0)) else .nilIface
def lF {α β:Type} (o:Option α) (a:Option β) (f:α→Option β):Option β:=match o with | none=>a | some x=>f x
def cu {α β:Type} (o:α⊕β) (f:α→Option β):Option β:=match o with | .inl x=>f x | .inr r=>some r
theorem kt {α β:Type} {a:Option β} {f:α→Option β} {r:β} (h:lF none a f=some r):a=some r:=h
theorem ku {α β:Type} {x:α} {a:Option β} {f:α→Option β} {r:β} (h:lF (some x) a f=some r):f x=some r:=h
theorem bp {α β:Type} {x:α} {f:α→Option β} {r:β} (h:cu (.inl x) f=some r):f x=some r:=h
theorem bq {α β:Type} {x:β} {f:α→Option β} {r:β} (h:cu (.inr x) f=some r):some x=some r:=h
section
variable {P:Program} {nx:Nat} {ty:TypeId} {ρ:Operand→Value} {b:Option Blk} {x y:Operand} {v:Value} {k:IntKind} {m n:Int}
theorem pZ {args:Array Operand} {ats:Array TypeId} (ha:args.toList= [x,y]) (hx:ρ x= .int k m) (hy:ρ y= .int k n):al (.call ⟨.builtin .min,args,ats⟩) P nx ty ρ b=some (.int k (if n<m then n else m),.none):=by
 show bMin P ats ty (args.toList.map ρ) b=_
 rw[ha]
 show(bif bJ [ρ x,ρ y] then aA (be (aD P (Builtin.min_ ats ty [ρ x,ρ y].toArray))) else none)=_
 rw[hx,hy]
 show aA (be (aD P (Builtin.min2 (.int k m) (.int k n))))=_
 unfold Builtin.min2
 simp
 split<;>rfl
theorem cF {f:Fn} {fs cs:Array Operand} {vs ws:List Value} (h1:fs.toList.map ρ=vs) (h2:cs.toList.map ρ=ws):al (.makeFunc f fs cs) P nx ty ρ b=some (.func f vs.toArray ws.toArray,.none):=by
 show some (Value.func f (fs.toList.map ρ).toArray (cs.toList.map ρ).toArray,Eff.none)=_
 rw[h1,h2]
theorem aop_fd {t ft:TypeId} {f off sz:Nat} {cs:Array Value} (hx:ρ x= .agg cs) (hf:fieldAt P t f=some (off,sz,ft)) (hg:(P.underlying ft).map cL=some false) (hv:nth cs.toList off=some v):al (.field t x f) P nx ty ρ b=some (v,.none):=by
 obtain⟨u,hu,ha⟩:=Option.map_eq_some_iff.1 hg
 show aA (oj P t f (ρ x))=_
 rw[hx]
 show aA (fdA P cs.toList (fieldAt P t f))=_
 rw[hf]
 unfold fdA
 simp only[hu,ha,hv,cond_false]; rfl
end
section
variable {E:Env} {s:St} {kn:Kn} {S:List Seg} {F:FZ} {L:List Seg} {F0:FZ} {nx0:Nat} {l:List Oper} {ops:Array Oper} {o:Oper} {inf:Option (List (List Nat))} {zs:List Nat} {rs:List Rec} {n:Nat} {qs ls:List Nat} {as ns ds:List (Nat×Nat)} {Q:St→Prop} {d:Nat} {v:Value}
theorem cf0 {P:Program} {nx:Nat} {ty:TypeId} {x:Operand} {t u e:TypeId} (hs:P.underlying t=some (.slice e)) (hb:bX P e=true) (hu:P.underlying u=some .string): ∀ρ:Operand→Value,ρ x= .slice none 0 0→al (.convert t u x) P nx ty ρ none=some (aa [],.none):=fun ρ h=>kq h hs hb hu
theorem cf1 {P:Program} {nx:Nat} {ty:TypeId} {x:Operand} {t u e e2:TypeId} {lst:List UInt8} {z:Nat} (hs:P.underlying t=some (.slice e)) (hb:bX P e=true) (hu:P.underlying u=some .string) :
  ∀(ρ:Operand→Value) i off cs e3 z3 own,ρ x= .slice (some ⟨i,off,none⟩) lst.length z→ai (elB e2) F lst ((cs.drop off).take lst.length)→off+lst.length≤cs.length→al (.convert t u x) P nx ty ρ (some (.row cs e3 z3 own))=some (aa lst,.none):=fun ρ i off cs e3 z3 own h hC hl=>iK h hs hb hu hC (by
 unfold bv
 rw[bW (Nat.ble_eq_true_of_le hl)])
theorem qc {P:Program} {ats:Array TypeId} {e sz:Nat} {a:Option Addr} {j z:Nat} {y:Value} {H:T} {nx:Nat} (ht:ApT P ats e sz) (hlen:jk y=some 0) (hj:a=none→j=0):bY P ats [.slice a j z,y] H nx=some (.slice a j z,H,nx,[]):=by
 obtain⟨t,t2,u,i,zz,h0,h1,h2,h3,h4,h5,h6,h7,h8,h9,h10⟩:=ht.ok
 rw[kp h0 h1 h2 h3 h4 h5 h6 h7 (by omega),hlen]
 show jL H nx i e (.slice a j z) y a j z 0=_
 unfold jL
 rw[show Nat.beq 0 0=true from rfl,cond_true]
 unfold l6
 cases a with
 | none=>simp only; rw[hj rfl]; rfl
 | some a=>rfl
theorem K.apF {α:Type} {dd:El α} {ats:Array TypeId} {x y:Operand} {a a2:Option Addr} {z z2:Nat} {lst m:List α} {B:Seg} (hS:Stt E s kn (B::S) F L F0 nx0) (hq:RS zs rs n qs ls as ns ds) (hi:okI inf=true) (hw:am ops s.fr o=some true)
  (ho:o.op= .call ⟨.builtin .append,#[x,y],ats⟩) (hd:o.dst=some d) (ht:ApT E.P ats dd.e dd.sz) (hx:lkO E.NG kn x=some (.slice a lst.length z)) (hy:lkO E.NG kn y=some (.slice a2 m.length z2)) (hO:Own dd F a z lst B) (hz:Frz dd F a2 z2 m) (hb:lst.length+m.length<1000000000) (js:List Nat) (hun:okU zs qs ls ds ns js (cZ inf)=true) (hmb:mbN ns zs (cZ inf)= []) (hj:Aw F S zs js)
  (k: ∀s' rs' a' z' B',Own dd F a' z' (lst++m) B'→Stt E s' ((d,.slice a' (lst++m).length z')::kn) (B'::S) F L F0 nx0→RS zs rs' (n+1) qs ls (js.map (fun j=>(n,j))++as) ns ds→KW E l ops (cr inf) rs' s' Q):KW E (o::l) ops inf rs s Q:=by
 have hM:Mem s.H s.nx (B::(S++L)) F:=hS.mem
 by_cases hm:m.length=0
 ·obtain rfl:m= []:=List.eq_nil_of_length_eq_zero hm
  have hj0:a=none→lst.length=0:=fun e=>by
   rcases hO with⟨_,_,rfl,_⟩ | ⟨i,cs,ex,h,_⟩
   ·rfl
   ·rw[e] at h; cases h
  refine KW.call (v:= .slice a lst.length z) (H:=s.H) (nx:=s.nx) (ms:=[]) [] hi hw (by rw[ho]; rfl) hq ⟨0,fun n _=>?_⟩ js hun hmb (fun q hq' i' e=>⟨hM.drop1.alt (hj q hq' i' e),by simp⟩) fun rs' hr=>k _ rs' a z B (by rw[List.append_nil]; exact hO) ⟨by rw[hd,List.append_nil]; exact hS.fx.put d _,hM,hS.le,hS.nx,hS.ms⟩ hr
  rw[ho]
  show bY E.P ats [opv E.NG s.fr x,opv E.NG s.fr y] s.H s.nx=_
  rw[hS.lk hx,hS.lk hy]
  exact qc ht rfl hj0
 ·obtain⟨i2,off,cs2,e2,ez,own,rfl,hz2,hF,hC,hlen⟩:=hz.some_ (by omega)
  have hget:=hS.fat hF
  have hsrc:bD s.H dd.sz m.length (.slice (some ⟨i2,off,none⟩) m.length z2)=some ((cs2.drop off).take (m.length*dd.sz)):=by
   unfold bD
   simp only[hget]
   unfold bv
   rw[bW (Nat.ble_eq_true_of_le hlen)]
  obtain⟨cs,H',ms,h1,h2,h3,h4⟩:=mv ht hM hO (y:= .slice (some ⟨i2,off,none⟩) m.length z2) rfl (by omega) hsrc hC hb
  refine KW.call (v:= .slice (some ⟨s.nx,0,none⟩) (lst++m).length dd.sz) (H:=H') (nx:=s.nx+1) (ms:=ms) [] hi hw (by rw[ho]; rfl) hq ⟨0,fun n _=>?_⟩ js hun hmb (fun q hq' i' e=>⟨hM.drop1.alt (hj q hq' i' e),fun hm'=>by
   obtain⟨b,rfl⟩:=h4 i' hm'
   exact hM.alt2 (hj q hq' i' e) rfl⟩) fun rs' hr=>k _ rs' _ _ _ (Own.blk0 h3) ⟨by rw[hd]; exact hS.fx.put d _,h2,hS.le,Nat.le_succ_of_le hS.nx,fun i hi=>?_⟩ hr
  ·rw[ho]
   show bY E.P ats [opv E.NG s.fr x,opv E.NG s.fr y] s.H s.nx=_
   rw[hS.lk hx,hS.lk hy]
   exact h1
  ·rcases cT hi with hi | hi
   ·obtain⟨b,rfl⟩:=h4 i hi
    exact rc hM hS.le
   ·exact hS.ms i hi
theorem q_apF {α:Type} {dd:El α} {ats:Array TypeId} {x y:Operand} {a a2:Option Addr} {z z2:Nat} {lst m:List α} {B:Seg} (hS:Stt E s kn (B::S) F L F0 nx0) (hw:am ops s.fr o=some true)
  (ho:o.op= .call ⟨.builtin .append,#[x,y],ats⟩) (hd:o.dst=some d) (ht:ApT E.P ats dd.e dd.sz) (hx:lkO E.NG kn x=some (.slice a lst.length z)) (hy:lkO E.NG kn y=some (.slice a2 m.length z2)) (hO:Own dd F a z lst B) (hz:Frz dd F a2 z2 m) (hb:lst.length+m.length<1000000000)
  (k: ∀s' a' z' B',Own dd F a' z' (lst++m) B'→Stt E s' ((d,.slice a' (lst++m).length z')::kn) (B'::S) F L F0 nx0→QW E l ops s' Q):QW E (o::l) ops s Q:=K.apF hS (RS.start []) rfl hw ho hd ht hx hy hO hz hb [] rfl rfl (fun j hj=>by cases hj) fun s' _ a' z' B' hc h _=>k s' a' z' B' hc h
end
def OwnV {α:Type} (d:El α) (F:FZ) (a:Option Addr) (z:Nat) (m:List α) (B:Seg):Prop :=
 (a=none∧z=0∧m= [])∨ ∃i off cs e ez own,a=some ⟨i,off,none⟩∧B= [(i,.row cs e ez own)]∧ai d F m ((cs.drop off).take (m.length*d.sz))∧off+m.length*d.sz≤cs.length
theorem ai.mid {α:Type} {d:El α} {F:FZ} {l:List α} {cs:List Value} (h:ai d F l cs) {lo hi:Int} (hc:0≤lo∧lo≤hi∧hi≤(l.length:Int)) (ex:List Value) :
  ai d F (mid l lo hi) (((cs++ex).drop (lo.toNat*d.sz)).take ((mid l lo hi).length*d.sz))∧lo.toNat*d.sz+(mid l lo hi).length*d.sz≤(cs++ex).length:=by
 have hml:(_root_.Go.Proofs.YtcafgoomipkljaaGreatDoorAi.mid l lo hi).length=hi.toNat-lo.toNat:=by unfold _root_.Go.Proofs.YtcafgoomipkljaaGreatDoorAi.mid; rw[List.length_drop,List.length_take]; omega
 have hlen:=h.len
 have h1:lo.toNat*d.sz+(hi.toNat-lo.toNat)*d.sz=hi.toNat*d.sz:=by rw[← Nat.add_mul]; congr 1; omega
 have h2:hi.toNat*d.sz≤l.length*d.sz:=Nat.mul_le_mul_right _ (by omega)
 rw[hml]
 refine⟨?_,by rw[List.length_append,h1,hlen]; omega⟩
 have:=(h.take hi.toNat).drop lo.toNat
 rw[show(l.take hi.toNat).drop lo.toNat=_root_.Go.Proofs.YtcafgoomipkljaaGreatDoorAi.mid l lo hi from rfl] at this
 have e:((cs++ex).drop (lo.toNat*d.sz)).take ((hi.toNat-lo.toNat)*d.sz)=(cs.take (hi.toNat*d.sz)).drop (lo.toNat*d.sz):=by
  rw[List.drop_take,List.drop_append,List.take_append]
  have e1:hi.toNat*d.sz-lo.toNat*d.sz=(hi.toNat-lo.toNat)*d.sz:=by rw[← Nat.sub_mul]
  rw[e1,List.length_drop]
  have e2:(hi.toNat-lo.toNat)*d.sz-(cs.length-lo.toNat*d.sz)=0:=by omega
  rw[e2,List.take_zero,List.append_nil]
 rw[e]; exact this
theorem Own.view {α:Type} {d:El α} {F:FZ} {a:Option Addr} {z:Nat} {l:List α} {B:Seg} (h:Own d F a z l B) {lo hi:Int} (hc:0≤lo∧lo≤hi∧hi≤(l.length:Int)) {m:Nat} (hs:d.sz=m) :
  ∃a',kT a l.length z (some lo) (some hi) (some m)=some (.slice a' (mid l lo hi).length z)∧OwnV d F a' z (mid l lo hi) B:=by
 subst hs
 have hml:(mid l lo hi).length=(hi-lo).toNat:=by unfold mid; rw[List.length_drop,List.length_take]; omega
 rcases h with⟨rfl,rfl,rfl,rfl⟩ | ⟨i,cs,ex,rfl,rfl,rfl,hC⟩
 ·simp only[List.length_nil] at hc
  refine⟨none,?_,.inl ⟨rfl,rfl,by simp[mid]⟩⟩
  show(if lo=0∧hi=0∧0=0∧0=0 then some (Value.slice none 0 0) else none)=_
  rw[if_pos ⟨by omega,by omega,rfl,rfl⟩,hml]
  have:(hi-lo).toNat=0:=by omega
  rw[this]
 ·obtain⟨h1,h2⟩:=hC.mid hc ex
  refine⟨some ⟨i,0+lo.toNat*d.sz,none⟩,?_,.inr ⟨i,0+lo.toNat*d.sz,cs++ex,d.e,d.sz,true,rfl,rfl,by rw[Nat.zero_add]; exact h1,by rw[Nat.zero_add]; exact h2⟩⟩
  show(if 0≤lo∧lo≤hi∧hi≤(l.length:Int)∧(d.sz=0∨d.sz=d.sz) then some (Value.slice (some ⟨i,0+lo.toNat*d.sz,none⟩) (hi-lo).toNat d.sz) else none)=_
  rw[if_pos ⟨hc.1,hc.2.1,hc.2.2,.inr rfl⟩,hml]
theorem Own.pre {α:Type} {d:El α} {F:FZ} {a:Option Addr} {z:Nat} {l:List α} {B:Seg} (h:Own d F a z l B) {hi:Int} (hc:0≤(0:Int)∧0≤hi∧hi≤(l.length:Int)) {m:Nat} (hs:d.sz=m) :
  kT a l.length z (some 0) (some hi) (some m)=some (.slice a (mid l 0 hi).length z)∧Own d F a z (mid l 0 hi) B:=by
 subst hs
 have hml:(mid l 0 hi).length=(hi-0).toNat:=by unfold mid; rw[List.length_drop,List.length_take]; omega
 rcases h with⟨rfl,rfl,rfl,rfl⟩ | ⟨i,cs,ex,rfl,rfl,rfl,hC⟩
 ·simp only[List.length_nil] at hc
  refine⟨?_,.inl ⟨rfl,rfl,by simp[mid],rfl⟩⟩
  show(if(0:Int)=0∧hi=0∧0=0∧0=0 then some (Value.slice none 0 0) else none)=_
  rw[if_pos ⟨rfl,by omega,rfl,rfl⟩,hml]
  have:(hi-0).toNat=0:=by omega
  rw[this]
 ·refine⟨?_,.inr ⟨i,cs.take (hi.toNat*d.sz),cs.drop (hi.toNat*d.sz)++ex,rfl,rfl,by rw[← List.append_assoc,List.take_append_drop],by simpa[mid] using hC.take hi.toNat⟩⟩
  show(if(0:Int)≤0∧0≤hi∧hi≤(l.length:Int)∧(d.sz=0∨d.sz=d.sz) then some (Value.slice (some ⟨i,0+(0:Int).toNat*d.sz,none⟩) (hi-0).toNat d.sz) else none)=_
  rw[if_pos ⟨hc.1,hc.2.1,hc.2.2,.inr rfl⟩,hml]
  simp
section
variable {E:Env} {s:St} {kn:Kn} {S:List Seg} {F:FZ} {L:List Seg} {F0:FZ} {nx0:Nat} {l:List Oper} {ops:Array Oper} {o:Oper} {inf:Option (List (List Nat))} {zs:List Nat} {rs:List Rec} {n:Nat} {qs ls:List Nat} {as ns ds:List (Nat×Nat)} {Q:St→Prop} {d:Nat} {v:Value}
theorem K.cvV {t u e2:TypeId} {x:Operand} {a:Option Addr} {z p:Nat} {lst:List UInt8} {B:Seg} (hS:Stt E s kn S F L F0 nx0) (hq:RS zs rs n qs ls as ns ds) (hi:okI inf=true) (hw:am ops s.fr o=some true) (ho:o.op= .convert t u x) (hd:o.dst=some d)
  (hx:lkO E.NG kn x=some (.slice a lst.length z)) (hO:OwnV (elB e2) F a z lst B) (hp:bL S p=B)
  (h0: ∀ρ:Operand→Value,ρ x= .slice none 0 0→al (.convert t u x) E.P s.nx o.type ρ none=some (aa [],.none))
  (h1: ∀(ρ:Operand→Value) i off cs e3 z3 own,ρ x= .slice (some ⟨i,off,none⟩) lst.length z→ai (elB e2) F lst ((cs.drop off).take lst.length)→off+lst.length≤cs.length→al (.convert t u x) E.P s.nx o.type ρ (some (.row cs e3 z3 own))=some (aa lst,.none))
  (hu:rb (cZ inf) (qs++ls)=true) (k: ∀s' rs',Stt E s' ((d,aa lst)::kn) S F L F0 nx0→RS zs rs' (n+1) qs (n::ls) as ns ds→KW E l ops (cr inf) rs' s' Q):KW E (o::l) ops inf rs s Q:=by
 rcases hO with⟨rfl,rfl,rfl⟩ | ⟨i,off,cs,e,ez,own,rfl,rfl,hC,hlen⟩
 ·refine KW.op hi hw (by rw[ho]; rfl) hq none (by rw[ho]; show bG (opv E.NG s.fr x)=_; rw[hS.lk hx]; rfl) (v:=aa []) (by rw[ho]; exact h0 _ (hS.lk hx)) (fun i h=>(by cases h)) fun rs' _ hr _=>k _ rs' ?_ hr
  rw[hd]; exact hS.put d _
 ·have hpl:p<S.length:=gS (by rw[hp]; simp)
  have hb:s.H.get i=some (.row cs e ez own):=hS.mem.at (k:=p) (by rw[eh S L p hpl,hp])
  have hs1:(elB e2).sz=1:=rfl
  rw[hs1,Nat.mul_one] at hC hlen
  refine KW.op hi hw (by rw[ho]; rfl) hq (some i) (by rw[ho]; show bG (opv E.NG s.fr x)=_; rw[hS.lk hx]; rfl) (v:=aa lst) (by rw[ho]; show al (.convert t u x) E.P s.nx o.type (opv E.NG s.fr) (s.H.get i)=_; rw[hb]; exact h1 _ i off cs e ez own (hS.lk hx) hC hlen) (fun i' h=>by obtain rfl:=Option.some.inj h; exact hq.has0 hu) fun rs' _ hr _=>k _ rs' ?_ hr
  rw[hd]; exact hS.put d _
theorem q_cvV {t u e2:TypeId} {x:Operand} {a:Option Addr} {z p:Nat} {lst:List UInt8} {B:Seg} (hS:Stt E s kn S F L F0 nx0) (hw:am ops s.fr o=some true) (ho:o.op= .convert t u x) (hd:o.dst=some d)
  (hx:lkO E.NG kn x=some (.slice a lst.length z)) (hO:OwnV (elB e2) F a z lst B) (hp:bL S p=B)
  (h0: ∀ρ:Operand→Value,ρ x= .slice none 0 0→al (.convert t u x) E.P s.nx o.type ρ none=some (aa [],.none))
  (h1: ∀(ρ:Operand→Value) i off cs e3 z3 own,ρ x= .slice (some ⟨i,off,none⟩) lst.length z→ai (elB e2) F lst ((cs.drop off).take lst.length)→off+lst.length≤cs.length→al (.convert t u x) E.P s.nx o.type ρ (some (.row cs e3 z3 own))=some (aa lst,.none))
  (k: ∀s',Stt E s' ((d,aa lst)::kn) S F L F0 nx0→QW E l ops s' Q):QW E (o::l) ops s Q:=K.cvV hS (RS.start []) rfl hw ho hd hx hO hp h0 h1 rfl fun s' _ h _=>k s' h
end
theorem ae {N:St→Prop} {Q:Exit→St→Prop} {i:Nat} {s:St} (h:Q (.exit i) s):gP N Q (.exit i) s:=h
theorem bw {α β:Type} {P:Program}: ∀{x:Sem α} {f:α→Sem β} {a:α},aD P x=some a→aD P (x >>= f)=aD P (f a)
 | .pure _,f,a,h=>by obtain rfl:=Option.some.inj h; rfl
 | .program k,f,a,h=>bw (x:=k P) h
 | .mark _ k,f,a,h=>bw (x:=k) h
def dY {X R:Type} (body:(X→Option R)→X→Option R):Nat→X→Option R
 | 0,_=>none
 | n+1,x=>body (dY body n) x
open Classical in
noncomputable def fixC {X R:Type} (body:(X→Option R)→X→Option R) (x:X):Option R:=if h: ∃r n,dY body n x=some r then some h.choose else none
noncomputable def ri {X R:Type} (body:(X→Option R)→X→Option R) (x:X):Option R:=match dY body 100000 x with | some r=>some r | none=>fixC body x
theorem lG {X R:Type} {body:(X→Option R)→X→Option R} {x:X} {r:R} (h:ri body x=some r): ∃n,dY body n x=some r:=by
 unfold ri at h
 split at h
 ·next q hq=>obtain rfl:=Option.some.inj h; exact⟨_,hq⟩
 ·unfold fixC at h
  split at h
  ·rename_i hx
   obtain rfl:=Option.some.inj h
   exact hx.choose_spec
  ·cases h
theorem aJ {c a:Bool} (h:c=true):Value.bool a= .bool (c&&a):=by rw[h]; rfl
theorem aL {c a:Bool} (h:c=false):Value.bool false= .bool (c&&a):=by rw[h]; rfl
theorem bH {c a:Bool} (h:c=true):Value.bool true= .bool (c||a):=by rw[h]; rfl
theorem bI {c a:Bool} (h:c=false):Value.bool a= .bool (c||a):=by rw[h]; rfl
theorem kv (ops:Array Oper) (E:Env) (call:aS): ∀(l m:List Oper) (s:St),eK (l++m) ops E call s=(match eK l ops E call s with | some s'=>eK m ops E call s' | Option.none=>Option.none)
 | [],m,s=>rfl
 | o::l,m,s=>by
  rw[List.cons_append,bT,bT]
  cases am ops s.fr o with
  | none=>rfl
  | some b =>
   cases b with
   | false=>exact kv ops E call l m _
   | true =>
    show dB (eK (l++m)) ops E call (cG E call o s)=(match dB (eK l) ops E call (cG E call o s) with | some s'=>eK m ops E call s' | Option.none=>Option.none)
    cases cG E call o s with
    | none=>rfl
    | some s'=>exact kv ops E call l m s'
def qe:Nat→List Oper→List Oper
 | 0,_=>[]
 | n+1,a::l=>a::qe n l
 | _+1,[]=>[]
def qf:Nat→List Oper→List Oper
 | 0,l=>l
 | n+1,_::l=>qf n l
 | _+1,[]=>[]
theorem kw: ∀(n:Nat) (l:List Oper),qe n l++qf n l=l
 | 0,l=>rfl
 | n+1,a::l=>by simp[qe,qf,kw n l]
 | _+1,[]=>rfl
theorem ay {E:Env} {l:List Oper} {ops:Array Oper} {s:St} {Q:St→Prop} (m:Nat) (J:St→Prop) (h:QW E (qe m l) ops s J) (hk: ∀s',J s'→QW E (qf m l) ops s' Q):QW E l ops s Q:=by
 obtain⟨s1,n1,h1,hj⟩:=h
 obtain⟨s2,n2,h2,hq⟩:=hk s1 hj
 refine⟨s2,max n1 n2,fun n hn=>?_,hq⟩
 rw[← kw m l,kv,h1 n (by omega)]
 exact h2 n (by omega)
end Go.Proofs.YtcafgoomipkljaaGreatDoorAi
namespace Go.Proofs.YtcafgoomipkljaaGreatDoorAi
open Go Go.RowKit
set_option linter.unusedVariables false
set_option linter.unusedSimpArgs false
set_option linter.unusedSectionVars false
def rj {α:Type} (l:List α) (j:Int) (x:α):List α:=l.set j.toNat x
theorem nE {α:Type} (l:List α) (j:Int) (x:α):(rj l j x).length=l.length:=List.length_set
theorem gW: ∀(vs cs ex:List Value) (o:Nat),o+vs.length≤cs.length→setCells (cs++ex) o vs=setCells cs o vs++ex
 | [],cs,ex,o,h=>rfl
 | v::vs,cs,ex,o,h=>by
  rw[List.length_cons] at h
  show setCells ((cs++ex).set o v) (o+1) vs=setCells (cs.set o v) (o+1) vs++ex
  rw[List.set_append_left _ _ (by omega),gW vs _ ex (o+1) (by rw[List.length_set]; omega)]
theorem eO: ∀(vs c r:List Value) (o:Nat),setCells (c++r) (c.length+o) vs=c++setCells r o vs
 | [],c,r,o=>rfl
 | v::vs,c,r,o=>by
  show setCells ((c++r).set (c.length+o) v) (c.length+o+1) vs=c++setCells (r.set o v) (o+1) vs
  rw[List.set_append_right _ _ (by omega),show c.length+o-c.length=o by omega,Nat.add_assoc,eO vs]
theorem gX: ∀(vs c r:List Value),vs.length=c.length→setCells (c++r) 0 vs=vs++r
 | [],[],r,h=>rfl
 | v::vs,x::c,r,h=>by
  show setCells ((x::(c++r)).set 0 v) 1 vs=v::(vs++r)
  rw[List.set_cons_zero]
  have h1:=eO vs [v] (c++r) 0
  rw[show [v]++(c++r)=v::(c++r) from rfl] at h1
  rw[show([v]:List Value).length+0=1 from rfl] at h1
  rw[h1,gX vs c r (by simpa using h)]; rfl
 | [],_::_,_,h=>by simp at h
 | _::_,[],_,h=>by simp at h
section
variable {α:Type} {d:El α} {F:FZ} {l:List α} {cs:List Value}
theorem ai.setN: ∀{l:List α} {cs:List Value} {j:Nat} {x:α} {vs:List Value},ai d F l cs→j<l.length→d.R F x vs→ai d F (l.set j x) (setCells cs (j*d.sz) vs)
 | [],cs,j,x,vs,h,hj,hv=>by simp at hj
 | y::l,cs,0,x,vs,⟨c,r,e,h1,h2⟩,hj,hv=>by
  rw[e,Nat.zero_mul,gX vs c r (by rw[d.len hv,d.len h1])]
  exact⟨vs,r,rfl,hv,h2⟩
 | y::l,cs,j+1,x,vs,⟨c,r,e,h1,h2⟩,hj,hv=>by
  rw[e,show(j+1)*d.sz=c.length+j*d.sz by rw[d.len h1,Nat.succ_mul,Nat.add_comm],eO]
  exact⟨c,_,rfl,h1,h2.setN (by simpa using hj) hv⟩
theorem ai.set (h:ai d F l cs) {j:Int} (hj:0≤j∧j<(l.length:Int)) {x:α} {vs:List Value} (hv:d.R F x vs) {z:Nat} (hz:d.sz=z):ai d F (rj l j x) (setCells cs (0+j.toNat*z) vs):=by
 subst hz
 rw[Nat.zero_add]
 exact h.setN (by omega) hv
theorem sP {j n z:Nat} (h:j<n):j*z+z≤n*z:=by
 rw[← Nat.succ_mul]
 exact Nat.mul_le_mul_right z h
theorem sto_ok (h:ai d F l cs) (ex:List Value) {j:Int} (hj:0≤j∧j<(l.length:Int)) {z:Nat} (hz:d.sz=z) {u:Value} {vs:List Value} (hu:u.cells.toList=vs) (hv:vs.length=z) (ha:vs.all one=true):(Nat.beq u.cells.size z&&Nat.ble (0+j.toNat*z+z) (cs++ex).length&&u.cells.toList.all one)=true:=by
 subst hz
 have hl:=h.len
 have hm:=sP (z:=d.sz) (show j.toNat<l.length by omega)
 have h1:u.cells.size=d.sz:=by rw[← hv,← hu,Array.length_toList]
 rw[hu,ha,h1,Nat.beq_refl,Nat.ble_eq_true_of_le (by rw[List.length_append,hl]; omega)]; rfl
theorem sto_cs (h:ai d F l cs) (ex:List Value) {j:Int} (hj:0≤j∧j<(l.length:Int)) {z:Nat} (hz:d.sz=z) {u:Value} {vs:List Value} (hu:u.cells.toList=vs) (hv:vs.length=z):setCells (cs++ex) (0+j.toNat*z) u.cells.toList=setCells cs (0+j.toNat*z) vs++ex:=by
 subst hz
 have hl:=h.len
 have hm:=sP (z:=d.sz) (show j.toNat<l.length by omega)
 rw[hu,gW _ _ _ _ (by rw[hv,hl]; omega)]
theorem ai.rep {x:α} {z:List Value} (h:d.R F x z): ∀n:Nat,ai d F (List.replicate n x) (f0 z n)
 | 0=>rfl
 | n+1=>⟨z,f0 z n,rfl,h,ai.rep h n⟩
end
theorem aop_mks {P:Program} {nx:Nat} {ty:TypeId} {ρ:Operand→Value} {b:Option Blk} {x y:Operand} {t e:TypeId} {sz:Nat} {n:Int} {z:List Value} {α:Type} {x0:α} (hx:ρ x= .int .i64 n) (hy:ρ y= .int .i64 n) (hu:P.underlying t=some (.slice e)) (hi:(P.info? e).map (fun i=>(i.size,Nat.ble i.bytes 140000))=some (sz,true)) (h0:aV P e=some z) (hz:z.length=sz) (hp:1≤sz) (hc:0≤n∧n<1000000000) :
  al (.makeSlice t x y) P nx ty ρ b=some (.slice (some ⟨nx,0,none⟩) (List.replicate n.toNat x0).length sz,.new (.row (f0 z n.toNat) e sz true)):=by
 show db P nx t (ρ x) (ρ y)=_
 rw[hx,hy]
 show dp P nx t n n=_
 obtain⟨i,hi1,hi2⟩:=Option.map_eq_some_iff.1 hi
 simp only[Prod.mk.injEq] at hi2
 obtain⟨rfl,hb⟩:=hi2
 have hb:=Nat.le_of_ble_eq_true hb
 have hm:n*(i.bytes:Int)≤281474976710656:=by
  have h1:n*(i.bytes:Int)≤1000000000*140000:=Int.mul_le_mul (by omega) (by omega) (by omega) (by decide)
  omega
 unfold dp
 rw[hu]
 simp only[hi1,h0]
 rw[if_pos ⟨hc.1,Int.le_refl _,hm,by omega,hp,hz⟩,List.length_replicate]
theorem qg {P:Program} {nx:Nat} {ty:TypeId} {ρ:Operand→Value} {b:Option Blk} {x y:Operand} {t:TypeId} {i ad ad' len n:Nat} {k:IntKind} {j:Int} (hx:ρ x= .pointer (some ⟨i,ad,none⟩)) (hy:ρ y= .int k j) (hn:gv P t=some (len,n)) (hc:0≤j∧j<(len:Int)) (had:ad+j.toNat*n=ad') :
  al (.indexAddr t x y) P nx ty ρ b=some (.pointer (some ⟨i,ad',none⟩),.none):=by
 subst had
 show aA (f3 P t (ρ x) (ρ y))=_
 rw[hx,hy]
 show aA (iaI P t (.pointer (some ⟨i,ad,none⟩)) j)=_
 have hs:cN P t=none:=by
  unfold gv at hn
  split at hn
  ·rename_i hu
   unfold cN
   rw[hu]
  ·cases hn
 unfold iaI
 rw[hn,hs]
 show aA (mR ⟨i,ad,none⟩ j len n)=_
 unfold mR
 rw[if_pos hc]; rfl
theorem ai.bytes {F:FZ} {e:TypeId}: ∀l:List UInt8,ai (elB e) F l (l.map vB)
 | []=>rfl
 | x::l=>⟨[vB x],l.map vB,rfl,rfl,ai.bytes l⟩
def LdA (rs:List Rec) (k0 i:Nat) (t:TypeId) (ad:Nat) (v0:Value):Prop:= ∃lo,nth rs k0=some ⟨some i,[],lo,lo,false,some (t,⟨i,ad,none⟩,v0)⟩
theorem LdA.old {rs:List Rec} {k0 i:Nat} {t:TypeId} {ad:Nat} {v0:Value} (h:LdA rs k0 i t ad v0) (r:Rec):LdA (rs++ [r]) k0 i t ad v0:=by
 obtain⟨lo,e⟩:=h
 refine⟨lo,?_⟩
 rw[fG r (by rw[bs] at e; exact(List.getElem?_eq_some_iff.1 e).1)]; exact e
section
variable {E:Env} {s:St} {kn:Kn} {S L:List Seg} {F F0:FZ} {nx0:Nat} {l:List Oper} {ops:Array Oper} {o:Oper} {inf:Option (List (List Nat))} {zs:List Nat} {rs:List Rec} {n d:Nat} {qs ls:List Nat} {as ns ds:List (Nat×Nat)} {Q:St→Prop} {v:Value}
end
end Go.Proofs.YtcafgoomipkljaaGreatDoorAi
namespace Go.Proofs.YtcafgoomipkljaaGreatDoorAi
open Go Go.RowKit
set_option linter.unusedVariables false
theorem rk {α:Type} (f:α→Value) (hf: ∀x,flat (f x)=true) (l:List α):plain (.agg (List.map f l).toArray)=true:=by
 show((List.map f l).toArray.toList.all flat)=true
 rw[List.all_eq_true]
 intro v hv
 simp only[List.mem_map] at hv
 obtain⟨x,_,rfl⟩:=hv
 exact hf x
theorem nF {α:Type} [Inhabited α] {P:Program} {nx:Nat} {ty:TypeId} {ρ:Operand→Value} {b:Option Blk} {x y:Operand} {t e:TypeId} {k:IntKind} {n:Nat} {i:Int} {f:α→Value} {l:List α}
  (hu:aD P (underlying t)=some (.array n e)) (hs:aD P (sizeOf e)=some 1) (ha:aD P (isAgg e)=some false) (hf: ∀x,flat (f x)=true) (hx:ρ x= .agg (List.map f l).toArray) (hy:ρ y= .int k i) (hc:0≤i∧i<(n:Int)∧i<(l.length:Int)) :
  al (.index t x y) P nx ty ρ b=some (f (gt l i),.none):=by
 show aA (ip P t (ρ x) (ρ y))=_
 rw[hx,hy]
 obtain⟨j,rfl⟩: ∃j:Nat,i=(j:Int):=⟨i.toNat,by omega⟩
 have hj:j<l.length:=by omega
 have hg:gt l (j:Int)=l[j]:=by
  show l.getD (j:Int).toNat default=_
  rw[Int.toNat_natCast,List.getD_eq_getElem?_getD,List.getElem?_eq_getElem hj]; rfl
 have hp:aD P (Instr.index t (.agg (List.map f l).toArray) (.int k (j:Int)))=some (f (gt l (j:Int))):=by
  unfold Instr.index
  refine(bw (a:=(k,(j:Int))) rfl).trans ?_
  refine(bw hu).trans ?_
  simp only[]
  rw[if_pos ⟨hc.1,hc.2.1⟩]
  refine(bw hs).trans ?_
  unfold part
  refine(bw ha).trans ?_
  rw[Int.toNat_natCast,Nat.mul_one,hg]
  simp[hj]
  rfl
 show aA (bif plain (.agg (List.map f l).toArray)&&plain (.int k (j:Int)) then be (aD P (Instr.index t (.agg (List.map f l).toArray) (.int k (j:Int)))) else Option.none)=_
 rw[rk f hf,hp]
 have:plain (f (gt l (j:Int)))=true:=bO (hf _)
 simp[be,this,aA]
 rfl
theorem sQ {P:Program} {nx:Nat} {ty:TypeId} {ρ:Operand→Value} {b:Option Blk} {x y:Operand} {t u:TypeId} {a c:UInt8} (hx:ρ x=vB a) (hy:ρ y=vB c):al (.binOp .or t x y u) P nx ty ρ b=some (vB (a ||| c),.none):=by
 refine mt hx hy ?_
 show some (Value.int .u8 (IntKind.u8.wrap (((BitVec.ofInt 8 (a.toNat:Int)) ||| (BitVec.ofInt 8 (c.toNat:Int))).toNat:Int)))=some (vB (a ||| c))
 have h1:=a.toNat_lt
 have h2:=c.toNat_lt
 have e:((BitVec.ofInt 8 (a.toNat:Int)) ||| (BitVec.ofInt 8 (c.toNat:Int))).toNat=(a ||| c).toNat:=by
  rw[BitVec.ofInt_natCast,BitVec.ofInt_natCast,BitVec.toNat_or,BitVec.toNat_ofNat,BitVec.toNat_ofNat,UInt8.toNat_or,Nat.mod_eq_of_lt h1,Nat.mod_eq_of_lt h2]
 rw[e]
 have h3:=(a ||| c).toNat_lt
 have:IntKind.u8.wrap ((a ||| c).toNat:Int)=((a ||| c).toNat:Int):=by
  show((a ||| c).toNat:Int) % 256=_
  omega
 rw[this]
theorem sR (e:TypeId) (F:FZ): ∀m:List UInt8,ai (elB e) F m (m.map vB)
 | []=>rfl
 | x::m=>⟨[vB x],m.map vB,rfl,rfl,sR e F m⟩
section
variable {E:Env} {s:St} {kn:Kn} {S L:List Seg} {F F0:FZ} {nx0:Nat} {l:List Oper} {ops:Array Oper} {o:Oper} {inf:Option (List (List Nat))} {zs:List Nat} {rs:List Rec} {n d:Nat} {qs ls:List Nat} {as ns ds:List (Nat×Nat)} {Q:St→Prop}
theorem q_apS {eb:TypeId} {ats:Array TypeId} {x y:Operand} {a:Option Addr} {z:Nat} {lst m:List UInt8} {B:Seg} (hS:Stt E s kn (B::S) F L F0 nx0) (hw:am ops s.fr o=some true)
  (ho:o.op= .call ⟨.builtin .append,#[x,y],ats⟩) (hd:o.dst=some d) (ht:ApT E.P ats eb 1) (hx:lkO E.NG kn x=some (.slice a lst.length z)) (hy:lkO E.NG kn y=some (aa m)) (hO:Own (elB eb) F a z lst B) (hb:lst.length+m.length<1000000000) (h0:lst= []→a=none)
  (k: ∀s' a' z' B',Own (elB eb) F a' z' (lst++m) B'→(lst++m= []→a'=none)→Stt E s' ((d,.slice a' (lst++m).length z')::kn) (B'::S) F L F0 nx0→QW E l ops s' Q):QW E (o::l) ops s Q:=by
 have hM:Mem s.H s.nx (B::(S++L)) F:=hS.mem
 by_cases hm:m.length=0
 ·obtain rfl:m= []:=List.eq_nil_of_length_eq_zero hm
  have hj0:a=none→lst.length=0:=fun e=>by
   rcases hO with⟨_,_,rfl,_⟩ | ⟨i,cs,ex,h,_⟩
   ·rfl
   ·rw[e] at h; cases h
  refine KW.call (inf:=none) (v:= .slice a lst.length z) (H:=s.H) (nx:=s.nx) (ms:=[]) [] rfl hw (by rw[ho]; rfl) (RS.start []) ⟨0,fun n _=>?_⟩ [] rfl rfl (fun q hq' i' e=>by cases hq') fun rs' hr=>k _ a z B (by rw[List.append_nil]; exact hO) (by rw[List.append_nil]; exact h0) ⟨by rw[hd,List.append_nil]; exact hS.fx.put d _,hM,hS.le,hS.nx,hS.ms⟩
  rw[ho]
  show bY E.P ats [opv E.NG s.fr x,opv E.NG s.fr y] s.H s.nx=_
  rw[hS.lk hx,hS.lk hy]
  exact qc ht rfl hj0
 ·have hsrc:bD s.H 1 m.length (aa m)=some (m.map vB):=by
   show(bif Nat.beq 1 1 then some ((bR ⟨m.toArray⟩).take m.length) else none)=_
   have:bR ⟨m.toArray⟩=m.map vB:=rfl
   rw[this,show Nat.beq 1 1=true from rfl,cond_true]
   congr 1
   rw[List.take_of_length_le (by simp)]
  obtain⟨cs,H',ms,h1,h2,h3,h4⟩:=mv (dd:=elB eb) (m:=m) ht hM hO (y:=aa m) rfl (show 0<m.length by omega) hsrc (sR eb F m) hb
  refine KW.call (inf:=none) (v:= .slice (some ⟨s.nx,0,none⟩) (lst++m).length 1) (H:=H') (nx:=s.nx+1) (ms:=ms) [] rfl hw (by rw[ho]; rfl) (RS.start []) ⟨0,fun n _=>?_⟩ [] rfl rfl (fun q hq' i' e=>by cases hq') fun rs' hr=>k _ _ _ _ (Own.blk0 h3) (fun e=>absurd (by rw[(List.append_eq_nil_iff.1 e).2]; rfl) hm) ⟨by rw[hd]; exact hS.fx.put d _,h2,hS.le,Nat.le_succ_of_le hS.nx,fun i hi=>?_⟩
  ·rw[ho]
   show bY E.P ats [opv E.NG s.fr x,opv E.NG s.fr y] s.H s.nx=_
   rw[hS.lk hx,hS.lk hy]
   exact h1
  ·rcases cT hi with hi | hi
   ·obtain⟨b,rfl⟩:=h4 i hi
    exact rc hM hS.le
   ·exact hS.ms i hi
end
section
variable {E:Env} {s:St} {kn:Kn} {S L:List Seg} {F F0:FZ} {nx0:Nat} {l:List Oper} {ops:Array Oper} {o:Oper} {inf:Option (List (List Nat))} {zs:List Nat} {rs:List Rec} {n d:Nat} {qs ls:List Nat} {as ns ds:List (Nat×Nat)} {Q:St→Prop} {v:Value}
theorem K.stD {i p:Nat} {b b':Blk} (hS:Stt E s kn S F L F0 nx0) (hq:RS zs rs n qs ls as ns ds) (hi:okI inf=true) (hw:am ops s.fr o=some true) (hc:aQ o.op=false) (hd:o.dst=some d) (ht:aN o.op (opv E.NG s.fr)=some i) (hp:bL S p= [(i,b)]) (hv:al o.op E.P s.nx o.type (opv E.NG s.fr) (some b)=some (v,.upd b')) (js:List Nat) (hu:okU zs qs ls ds ns js (cZ inf)=true) (hj:Aw F (d5 S p) zs js)
  (k: ∀s' rs',Stt E s' ((d,v)::kn) (iE S p [(i,b')]) F L F0 nx0→RS zs rs' (n+1) qs ls (js.map (fun j=>(n,j))++as) ns ds→KW E l ops (cr inf) rs' s' Q):KW E (o::l) ops inf rs s Q:=by
 have hpl:p<S.length:=gS (by rw[hp]; simp)
 have hpA:bL (S++L) p= [(i,b)]:=by rw[eh S L p hpl,hp]
 have hb:=hS.mem.at hpA
 have hfr:=hS.mem.front hpA
 rw[di S L p hpl] at hfr
 have hno:=rc hfr hS.le
 refine KW.upd hi hw hc hq ht (by rw[hb]; exact hv) js hu (fun j hjj i' e=>⟨hfr.drop1.alt (hj j hjj i' e),hfr.alt2 (hj j hjj i' e)⟩) fun rs' hr=>k _ rs' ⟨by rw[hd]; exact hS.fx.put d _,?_,hS.le,hS.nx,fun j hj=>?_⟩ hr
 ·refine(hfr.setH (b':=b')).perm ?_
  have:=fF (S++L) p [(i,b')] (by rw[hpA]; simp)
  rw[di S L p hpl,gR S L p _ hpl] at this
  simpa using this
 ·rcases cT hj with hj | hj
  ·rw[List.mem_singleton] at hj; subst hj; exact hno
  ·exact hS.ms j hj
end
theorem Cl.same {E:Env} {F:FZ} {g:FuncId} {fn:Func} {v:Value} (hf:E.P.funcs[g]? = some fn) (hb:fn.body=none) (hs:E.same g=true):Cl E g [v] [] F (fun v' S' F'=>F'=F∧v'=v∧S'= []):=by
 intro H nx L hM
 refine⟨v,[],F,H,nx,[],⟨0,fun n _=>?_⟩,hM,FLe.refl F,Nat.le_refl _,fun i hi=>(by cases hi),rfl,rfl,rfl⟩
 rw[hf]
 show cO E (run E n) g [v] H nx fn=_
 unfold cO
 rw[hb]
 show mZ E g [v] H nx=_
 simp[mZ,hs]
def kx (i:Nat) (b:Bool):Value:= .pointer (bif b then some ⟨i,0,none⟩ else none)
end Go.Proofs.YtcafgoomipkljaaGreatDoorAi
namespace Go.Proofs.YtcafgoomipkljaaGreatDoorAi
open Go Go.RowKit
set_option linter.unusedVariables false
structure Tab where
 fa:List ((Nat×Nat)×(Nat×Nat×Nat))
 ag:List (Nat×Bool)
 sz:List (Nat×Nat)
 sl:List Nat
 st:List Nat
def Tab.ok (P:Program) (t:Tab):Prop:=(∀x∈t.fa,fieldAt P x.1.1 x.1.2=some x.2)∧(∀x∈t.ag,(P.underlying x.1).map cL=some x.2)∧(∀x∈t.sz,bh P x.1=some x.2)∧(∀x∈t.sl,∃e,P.underlying x=some (.slice e))∧(∀x∈t.st,P.underlying x=some .string)
def isSl:Option TypeDesc→Bool
 | some (.slice _)=>true
 | _=>false
def isSt:Option TypeDesc→Bool
 | some .string=>true
 | _=>false
theorem Tab.ok_of {P:Program} {t:Tab} (h1:t.fa.all (fun x=>decide (fieldAt P x.1.1 x.1.2=some x.2))=true) (h2:t.ag.all (fun x=>decide ((P.underlying x.1).map cL=some x.2))=true) (h3:t.sz.all (fun x=>decide (bh P x.1=some x.2))=true) (h4:t.sl.all (fun x=>isSl (P.underlying x))=true) (h5:t.st.all (fun x=>isSt (P.underlying x))=true):t.ok P:=by
 rw[List.all_eq_true] at h1 h2 h3 h4 h5
 refine⟨fun x hx=>of_decide_eq_true (h1 x hx),fun x hx=>of_decide_eq_true (h2 x hx),fun x hx=>of_decide_eq_true (h3 x hx),fun x hx=>?_,fun x hx=>?_⟩
 ·have:=h4 x hx
  unfold isSl at this
  split at this
  ·next e h=>exact⟨e,h⟩
  ·cases this
 ·have:=h5 x hx
  unfold isSt at this
  split at this
  ·next h=>exact h
  ·cases this
def oS {β:Type}:List (Nat×β)→Nat→Option β
 | [],_=>none
 | (k,v)::l,t=>bif Nat.beq k t then some v else oS l t
theorem ey {β:Type}: ∀{l:List (Nat×β)} {t:Nat} {v:β},oS l t=some v→(t,v)∈l
 | (k,w)::l,t,v,h=>by
  unfold oS at h
  cases hk:Nat.beq k t
  ·rw[hk] at h; exact List.mem_cons_of_mem _ (ey h)
  ·rw[hk] at h
   obtain rfl:=nbT hk
   obtain rfl:=Option.some.inj h
   exact List.mem_cons_self
def sS:List ((Nat×Nat)×(Nat×Nat×Nat))→Nat→Nat→Option (Nat×Nat×Nat)
 | [],_,_=>none
 | ((k,f),v)::l,t,g=>bif Nat.beq k t&&Nat.beq f g then some v else sS l t g
theorem gY: ∀{l:List ((Nat×Nat)×(Nat×Nat×Nat))} {t g:Nat} {v:Nat×Nat×Nat},sS l t g=some v→((t,g),v)∈l
 | ((k,f),w)::l,t,g,v,h=>by
  unfold sS at h
  cases hk:Nat.beq k t
  ·rw[hk] at h; exact List.mem_cons_of_mem _ (gY h)
  ·cases hf:Nat.beq f g
   ·rw[hk,hf] at h; exact List.mem_cons_of_mem _ (gY h)
   ·rw[hk,hf] at h
    obtain rfl:=nbT hk
    obtain rfl:=nbT hf
    obtain rfl:=Option.some.inj h
    exact List.mem_cons_self
def mw:List Nat→Nat→Bool
 | [],_=>false
 | k::l,t=>bif Nat.beq k t then true else mw l t
theorem gZ: ∀{l:List Nat} {t:Nat},mw l t=true→t∈l
 | k::l,t,h=>by
  unfold mw at h
  cases hk:Nat.beq k t
  ·rw[hk] at h; exact List.mem_cons_of_mem _ (gZ h)
  ·obtain rfl:=nbT hk; exact List.mem_cons_self
noncomputable def syLen (tb:Tab) (ats:Array TypeId):Option Value→Option Value
 | some (.slice a j z)=>(match ats[0]? with | some t=>bif mw tb.sl t then some (.int .i64 (j:Nat)) else none | none=>none)
 | some (.string s)=>(match ats[0]? with | some t=>bif mw tb.st t then some (.int .i64 (s.data.toList.length:Nat)) else none | none=>none)
 | _=>none
noncomputable def syV (tb:Tab) (NG:Nat) (kn:Kn):Op→Option Value
 | .move x=>lkO NG kn x
 | .assign x=>lkO NG kn x
 | .nilCheck x=>(match lkO NG kn x with | some (.pointer (some ⟨i,ad,none⟩))=>some (.pointer (some ⟨i,ad,none⟩)) | _=>none)
 | .fieldAddr t x f=>(match lkO NG kn x,sS tb.fa t f with
  | some (.pointer (some ⟨i,ad,none⟩)),some (off,sz,_)=>bif Nat.beq sz 0 then none else some (.pointer (some ⟨i,ad+off,none⟩))
  | _,_=>none)
 | .field t x f=>(match lkO NG kn x,sS tb.fa t f with
  | some (.agg cs),some (off,_,ft)=>(match oS tb.ag ft with | some false=>nth cs.toList off | _=>none)
  | _,_=>none)
 | .extract x i=>(match lkO NG kn x with | some (.tuple vs)=>nth vs.toList i | _=>none)
 | .binOp op t x y u=>(match lkO NG kn x,lkO NG kn y with | some (.int k m),some (.int j n)=>mU op k m j n | _,_=>none)
 | .unOp .not t x=>(match lkO NG kn x with | some (.bool c)=>some (.bool (!c)) | _=>none)
 | .pick c x y=>(match lkO NG kn c with | some (.bool b)=>(bif b then lkO NG kn x else lkO NG kn y) | _=>none)
 | .call ⟨.builtin .len,args,ats⟩=>(match args.toList with | [x]=>syLen tb ats (lkO NG kn x) | _=>none)
 | _=>none
theorem sT {P:Program} {tb:Tab} (ht:tb.ok P) {NG:Nat} {kn:Kn} {op:Op} {v:Value} (h:syV tb NG kn op=some v) {ρ:Operand→Value} (hρ: ∀x v,lkO NG kn x=some v→ρ x=v) (nx:Nat) (ty:TypeId) (b:Option Blk) :
  aQ op=false∧aN op ρ=none∧al op P nx ty ρ b=some (v,.none):=by
 obtain⟨h1,h2,h3,h4,h5⟩:=ht
 unfold syV at h
 split at h
 ·exact⟨rfl,rfl,gQ (hρ _ _ h)⟩
 ·exact⟨rfl,rfl,gl (hρ _ _ h)⟩
 ·split at h
  ·next e=>obtain rfl:=Option.some.inj h; exact⟨rfl,rfl,gT (hρ _ _ e)⟩
  ·cases h
 ·split at h
  ·next i ad off sz ft e1 e2 =>
   cases hz:Nat.beq sz 0
   ·rw[hz] at h
    obtain rfl:=Option.some.inj h
    exact⟨rfl,rfl,iI (hρ _ _ e1) (h1 _ (gY e2)) hz rfl⟩
   ·rw[hz] at h; cases h
  ·cases h
 ·split at h
  ·next cs off sz ft e1 e2 =>
   split at h
   ·next e3=>exact⟨rfl,rfl,aop_fd (hρ _ _ e1) (h1 _ (gY e2)) (h2 _ (ey e3)) h⟩
   ·cases h
  ·cases h
 ·split at h
  ·next e1=>exact⟨rfl,rfl,aop_ext (hρ _ _ e1) h⟩
  ·cases h
 ·split at h
  ·next e1 e2=>exact⟨rfl,rfl,mt (hρ _ _ e1) (hρ _ _ e2) h⟩
  ·cases h
 ·split at h
  ·next e1=>obtain rfl:=Option.some.inj h; exact⟨rfl,rfl,aop_not (hρ _ _ e1)⟩
  ·cases h
 ·split at h
  ·next b e1 =>
   cases b
   ·exact⟨rfl,rfl,rg (hρ _ _ e1) (hρ _ _ h)⟩
   ·exact⟨rfl,rfl,rf (hρ _ _ e1) (hρ _ _ h)⟩
  ·cases h
 ·next args ats =>
  split at h
  ·next x ha =>
   unfold syLen at h
   split at h
   ·next a j z e =>
    split at h
    ·next t e2 =>
     cases hs:mw tb.sl t
     ·rw[hs] at h; cases h
     ·rw[hs] at h
      obtain rfl:=Option.some.inj h
      obtain⟨e',he⟩:=h4 t (gZ hs)
      exact⟨rfl,rfl,iF ha e2 he (hρ _ _ e)⟩
    ·cases h
   ·next s' e =>
    split at h
    ·next t e2 =>
     cases hs:mw tb.st t
     ·rw[hs] at h; cases h
     ·rw[hs] at h
      obtain rfl:=Option.some.inj h
      exact⟨rfl,rfl,sM (l:=s'.data.toList) ha e2 (h5 t (gZ hs)) (hρ _ _ e)⟩
    ·cases h
   ·cases h
  ·cases h
 ·cases h
def syG (ops:Array Oper) (kn:Kn) (o:Oper):Option Bool :=
 match o.guard with
 | none=>some true
 | some (j,w)=>(match (ops[j]?).bind (·.dst) with
  | some t=>(match lkT kn t with | some (.bool c)=>some (bif c then w else !w) | _=>none)
  | none=>none)
theorem gn {E:Env} {ops:Array Oper} {s:St} {kn:Kn} {S L:List Seg} {F F0:FZ} {nx0:Nat} (hS:Stt E s kn S F L F0 nx0) {o:Oper} {b:Bool} (h:syG ops kn o=some b):am ops s.fr o=some b:=by
 unfold syG at h
 split at h
 ·next hg=>obtain rfl:=Option.some.inj h; exact wn hg
 ·next j w hg =>
  split at h
  ·next t hj =>
   split at h
   ·next c hk =>
    obtain rfl:=Option.some.inj h
    cases c<;>cases w
    ·exact wt hS hg hj hk rfl
    ·exact wf hS hg hj hk rfl
    ·exact wf hS hg hj hk rfl
    ·exact wt hS hg hj hk rfl
   ·cases h
  ·cases h
noncomputable def syS (tb:Tab) (NG:Nat) (ops:Array Oper):List Oper→List Nat→Kn→List Seg→Option (Kn×List Seg×List Nat×List Nat)
 | [],_,kn,S=>some (kn,S,[],[])
 | o::l,hs,kn,S =>
  match syG ops kn o with
  | none=>none
  | some false=>(match o.dst with | some d=>syS tb NG ops l hs ((d,undef)::kn) S | none=>none)
  | some true =>
   match o.op with
   | .load t x =>
    (match hs,o.dst with
    | k::hs,some d =>
     (match lkO NG kn x,bL S k,oS tb.ag t with
     | some (.pointer (some ⟨i,ad,none⟩)),[(j,.row cs e z own)],some false =>
      (match nth cs ad with
      | some v=>(syS tb NG ops l hs ((d,v)::kn) S).map fun r=>(r.1,r.2.1,j::r.2.2.1,i::r.2.2.2)
      | none=>none)
     | some (.pointer (some ⟨i,ad,none⟩)),[(j,.row cs e z own)],some true =>
      (match oS tb.sz t with
      | some m=>(match bv cs ad m with
       | some vs=>(syS tb NG ops l hs ((d,.agg vs.toArray)::kn) S).map fun r=>(r.1,r.2.1,j::r.2.2.1,i::r.2.2.2)
       | none=>none)
      | none=>none)
     | _,_,_=>none)
    | _,_=>none)
   | .store t x y =>
    (match hs,o.dst with
    | k::hs,none =>
     (match lkO NG kn x,lkO NG kn y,bL S k,oS tb.sz t with
     | some (.pointer (some ⟨i,ad,none⟩)),some u,[(j,.row cs e z true)],some m =>
      bif (Nat.beq u.cells.size m&&Nat.ble (ad+m) cs.length&&u.cells.toList.all one)&&Nat.blt k S.length then
       (syS tb NG ops l hs kn (iE S k [(j,.row (setCells cs ad u.cells.toList) e z true)])).map fun r=>(r.1,r.2.1,j::r.2.2.1,i::r.2.2.2)
      else none
     | _,_,_,_=>none)
    | _,_=>none)
   | op =>
    (match syV tb NG kn op,o.dst with
    | some v,some d=>syS tb NG ops l hs ((d,v)::kn) S
    | _,_=>none)
theorem ky: ∀{S L:List Seg} {k:Nat} {a:Nat×Blk},bL S k= [a]→bL (S++L) k= [a]
 | b::S,L,0,a,h=>h
 | b::S,L,k+1,a,h=>ky (S:=S) (L:=L) (k:=k) h
theorem syS_ok {E:Env} {tb:Tab} (ht:tb.ok E.P) {ops:Array Oper} {Q:St→Prop} {L:List Seg} {F F0:FZ} {nx0:Nat}: ∀(l:List Oper) (hs:List Nat) (kn:Kn) (S:List Seg) (r:Kn×List Seg×List Nat×List Nat) (s:St),
  syS tb E.NG ops l hs kn S=some r→r.2.2.1=r.2.2.2→Stt E s kn S F L F0 nx0→ ∀l2,(∀s',Stt E s' r.1 r.2.1 F L F0 nx0→QW E l2 ops s' Q)→QW E (l++l2) ops s Q
 | [],hs,kn,S,r,s,h,hq,hS,l2,k=>by
  unfold syS at h
  obtain rfl:=Option.some.inj h
  exact k s hS
 | o::l,hs,kn,S,r,s,h,hq,hS,l2,k=>by
  have ih:=syS_ok ht (ops:=ops) (Q:=Q) (L:=L) (F:=F) (F0:=F0) (nx0:=nx0) l
  unfold syS at h
  split at h
  ·cases h
  ·next hg =>
   split at h
   ·next d hd=>exact cE hS (gn hS hg) hd fun s' hS'=>ih _ _ _ r s' h hq hS' l2 k
   ·cases h
  ·next hg =>
   split at h
   ·next t x ho =>
    split at h
    ·next k0 hs' d hd =>
     split at h
     ·next i ad j cs e z own e1 e2 e3 =>
      split at h
      ·next v e4 =>
       obtain⟨r',h',rfl⟩:=Option.map_eq_some_iff.1 h
       obtain⟨rfl,hq'⟩:=List.cons.inj hq
       exact eu hS (gn hS hg) ho hd e1 (hS.at (ky e2)) (ht.2.1 _ (ey e3)) e4 fun s' hS'=>ih _ _ _ r' s' h' hq' hS' l2 k
      ·cases h
     ·next i ad j cs e z own e1 e2 e3 =>
      split at h
      ·next m e5 =>
       split at h
       ·next vs e4 =>
        obtain⟨r',h',rfl⟩:=Option.map_eq_some_iff.1 h
        obtain⟨rfl,hq'⟩:=List.cons.inj hq
        exact ja hS (gn hS hg) ho hd e1 (hS.at (ky e2)) (ht.2.1 _ (ey e3)) (ht.2.2.1 _ (ey e5)) e4 fun s' hS'=>ih _ _ _ r' s' h' hq' hS' l2 k
       ·cases h
      ·cases h
     ·cases h
    ·cases h
   ·next t x y ho =>
    split at h
    ·next k0 hs' hd =>
     split at h
     ·next i ad u j cs e z m e1 e2 e3 e4 =>
      cases hc:(Nat.beq u.cells.size m&&Nat.ble (ad+m) cs.length&&u.cells.toList.all one)&&Nat.blt k0 S.length
      ·rw[hc] at h; cases h
      ·rw[hc] at h
       obtain⟨r',h',rfl⟩:=Option.map_eq_some_iff.1 h
       obtain⟨rfl,hq'⟩:=List.cons.inj hq
       rw[Bool.and_eq_true] at hc
       exact q_sto hS (gn hS hg) ho hd e1 e2 e3 (ht.2.2.1 _ (ey e4)) hc.1 _ rfl fun s' hS'=>ih _ _ _ r' s' h' hq' hS' l2 k
     ·cases h
    ·cases h
   ·split at h
    ·next v d e1 hd =>
     have hp:=fun nx ty b=>sT ht e1 (ρ:=opv E.NG s.fr) (fun x v hx=>hS.lk hx) nx ty b
     exact aw hS (gn hS hg) (hp 0 0 none).1 hd (hp 0 0 none).2.1 (hp _ _ _).2.2 fun s' hS'=>ih _ _ _ r s' h hq hS' l2 k
    ·cases h
def my:List Nat→List Value→Kn→Kn
 | t::ts,v::vs,kn=>(t,v)::my ts vs kn
 | _,_,kn=>kn
def rm (kn:Kn):List Nat→List (Option Value)
 | []=>[]
 | t::ts=>lkT kn t::rm kn ts
def fj (ts:List Nat) (kn:Kn):List Oper→Bool
 | []=>true
 | o::l=>(match o.dst with | some d=>bif mw ts d then fj ts kn l else(match lkT kn d with | none=>fj ts kn l | some _=>false) | none=>fj ts kn l)
noncomputable def qh (tb:Tab) (NG:Nat) (ops:Array Oper) (kn:Kn) (S:List Seg) (l:List Oper) (hs ts:List Nat):Option (List (Option Value)×List Seg×List Nat×List Nat×Bool) :=
 (syS tb NG ops l hs kn S).map fun r=>(rm r.1 ts,r.2.1,r.2.2.1,r.2.2.2,fj ts kn l)
theorem ju {tb:Tab} {NG:Nat} {ops:Array Oper}: ∀(l:List Oper) (hs:List Nat) (kn:Kn) (S:List Seg) (r:Kn×List Seg×List Nat×List Nat),syS tb NG ops l hs kn S=some r→ ∀t,(∀o∈l,o.dst≠some t)→lkT r.1 t=lkT kn t
 | [],hs,kn,S,r,h,t,hn=>by
  unfold syS at h
  obtain rfl:=Option.some.inj h
  rfl
 | o::l,hs,kn,S,r,h,t,hn=>by
  have ih:=ju (tb:=tb) (NG:=NG) (ops:=ops) l
  have hn': ∀o∈l,o.dst≠some t:=fun o ho=>hn o (List.mem_cons_of_mem _ ho)
  have ho:=hn o List.mem_cons_self
  have put: ∀d v (kn:Kn),o.dst=some d→lkT ((d,v)::kn) t=lkT kn t:=fun d v kn hd=>by
   have:d≠t:=fun e=>ho (by rw[hd,e])
   show(bif Nat.beq d t then some v else lkT kn t)=_
   rw[nbF this]; rfl
  unfold syS at h
  split at h
  ·cases h
  ·split at h
   ·next hd=>exact(ih _ _ _ r h t hn').trans (put _ _ _ hd)
   ·cases h
  ·split at h
   ·split at h
    ·next hd =>
     split at h
     ·split at h
      ·obtain⟨r',h',rfl⟩:=Option.map_eq_some_iff.1 h
       exact(ih _ _ _ r' h' t hn').trans (put _ _ _ hd)
      ·cases h
     ·split at h
      ·split at h
       ·obtain⟨r',h',rfl⟩:=Option.map_eq_some_iff.1 h
        exact(ih _ _ _ r' h' t hn').trans (put _ _ _ hd)
       ·cases h
      ·cases h
     ·cases h
    ·cases h
   ·split at h
    ·next k0 hs' hd =>
     split at h
     ·next i ad u j cs e z m e1 e2 e3 e4 =>
      cases hc:(Nat.beq u.cells.size m&&Nat.ble (ad+m) cs.length&&u.cells.toList.all one)&&Nat.blt k0 S.length
      ·rw[hc] at h; cases h
      ·rw[hc] at h
       obtain⟨r',h',rfl⟩:=Option.map_eq_some_iff.1 h
       exact ih _ _ _ r' h' t hn'
     ·cases h
    ·cases h
   ·split at h
    ·next hd=>exact(ih _ _ _ r h t hn').trans (put _ _ _ hd)
    ·cases h
theorem dG {ts:List Nat} {kn:Kn}: ∀(l:List Oper),fj ts kn l=true→ ∀t v,t∉ts→lkT kn t=some v→ ∀o∈l,o.dst≠some t
 | [],_,t,v,h1,h2,o,ho=>by cases ho
 | o::l,h,t,v,h1,h2,o',ho'=>by
  unfold fj at h
  split at h
  ·next d hd =>
   cases hh:mw ts d
   ·rw[hh] at h
    simp only[cond_false] at h
    split at h
    ·next hl =>
     rcases List.mem_cons.1 ho' with rfl | ho'
     ·intro e
      rw[hd] at e
      obtain rfl:=Option.some.inj e
      rw[hl] at h2; cases h2
     ·exact dG l h t v h1 h2 o' ho'
    ·cases h
   ·rw[hh] at h
    simp only[cond_true] at h
    rcases List.mem_cons.1 ho' with rfl | ho'
    ·intro e
     rw[hd] at e
     obtain rfl:=Option.some.inj e
     exact h1 (gZ hh)
    ·exact dG l h t v h1 h2 o' ho'
  ·next hd =>
   rcases List.mem_cons.1 ho' with rfl | ho'
   ·rw[hd]; simp
   ·exact dG l h t v h1 h2 o' ho'
theorem mz: ∀{ts:List Nat} {vs:List Value} {kn kn':Kn} {t:Nat} {v:Value},rm kn' ts=vs.map some→lkT (my ts vs kn) t=some v→lkT kn' t=some v∨(t∉ts∧lkT kn t=some v)
 | [],vs,kn,kn',t,v,h,hl=>by
  cases vs<;>exact .inr ⟨by simp,hl⟩
 | s::ts,[],kn,kn',t,v,h,hl=>by cases h
 | s::ts,u::vs,kn,kn',t,v,h,hl=>by
  obtain⟨h1,h2⟩:=List.cons.inj h
  replace hl:(bif Nat.beq s t then some u else lkT (my ts vs kn) t)=some v:=hl
  cases hb:Nat.beq s t
  ·rw[hb] at hl
   rcases mz h2 hl with q | ⟨q1,q2⟩
   ·exact .inl q
   ·refine .inr ⟨fun hm=>?_,q2⟩
    rcases List.mem_cons.1 hm with rfl | hm
    ·rw[Nat.beq_refl] at hb; cases hb
    ·exact q1 hm
  ·rw[hb] at hl
   obtain rfl:=nbT hb
   obtain rfl:=Option.some.inj hl
   exact .inl h1
section
variable {E:Env} {tb:Tab} {ops:Array Oper} {Q:St→Prop} {kn:Kn} {S L:List Seg} {F F0:FZ} {nx0:Nat} {l:List Oper} {s:St}
theorem qi (ht:tb.ok E.P) (hS:Stt E s kn S F L F0 nx0) (n:Nat) (hs ts:List Nat) (vs:List Value) (is:List Nat) (S':List Seg) (h:qh tb E.NG ops kn S (l.take n) hs ts=some (vs.map some,S',is,is,true))
  (k: ∀s',Stt E s' (my ts vs kn) S' F L F0 nx0→QW E (l.drop n) ops s' Q):QW E l ops s Q:=by
 obtain⟨r,hr,he⟩:=Option.map_eq_some_iff.1 h
 simp only[Prod.mk.injEq] at he
 obtain⟨e1,rfl,e3,e4,e5⟩:=he
 rw[← List.take_append_drop n l]
 refine syS_ok ht _ _ _ _ r s hr (e3.trans e4.symm) hS _ fun s' hS'=>k s' ⟨fun t v hl=>?_,hS'.mem,hS'.le,hS'.nx,hS'.ms⟩
 rcases mz e1 hl with q | ⟨q1,q2⟩
 ·exact hS'.fx t v q
 ·exact hS'.fx t v ((ju _ _ _ _ r hr t (dG _ e5 t v q1 q2)).trans q2)
theorem kz (ht:tb.ok E.P) (hS:Stt E s kn S F L F0 nx0) (n:Nat) (hs ts:List Nat) (vs:List Value) (is:List Nat) (h:qh tb E.NG ops kn S (l.take n) hs ts=some (vs.map some,S,is,is,true))
  (k: ∀s',Stt E s' (my ts vs kn) S F L F0 nx0→QW E (l.drop n) ops s' Q):QW E l ops s Q:=qi ht hS n hs ts vs is S h k
end
noncomputable def syC (tb:Tab) (NG:Nat) (ops:Array Oper) (n:Nat) (l:List Oper) (kn:Kn) (S:List Seg):Option (Nat×List (Option Value)×Nat×Bool) :=
 match syS tb NG ops (l.take n) [] kn S with
 | some (kn',_,_,_) =>
  (match l.drop n with
  | o::_=>(match o.guard,o.op,o.dst with
   | none,.call ⟨.value x,args,_⟩,some d=>(match lkO NG kn' x with
    | some (.func (.func g) fs cs)=>some (g,fs.toList.map some++(args.toList.map (lkO NG kn')++cs.toList.map some),d,fj [] kn (l.take n))
    | _=>none)
   | _,_,_=>none)
  | []=>none)
 | none=>none
theorem kA {tb:Tab} {NG:Nat} {ops:Array Oper}: ∀(l:List Oper) (kn:Kn) (S:List Seg) (r:Kn×List Seg×List Nat×List Nat),syS tb NG ops l [] kn S=some r→r.2=(S,[],[])
 | [],kn,S,r,h=>by
  unfold syS at h
  obtain rfl:=Option.some.inj h
  rfl
 | o::l,kn,S,r,h=>by
  have ih:=kA (tb:=tb) (NG:=NG) (ops:=ops) l
  unfold syS at h
  split at h
  ·cases h
  ·split at h
   ·exact ih _ _ r h
   ·cases h
  ·split at h
   ·cases h
   ·cases h
   ·split at h
    ·exact ih _ _ r h
    ·cases h
theorem somes {a b:List Value} {c:List (Option Value)}: ∀{ws:List Value},a.map some++(c++b.map some)=ws.map some→ ∃vs:List Value,c=vs.map some∧a++(vs++b)=ws:=by
 intro ws h
 have hc: ∃vs:List Value,c=vs.map some:=by
  have: ∀x∈c,∃v,x=some v:=fun x hx=>by
   have hm:x∈ws.map some:=by rw[← h]; simp[hx]
   obtain⟨v,_,rfl⟩:=List.mem_map.1 hm
   exact⟨v,rfl⟩
  clear h
  induction c with
  | nil=>exact⟨[],rfl⟩
  | cons x c ih =>
   obtain⟨v,rfl⟩:=this x List.mem_cons_self
   obtain⟨vs,rfl⟩:=ih fun y hy=>this y (List.mem_cons_of_mem _ hy)
   exact⟨v::vs,rfl⟩
 obtain⟨vs,rfl⟩:=hc
 refine⟨vs,rfl,?_⟩
 rw[← List.map_append,← List.map_append] at h
 exact(List.map_inj_right fun _ _ e=>Option.some.inj e).1 h
section
variable {E:Env} {tb:Tab} {ops:Array Oper} {Q:St→Prop} {kn:Kn} {S L:List Seg} {F F0:FZ} {nx0:Nat} {l:List Oper} {s:St}
theorem q_cK {g:FuncId} {ws:List Value} {Sc:List Seg} {Φ:Value→List Seg→FZ→Prop} (hT:Cl E g ws Sc F Φ) (ht:tb.ok E.P) (hS:Stt E s kn S F L F0 nx0) (n d c:Nat) (hc:fT c S=Sc) (h:syC tb E.NG ops n l kn S=some (g,ws.map some,d,true))
  (k: ∀s' v S' F',Φ v S' F'→FLe F F'→Stt E s' ((d,v)::kn) (S'++eW c S) F' L F0 nx0→QW E (l.drop (n+1)) ops s' Q):QW E l ops s Q:=by
 unfold syC at h
 split at h
 ·next kn' S' is js hr =>
  have hk:=kA _ _ _ _ hr
  simp only[Prod.mk.injEq] at hk
  obtain⟨rfl,rfl,rfl⟩:=hk
  split at h
  ·next o l2 hl =>
   split at h
   ·next x args ats d' hg ho hd =>
    split at h
    ·next g' fs cs hx =>
     simp only[Option.some.injEq,Prod.mk.injEq] at h
     obtain⟨rfl,h2,rfl,h4⟩:=h
     obtain⟨vs,hv,hw⟩:=somes h2
     have hl2:l.drop (n+1)=l2:=by rw[← List.drop_drop,hl]; rfl
     rw[← List.take_append_drop n l]
     refine syS_ok ht _ _ _ _ _ s hr rfl hS _ fun s' hS'=>?_
     rw[hl]
     refine bu hS' (wn hg) ho hd hx hv hw c hc hT fun s' v S' F' hp hf hS2=>?_
     rw[← hl2]
     refine k s' v S' F' hp hf ⟨fun t w hk=>?_,hS2.mem,hS2.le,hS2.nx,hS2.ms⟩
     refine hS2.fx t w ?_
     replace hk:(bif Nat.beq d' t then some v else lkT kn t)=some w:=hk
     show(bif Nat.beq d' t then some v else lkT kn' t)=some w
     cases hb:Nat.beq d' t
     ·rw[hb] at hk
      exact(ju _ _ _ _ _ hr t (dG _ h4 t w (by simp) hk)).trans hk
     ·rw[hb] at hk; exact hk
    ·cases h
   ·cases h
  ·cases h
 ·cases h
theorem q_cR {g:FuncId} {ws:List Value} {Sc S0:List Seg} {v0:Value} (hT:Cl E g ws Sc F (fun v S' F'=>F=F'∧v=v0∧S'=S0)) (ht:tb.ok E.P) (hS:Stt E s kn S F L F0 nx0) (n d c:Nat) (hc:fT c S=Sc) (h:syC tb E.NG ops n l kn S=some (g,ws.map some,d,true))
  (k: ∀s',Stt E s' ((d,v0)::kn) (S0++eW c S) F L F0 nx0→QW E (l.drop (n+1)) ops s' Q):QW E l ops s Q:=q_cK hT ht hS n d c hc h fun s' v S' F' hp _ hS'=>by
 obtain⟨rfl,rfl,rfl⟩:=hp
 exact k s' hS'
theorem sU {l:Kn}: ∀{m:Kn},rm l (m.map Prod.fst)=m.map (fun p=>some p.2)→Sub l m
 | [],_=>trivial
 | (k,v)::m,h=>by
  obtain⟨h1,h2⟩:=List.cons.inj h
  exact⟨h1,sU h2⟩
theorem Stt.subR (hS:Stt E s kn S F L F0 nx0) {m:Kn} (h:rm kn (m.map Prod.fst)=m.map (fun p=>some p.2)):Stt E s m S F L F0 nx0:=hS.sub (sU h)
def nG:Nat→Option (List (List Nat))→Option (List (List Nat))
 | 0,i=>i
 | n+1,i=>nG n (cr i)
def allI:Nat→Option (List (List Nat))→Bool
 | 0,_=>true
 | n+1,i=>okI i&&allI n (cr i)
def upq:Nat→Nat→List Nat→List Nat
 | 0,_,qs=>qs
 | m+1,n,qs=>upq m (n+1) (n::qs)
theorem K.syS_ok (ht:tb.ok E.P): ∀(l:List Oper) (kn kn':Kn) (inf:Option (List (List Nat))) (rs:List Rec) (s:St) {zs:List Nat} {n:Nat} {qs ls:List Nat} {as ns ds:List (Nat×Nat)},
  syS tb E.NG ops l [] kn S=some (kn',S,[],[])→allI l.length inf=true→Stt E s kn S F L F0 nx0→RS zs rs n qs ls as ns ds→ ∀l2,(∀s' rs',Stt E s' kn' S F L F0 nx0→RS zs rs' (n+l.length) (upq l.length n qs) ls as ns ds→KW E l2 ops (nG l.length inf) rs' s' Q)→KW E (l++l2) ops inf rs s Q
 | [],kn,kn',inf,rs,s,zs,n,qs,ls,as,ns,ds,h,hi,hS,hq,l2,k=>by
  unfold syS at h
  simp only[Option.some.injEq,Prod.mk.injEq] at h
  obtain⟨rfl,_⟩:=h
  exact k s rs hS hq
 | o::l,kn,kn',inf,rs,s,zs,n,qs,ls,as,ns,ds,h,hi,hS,hq,l2,k=>by
  have ih:=K.syS_ok ht l
  simp only[List.length_cons,allI,Bool.and_eq_true] at hi
  have k': ∀s' rs',Stt E s' kn' S F L F0 nx0→RS zs rs' (n+1+l.length) (upq l.length (n+1) (n::qs)) ls as ns ds→KW E l2 ops (nG l.length (cr inf)) rs' s' Q:=fun s' rs' a b=>k s' rs' a (by
   rw[List.length_cons,show n+(l.length+1)=n+1+l.length by omega]; exact b)
  unfold syS at h
  split at h
  ·cases h
  ·next hg =>
   split at h
   ·next d hd=>exact K.no hS hq hi.1 (gn hS hg) hd fun s' rs' hS' hq'=>ih _ _ _ rs' s' h hi.2 hS' hq' l2 k'
   ·cases h
  ·next hg =>
   split at h
   ·cases h
   ·cases h
   ·split at h
    ·next v d e1 hd =>
     have hp:=fun nx ty b=>sT ht e1 (ρ:=opv E.NG s.fr) (fun x v hx=>hS.lk hx) nx ty b
     exact K.pu hS hq hi.1 (gn hS hg) (hp 0 0 none).1 hd (hp 0 0 none).2.1 (hp _ _ _).2.2 fun s' rs' hS' hq'=>ih _ _ _ rs' s' h hi.2 hS' hq' l2 k'
    ·cases h
noncomputable def syD (tb:Tab) (NG:Nat) (ops:Array Oper) (kn:Kn) (S:List Seg) (l:List Oper) (inf:Option (List (List Nat))) (m:Nat) (ts:List Nat):Option (List (Option Value)×Bool×Bool×Bool) :=
 (syS tb NG ops (l.take m) [] kn S).map fun r=>(rm r.1 ts,fj ts kn (l.take m),allI m inf,Nat.beq (l.take m).length m)
theorem K.seg {inf:Option (List (List Nat))} {rs:List Rec} {zs:List Nat} {n:Nat} {qs ls:List Nat} {as ns ds:List (Nat×Nat)} (ht:tb.ok E.P) (hS:Stt E s kn S F L F0 nx0) (hq:RS zs rs n qs ls as ns ds) (m:Nat) (ts:List Nat) (vs:List Value) (h:syD tb E.NG ops kn S l inf m ts=some (vs.map some,true,true,true))
  (k: ∀s' rs',Stt E s' (my ts vs kn) S F L F0 nx0→RS zs rs' (n+m) (upq m n qs) ls as ns ds→KW E (l.drop m) ops (nG m inf) rs' s' Q):KW E l ops inf rs s Q:=by
 obtain⟨r,hr,he⟩:=Option.map_eq_some_iff.1 h
 have hk:=kA _ _ _ _ hr
 obtain⟨kn',S',is,js⟩:=r
 simp only[Prod.mk.injEq] at hk he
 obtain⟨rfl,rfl,rfl⟩:=hk
 obtain⟨e1,e5,e6,e7⟩:=he
 have hl:(l.take m).length=m:=Nat.eq_of_beq_eq_true e7
 rw[← List.take_append_drop m l]
 refine K.syS_ok ht _ _ _ _ _ s hr (by rw[hl]; exact e6) hS hq _ fun s' rs' hS' hq'=>?_
 rw[hl] at hq' ⊢
 refine k s' rs' ⟨fun t v hv=>?_,hS'.mem,hS'.le,hS'.nx,hS'.ms⟩ hq'
 rcases mz e1 hv with q | ⟨q1,q2⟩
 ·exact hS'.fx t v q
 ·exact hS'.fx t v ((ju _ _ _ _ _ hr t (dG _ e5 t v q1 q2)).trans q2)
theorem Stt.kb (hS:Stt E s kn S F L F0 nx0) (t:Nat) {b b':Bool} (hc:b=b') (hk:lkT kn t=some (.bool b)):Stt E s ((t,.bool b')::kn) S F L F0 nx0:=hS.know hk (congrArg Value.bool hc)
theorem bc {α:Type} {c:Bool} {a b:Option α} {r:α} {G:Prop} (h:(if c=true then a else b)=some r) (h1:c=true→a=some r→G) (h2:c=false→b=some r→G):G:=by
 cases c
 ·exact h2 rfl h
 ·exact h1 rfl h
theorem aG {fn:Func} {Φ:Value→List Seg→FZ→Prop} {e:Exit} (hS:Stt E s kn S F L F0 nx0) (he:e= .normal∨e= .ret) (hf:fn.results.toList= []) (hΦ:Φ (.tuple #[]) S F):ej E fn L F0 nx0 Φ e s:=fin (vs:=[]) hS he (by rw[hf]; exact aY) (v:= .tuple #[]) rfl hΦ
theorem ax {fn:Func} {Φ:Value→List Seg→FZ→Prop} {e:Exit} {v:Value} (hS:Stt E s kn S F L F0 nx0) (he:e= .normal∨e= .ret) (t:Nat) (hf:fn.results.toList= [.tmp t]) (hk:lkT kn t=some v) (hΦ:Φ v S F):ej E fn L F0 nx0 Φ e s:=fin (vs:=[v]) hS he (by rw[hf]; exact br hS hk aY) (v:=v) rfl hΦ
theorem bP {fn:Func} {Φ:Value→List Seg→FZ→Prop} {e:Exit} {v u:Value} (hS:Stt E s kn S F L F0 nx0) (he:e= .normal∨e= .ret) (t t2:Nat) (hf:fn.results.toList= [.tmp t,.tmp t2]) (hk:lkT kn t=some v) (hk2:lkT kn t2=some u) (hΦ:Φ (.tuple #[v,u]) S F):ej E fn L F0 nx0 Φ e s:=fin (vs:=[v,u]) hS he (by rw[hf]; exact br hS hk (br hS hk2 aY)) (v:= .tuple #[v,u]) rfl hΦ
end
theorem LW.iterE {E:Env} {c:Code} {X:Type} {body:X→Option (X⊕X)} {x y:X} (ho:Go.Proofs.YtcafgoomipkljaaGreatDoorAi.iter body x=some y) (I:X→St→Prop) (i:Nat) {s:St} (hI:I x s)
  (round: ∀x s,I x s→ ∀o,body x=some o→WW E c s (gP (fun s'=> ∃y,o= .inl y∧I y s') (fun e s'=> ∃r,o= .inr r∧(e= .exit i∧I r s')))) {Q:Exit→St→Prop} (fin: ∀e s',(e= .exit i∧I y s')→Q e s'):LW E c s Q :=
 LW.iter ho I (fun y e s=>e= .exit i∧I y s) hI round fin
def sV {X R:Type} (I:X→St→Prop) (i:Nat) (RQ:R→Exit→St→Prop):X⊕R→Exit→St→Prop
 | .inl y=>fun e s=>e= .exit i∧I y s
 | .inr r=>fun e s=>e= .ret∧RQ r e s
theorem LW.iterS {E:Env} {c:Code} {X R:Type} {body:X→Option (X⊕(X⊕R))} {x:X} {o:X⊕R} (ho:Go.Proofs.YtcafgoomipkljaaGreatDoorAi.iter body x=some o) (I:X→St→Prop) (i:Nat) (RQ:R→Exit→St→Prop) {s:St} (hI:I x s)
  (round: ∀x s,I x s→ ∀o,body x=some o→WW E c s (gP (fun s'=> ∃y,o= .inl y∧I y s') (fun e s'=> ∃r,o= .inr r∧sV I i RQ r e s'))) {Q:Exit→St→Prop} (fin: ∀e s',sV I i RQ o e s'→Q e s'):LW E c s Q :=
 LW.iter ho I (sV I i RQ) hI round fin
end Go.Proofs.YtcafgoomipkljaaGreatDoorAi
