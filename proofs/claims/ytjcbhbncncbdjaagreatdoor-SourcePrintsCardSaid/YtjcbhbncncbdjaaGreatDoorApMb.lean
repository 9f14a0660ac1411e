/-
ApA, ApQ, ApR, ApT, ApU, ApV, ApI
-/
import Derived.Test.YtjcbhbncncbdjaaGreatDoorApMa
import Derived.Test.YtjcbhbncncbdjaaGreatDoorAiD
import Derived.Deep.Slices
import Derived.SizedLaws
import Derived.ReadAgain
import Derived.ChangeOld
import Derived.ChangeBears
namespace Go.Proofs.YtjcbhbncncbdjaaGreatDoorAi
open Go Go.RowKit
set_option linter.unusedVariables false
set_option linter.unusedSimpArgs false
set_option linter.unusedSectionVars false
section
variable {P:Program} {nx:Nat} {ty:TypeId} {ρ:Operand→Value} {b:Option Blk} {x y:Operand} {v:Value} {k:IntKind} {m n:Int}
theorem kz (l:List UInt8):(⟨l.toArray⟩:ByteArray).size=l.length:=rfl
theorem oJ {args:Array Operand} {ats:Array TypeId} {t:TypeId} {l:List UInt8} (ha:args.toList= [x]) (ht:ats[0]? = some t) (hu:P.underlying t=some .string) (hx:ρ x=aa l):ai (.call ⟨.builtin .len,args,ats⟩) P nx ty ρ b=some (.int .i64 (l.length:Nat),.none):=by
 show bLen P ats ty (args.toList.map ρ) b=_
 rw[ha]
 show iG P ats (ρ x)=_
 unfold iG
 rw[ht,hx,Option.bind_some,hu]; rfl
theorem fE {args:Array Operand} {ats:Array TypeId} {t e:TypeId} {a:Option Addr} {j z:Nat} (ha:args.toList= [x]) (ht:ats[0]? = some t) (hu:P.underlying t=some (.slice e)) (hx:ρ x= .slice a j z):ai (.call ⟨.builtin .len,args,ats⟩) P nx ty ρ b=some (.int .i64 (j:Nat),.none):=by
 show bLen P ats ty (args.toList.map ρ) b=_
 rw[ha]
 show iG P ats (ρ x)=_
 unfold iG
 rw[ht,hx,Option.bind_some,hu]; rfl
theorem dp {t:TypeId} {l:List UInt8} {i:Int} (hu:P.underlying t=some .string) (hx:ρ x=aa l) (hy:ρ y= .int k i) (hc:0≤i∧i<(l.length:Int)):ai (.index t x y) P nx ty ρ b=some (vB (gt l i),.none):=by
 show ar (ge P t (ρ x) (ρ y))=_
 rw[hx,hy]
 show ar (bif bq P t then gd ⟨l.toArray⟩ i else none)=_
 unfold bq
 rw[hu]
 show ar (gd ⟨l.toArray⟩ i)=_
 unfold gd
 rw[if_pos hc.1,aO]
 show ar (match l[i.toNat]? with | some b=>some (Value.int .u8 b.toNat) | none=>none)=_
 have:i.toNat<l.length:=by omega
 rw[List.getElem?_eq_getElem this]
 show some (Value.int .u8 ((l[i.toNat]).toNat:Int),Eff.none)=_
 unfold gt
 rw[List.getD_eq_getElem?_getD,List.getElem?_eq_getElem this]; rfl
theorem na {c:Operand} (hc:ρ c= .bool true) (hx:ρ x=v):ai (.pick c x y) P nx ty ρ b=some (v,.none):=kv hc hx rfl
theorem nb {c:Operand} (hc:ρ c= .bool false) (hy:ρ y=v):ai (.pick c x y) P nx ty ρ b=some (v,.none):=kv hc rfl hy
def mid {α:Type} (l:List α) (i j:Int):List α:=(l.take j.toNat).drop i.toNat
theorem slB_eq {l:List UInt8} {i j:Int} (hc:0≤i∧i≤j∧j≤(l.length:Int)):slB i j ⟨l.toArray⟩=some (aa (mid l i j)):=by
 unfold slB
 rw[if_pos ⟨hc.1,hc.2.1,by rw[kz]; exact hc.2.2⟩]
 congr 2
 apply ByteArray.ext
 rw[ByteArray.data_extract]
 simp[mid,List.extract_eq_take_drop,List.drop_take]
theorem e9 {t:TypeId} {l:List UInt8} {lo hi:Option Operand} {i j:Int} (hu:P.underlying t=some .string) (hx:ρ x=aa l) (hl:bF (lo.map ρ) 0=some i) (hh:bF (hi.map ρ) l.length=some j) (hc:0≤i∧i≤j∧j≤(l.length:Int)) :
  ai (.slice t x lo hi none) P nx ty ρ b=some (aa (mid l i j),.none):=by
 show ar (kQ P t (ρ x) (lo.map ρ) (hi.map ρ))=_
 rw[hx]
 show ar (bif bq P t then jW ⟨l.toArray⟩ (bF (lo.map ρ) 0) (bF (hi.map ρ) (⟨l.toArray⟩:ByteArray).size) else none)=_
 unfold bq
 rw[hu,kz,hl,hh]
 show ar (slB i j ⟨l.toArray⟩)=_
 rw[slB_eq hc]; rfl
theorem dy {s:TypeId} {f i off sz ad ad':Nat} {ft:Nat} (hx:ρ x= .pointer (some ⟨i,ad,none⟩)) (hf:fieldAt P s f=some (off,sz,ft)) (hz:Nat.beq sz 0=false) (had:ad+off=ad'):ai (.fieldAddr s x f) P nx ty ρ b=some (.pointer (some ⟨i,ad',none⟩),.none):=by
 subst had
 exact ix hx hf (fun e=>by subst e; cases hz)
theorem aop_ext {i:Nat} {vs:Array Value} (hx:ρ x= .tuple vs) (hi:nth vs.toList i=some v):ai (.extract x i) P nx ty ρ b=some (v,.none):=by
 show ar (dG i (ρ x))=_
 rw[hx]
 show ar (nth vs.toList i)=_
 rw[hi]; rfl
theorem fb {i ad:Nat} (h:ρ x= .pointer (some ⟨i,ad,none⟩)):ai (.nilCheck x) P nx ty ρ b=some (.pointer (some ⟨i,ad,none⟩),.none):=aop_nil h
theorem cw {t e:TypeId} {len sz:Nat} {ps:Array (Nat×Operand)} {z cs:List Value} (hu:P.underlying t=some (.slice e)) (hs:aU P e=some sz) (hz:aS P e=some z) (hok:(Nat.ble 1 sz&&Nat.beq z.length sz&&Nat.ble (len*sz) 16777216)=true) (parts:List (Nat×Value)) (hps:ps.toList.map (fun p=>(p.1,ρ p.2))=parts) (hf:dg (fun i=>some (i*sz,sz)) (iq z len) parts=some cs) :
  ai (.buildSlice t len ps) P nx ty ρ b=some (.slice (some ⟨nx,0,none⟩) len sz,.new (.row cs e sz true)):=by
 show bp P nx t len (ps.toList.map fun p=>(p.1,ρ p.2))=_
 rw[hps]
 unfold bp
 simp only[hu,hs,hz,hok,cond_true,hf,Option.map_some]
theorem fc {t:TypeId} {u:Value} (hx:ρ x=u) (ho:u.cells.toList.all one=true) (cs:List Value) (hc:u.cells.toList=cs):ai (.box t x) P nx ty ρ b=some (.pointer (some ⟨nx,0,none⟩),.new (.row cs t 0 true)):=by
 show kS nx t (ρ x)=_
 rw[hx]
 unfold kS
 rw[bO ho,hc]
theorem fF {t:TypeId} {z:List Value} (hz:aS P t=some z):ai (.alloc t) P nx ty ρ b=some (.pointer (some ⟨nx,0,none⟩),.new (.row z t 0 true)):=by
 show ej t P nx ty ρ b=_
 unfold ej
 rw[hz]
theorem aY {t:TypeId} {i ad len c sz:Nat} {j:Int} (hx:ρ x= .slice (some ⟨i,ad,none⟩) len c) (hy:ρ y= .int k j) (hn:dB P t=some sz) (hc:0≤j∧j<(len:Int)):ai (.indexAddr t x y) P nx ty ρ b=some (.pointer (some ⟨i,ad+j.toNat*sz,none⟩),.none):=iy hx hy hn hc.1 hc.2
theorem ml {s t:TypeId} {k2:IntKind} (hx:ρ x= .int k n) (hs:P.underlying s=some (.int k)) (ht:P.underlying t=some (.int k2)):ai (.convert s t x) P nx ty ρ b=some (.int k2 (k2.wrap n),.none):=by
 show aZ P nx s t (ρ x) b=_
 rw[hx]
 unfold aZ
 show(match cvI P s t n with | some r=>some r | none=>cvG P s t (.int k n))=_
 unfold cvI
 rw[hs,ht]
theorem ed {e:TypeId} {F:FZ}: ∀{l:List UInt8} {cs:List Value},af (elB e) F l cs→bf cs=some l
 | [],cs,h=>by rw[h]; rfl
 | x::l,cs,⟨c,r,e,h1,h2⟩=>by
  have h1:c= [vB x]:=h1
  subst h1
  rw[e]
  show(match lS (vB x),bf r with | some b,some l=>some (b::l) | _,_=>none)=_
  rw[ed h2]
  show some (UInt8.ofNat (x.toNat:Int).toNat::l)=_
  simp
theorem jH {t u:TypeId} {l r:List UInt8} (hx:ρ x=aa l) (hy:ρ y=aa r):ai (.binOp .eql t x y u) P nx ty ρ b=some (.bool (decide (l=r)),.none):=by
 refine jE hx hy ?_
 show some (Value.bool (eqB l r))=_
 rw[lh]
 by_cases h:l=r<;>simp[h]
theorem mm {t u:TypeId} {l r:List UInt8} (hx:ρ x=aa l) (hy:ρ y=aa r):ai (.binOp .neq t x y u) P nx ty ρ b=some (.bool (!decide (l=r)),.none):=by
 refine jE hx hy ?_
 show some (Value.bool (!eqB l r))=_
 rw[lh]
 by_cases h:l=r<;>simp[h]
theorem aG {t u:TypeId} {l r:List UInt8} (hx:ρ x=aa l) (hy:ρ y=aa r) (hb:l.length+r.length<1000000000):ai (.binOp .add t x y u) P nx ty ρ b=some (aa (l++r),.none):=by
 refine jE hx hy ?_
 show(if l.length+r.length≤9223372036854775807 then some (Value.string (⟨l.toArray⟩++⟨r.toArray⟩)) else none)=_
 rw[if_pos (by omega)]
 congr 2
end
end Go.Proofs.YtjcbhbncncbdjaaGreatDoorAi
namespace Go.Proofs.YtjcbhbncncbdjaaGreatDoorAi
open Go Go.RowKit
set_option linter.unusedVariables false
set_option linter.unusedSimpArgs false
set_option linter.unusedSectionVars false
section
variable {E:Env} {s:St} {kn:Kn} {S:List Seg} {F:FZ} {L:List Seg} {F0:FZ} {nx0:Nat} {l:List Oper} {ops:Array Oper} {o:Oper} {Q:St→Prop} {d:Nat} {v:Value}
abbrev QW (E:Env) (l:List Oper) (ops:Array Oper) (s:St) (Q:St→Prop):Prop:=KW E l ops none [] s Q
theorem KW.seq {rs:List Rec} (h:QW E l ops s Q):KW E l ops none rs s Q:=h
theorem aD (hS:Stt E s kn S F L F0 nx0) (hw:ae ops s.fr o=some true) (hc:aw o.op=false) (hd:o.dst=some d) (ht:aq o.op (opv E.NG s.fr)=none) (hv:ai o.op E.P s.nx o.type (opv E.NG s.fr) none=some (v,.none))
  (k: ∀s',Stt E s' ((d,v)::kn) S F L F0 nx0→QW E l ops s' Q):QW E (o::l) ops s Q:=K.pu hS (RS.start []) rfl hw hc hd ht hv fun s' _ h _=>k s' h
theorem g7 (hS:Stt E s kn S F L F0 nx0) (hw:ae ops s.fr o=some false) (hd:o.dst=some d)
  (k: ∀s',Stt E s' ((d,undef)::kn) S F L F0 nx0→QW E l ops s' Q):QW E (o::l) ops s Q:=K.no hS (RS.start []) rfl hw hd fun s' _ h _=>k s' h
theorem q_rd {i:Nat} {b:Blk} (hS:Stt E s kn S F L F0 nx0) (hw:ae ops s.fr o=some true) (hc:aw o.op=false) (hd:o.dst=some d) (ht:aq o.op (opv E.NG s.fr)=some i) (hb:s.H.get i=some b) (hv:ai o.op E.P s.nx o.type (opv E.NG s.fr) (some b)=some (v,.none))
  (k: ∀s',Stt E s' ((d,v)::kn) S F L F0 nx0→QW E l ops s' Q):QW E (o::l) ops s Q:=K.rd hS (RS.start [i]) rfl hw hc hd ht hb hv 0 rfl rfl fun s' _ h _=>k s' h
theorem g8 {t:TypeId} {x:Operand} {i ad:Nat} {cs:List Value} {e:TypeId} {z:Nat} {own:Bool} (hS:Stt E s kn S F L F0 nx0) (hw:ae ops s.fr o=some true) (ho:o.op= .load t x) (hd:o.dst=some d)
  (hx:lkO E.NG kn x=some (.pointer (some ⟨i,ad,none⟩))) (hb:s.H.get i=some (.row cs e z own)) (hg:(E.P.underlying t).map df=some false) (hv:nth cs ad=some v)
  (k: ∀s',Stt E s' ((d,v)::kn) S F L F0 nx0→QW E l ops s' Q):QW E (o::l) ops s Q:=K.ld hS (RS.start [i]) rfl hw ho hd hx hb hg hv 0 rfl rfl fun s' _ h _=>k s' h
theorem kE {t:TypeId} {x:Operand} {i ad m:Nat} {cs vs:List Value} {e:TypeId} {z:Nat} {own:Bool} (hS:Stt E s kn S F L F0 nx0) (hw:ae ops s.fr o=some true) (ho:o.op= .load t x) (hd:o.dst=some d)
  (hx:lkO E.NG kn x=some (.pointer (some ⟨i,ad,none⟩))) (hb:s.H.get i=some (.row cs e z own)) (hg:(E.P.underlying t).map df=some true) (hz:aU E.P t=some m) (hv:aR cs ad m=some vs)
  (k: ∀s',Stt E s' ((d,.agg vs.toArray)::kn) S F L F0 nx0→QW E l ops s' Q):QW E (o::l) ops s Q:=K.ldA hS (RS.start [i]) rfl hw ho hd hx hb hg hz hv 0 rfl rfl fun s' _ h _=>k s' h
theorem mn {t:TypeId} {x y:Operand} {i ad m p:Nat} {cs:List Value} {e:TypeId} {z:Nat} {u:Value} (hS:Stt E s kn S F L F0 nx0) (hw:ae ops s.fr o=some true) (ho:o.op= .store t x y) (hd:o.dst=none)
  (hx:lkO E.NG kn x=some (.pointer (some ⟨i,ad,none⟩))) (hy:lkO E.NG kn y=some u) (hp:ce S p= [(i,.row cs e z true)]) (hz:aU E.P t=some m) (hok:(Nat.beq u.cells.size m&&Nat.ble (ad+m) cs.length&&u.cells.toList.all one)=true) (cs':List Value) (hcs:setCells cs ad u.cells.toList=cs')
  (k: ∀s',Stt E s' kn (fD S p [(i,.row cs' e z true)]) F L F0 nx0→QW E l ops s' Q):QW E (o::l) ops s Q:=K.sto hS (RS.start []) rfl hw ho hd hx hy hp hz hok cs' hcs [] rfl (fun j hj=>by cases hj) fun s' _ h _=>k s' h
theorem dP {v:Nat→Value} {b:Blk} (hS:Stt E s kn S F L F0 nx0) (hw:ae ops s.fr o=some true) (hc:aw o.op=false) (hd:o.dst=some d) (ht:aq o.op (opv E.NG s.fr)=none) (hv:ai o.op E.P s.nx o.type (opv E.NG s.fr) none=some (v s.nx,.new b))
  (k: ∀s' i,Stt E s' ((d,v i)::kn) ([(i,b)]::S) F L F0 nx0→QW E l ops s' Q):QW E (o::l) ops s Q:=K.nw hS (RS.start []) rfl hw hc hd ht hv [] (fun j hj=>by cases hj) rfl rfl rfl fun s' _ i h _=>k s' i h
theorem mo {α:Type} {dd:El α} {ats:Array TypeId} {x y:Operand} {a:Option Addr} {z z2:Nat} {lst m:List α} {B:Seg} {j:Nat} {news:List Value} (hS:Stt E s kn ([(j,.row news dd.e dd.sz true)]::B::S) F L F0 nx0) (hw:ae ops s.fr o=some true)
  (ho:o.op= .call ⟨.builtin .append,#[x,y],ats⟩) (hd:o.dst=some d) (ht:ApT E.P ats dd.e dd.sz) (hx:lkO E.NG kn x=some (.slice a lst.length z)) (hy:lkO E.NG kn y=some (.slice (some ⟨j,0,none⟩) m.length z2)) (hO:Own dd F a z lst B) (hm:0<m.length) (hC:af dd F m news) (hb:lst.length+m.length<1000000000)
  (k: ∀s' i cs,af dd F (lst++m) cs→Stt E s' ((d,.slice (some ⟨i,0,none⟩) (lst++m).length dd.sz)::kn) ([(i,.row cs dd.e dd.sz true)]::S) F L F0 nx0→QW E l ops s' Q):QW E (o::l) ops s Q:=K.app [] hS (RS.start []) rfl hw ho hd ht hx hy hO hm hC hb [] rfl rfl (fun j hj=>by cases hj) fun s' _ i cs hc h _=>k s' i cs hc h
theorem dQ {g:FuncId} {x:Operand} {fs cs:Array Value} {args:Array Operand} {ats:Array TypeId} {vs ws:List Value} {Sc:List Seg} {Φ:Value→List Seg→FZ→Prop} (hS:Stt E s kn S F L F0 nx0) (hw:ae ops s.fr o=some true)
  (ho:o.op= .call ⟨.value x,args,ats⟩) (hd:o.dst=some d) (hx:lkO E.NG kn x=some (.func (.func g) fs cs)) (ha:args.toList.map (lkO E.NG kn)=vs.map some) (hws:fs.toList++(vs++cs.toList)=ws) (c:Nat) (hc:ec c S=Sc) (hT:Cl E g ws Sc F Φ)
  (k: ∀s' v S' F',Φ v S' F'→FLe F F'→Stt E s' ((d,v)::kn) (S'++dC c S) F' L F0 nx0→QW E l ops s' Q):QW E (o::l) ops s Q:=K.cl hS (RS.start []) rfl hw ho hd hx ha hws c hc hT [] rfl rfl (fun j hj=>by cases hj) fun s' _ v S' F' hp hf h _=>k s' v S' F' hp hf h
theorem Stt.know {t:Nat} {u u':Value} (hS:Stt E s kn S F L F0 nx0) (hk:lkT kn t=some u) (e:u=u'):Stt E s ((t,u')::kn) S F L F0 nx0 :=
 ⟨fun j w h=>by
  unfold lkT at h
  by_cases hj:t=j
  ·subst hj
   rw[Nat.beq_refl,cond_true] at h
   obtain rfl:=Option.some.inj h
   subst e
   exact hS.fx t u hk
  ·rw[nbF hj,cond_false] at h
   exact hS.fx j w h,hS.mem,hS.le,hS.nx,hS.ms⟩
theorem WW.condK {c:Operand} {a b:Code} {t:Bool} {Qe:Exit→St→Prop} (hS:Stt E s kn S F L F0 nx0) (hk:lkO E.NG kn c=some (.bool t)) (ht:t=true) (h:WW E a s Qe):WW E (.cond c a b) s Qe :=
 WW.condB (t:=true) (by rw[hS.lk hk,ht]; rfl) h
theorem WW.condF {c:Operand} {a b:Code} {t:Bool} {Qe:Exit→St→Prop} (hS:Stt E s kn S F L F0 nx0) (hk:lkO E.NG kn c=some (.bool t)) (ht:t=false) (h:WW E b s Qe):WW E (.cond c a b) s Qe :=
 WW.condB (t:=false) (by rw[hS.lk hk,ht]; rfl) h
end
theorem az (c:Bool):c=true∨c=false:=by cases c<;>simp
def w64 (x:Int):Int:=IntKind.i64.wrap x
theorem oK {P:Program} {ats:Array TypeId} {t t2 e sz:Nat} (h0:ats[0]? = some t) (h1:ats[1]? = some t2) (h2:P.underlying t=some (.slice e)) {u:TypeDesc} (h3:P.underlying t2=some u) (h4:kW u=true) (h5:(P.info? e).map (fun i=>(i.size,Nat.ble i.bytes 140000))=some (sz,true)) (h6:(aS P e).map List.length=some sz) (hp:1≤sz):ApT P ats e sz:=by
 obtain⟨i,hi,h7⟩:=Option.map_eq_some_iff.1 h5
 obtain⟨z,hz,h8⟩:=Option.map_eq_some_iff.1 h6
 simp only[Prod.mk.injEq] at h7
 exact⟨t,t2,u,i,z,h0,h1,h2,h3,h4,hi,hz,by rw[h8,h7.1],h7.1,hp,Nat.le_of_ble_eq_true h7.2⟩
section
variable {E:Env} {s:St} {kn:Kn} {S:List Seg} {F:FZ} {L:List Seg} {F0:FZ} {nx0:Nat}
theorem Sub.c {l r:Kn} {k:Nat} {v:Value} (h:lkT l k=some v) (hr:Sub l r):Sub l ((k,v)::r):=⟨h,hr⟩
theorem Sub.n {l:Kn}:Sub l []:=True.intro
theorem Stt.gap0 (hS:Stt E s kn S F L F0 nx0):Stt E s kn ([]::S) F L F0 nx0:=⟨hS.fx,hS.mem.perm (by simp),hS.le,hS.nx,hS.ms⟩
theorem bW (hS:Stt E s kn S F L F0 nx0) {ps:Array (Nat×Operand)} {parts:List (Nat×Value)} (h:ps.toList.map (fun p=>(p.1,lkO E.NG kn p.2))=parts.map fun p=>(p.1,some p.2)):ps.toList.map (fun p=>(p.1,opv E.NG s.fr p.2))=parts:=by
 have key: ∀(l:List (Nat×Operand)) (m:List (Nat×Value)),l.map (fun p=>(p.1,lkO E.NG kn p.2))=m.map (fun p=>(p.1,some p.2))→l.map (fun p=>(p.1,opv E.NG s.fr p.2))=m:=by
  intro l
  induction l with
  | nil=>intro m h; cases m with | nil=>rfl | cons _ _=>cases h
  | cons a l ih =>
   intro m h
   cases m with
   | nil=>cases h
   | cons b m =>
    simp only[List.map_cons,List.cons.injEq,Prod.mk.injEq] at h ⊢
    exact⟨Prod.ext h.1.1 (hS.lk h.1.2),ih m h.2⟩
 exact key _ _ h
theorem dR (hS:Stt E s kn S F L F0 nx0) {x:Operand} {k:IntKind} {i:Int} {d:Nat} (h:lkO E.NG kn x=some (.int k i)):bF ((some x).map (opv E.NG s.fr)) d=some i:=by
 show(match asI (opv E.NG s.fr x) with | some (_,i)=>some i | none=>none)=_
 rw[hS.lk h]; rfl
end
theorem RS.apart {zs:List Nat} {rs:List Rec} {n:Nat} {qs ls:List Nat} {as ns ds:List (Nat×Nat)} (h:RS zs rs n qs ls as ns ds) (k j' j:Nat) {i' i:Nat} (hk:ns.contains (k,j')=true) (h1:nth zs j'=some i') (h2:nth zs j=some i) (hne:i'≠i):RS zs rs n qs ls ((k,j)::as) ns ds :=
 ⟨h.len,h.q,h.l,fun p hp=>by
  rcases List.mem_cons.1 hp with rfl | hp
  ·have hm:(k,j')∈ns:=by simpa using hk
   refine⟨(h.nw _ hm).1,fun r x e hx=>?_⟩
   obtain⟨q1,q2,q3,_,_⟩:=(h.nw _ hm).2 r i' e h1
   rw[h2] at hx
   obtain rfl:=Option.some.inj hx
   unfold Rec.has
   rw[q1,q2,q3]
   have:(Nat.ble i' i&&Nat.blt i (i'+1))=false:=by
    cases hb:Nat.ble i' i&&Nat.blt i (i'+1) with
    | false=>rfl
    | true=>rw[Bool.and_eq_true,Nat.blt_eq] at hb; have:=Nat.le_of_ble_eq_true hb.1; omega
   simp[this]
  ·exact h.a p hp,h.nw,h.rd⟩
theorem fW {F:FZ} {zs:List Nat} {S:List Seg}:Aw F S zs []:=fun j hj=>by cases hj
theorem g9 {F:FZ} {zs:List Nat} {S:List Seg} {j i:Nat} {js:List Nat} (h0:nth zs j=some i) (h1:i∈ah S) (hr:Aw F S zs js):Aw F S zs (j::js):=fun j' hj i' e=>by
 rcases List.mem_cons.1 hj with rfl | hj
 ·rw[h0] at e; obtain rfl:=Option.some.inj e; exact .inl h1
 ·exact hr j' hj i' e
theorem mm0 {i:Nat} {b:Blk} {S:List Seg}:i∈ah ([(i,b)]::S):=by simp[ah]
theorem mm1 {i:Nat} {a:Seg} {S:List Seg} (h:i∈ah S):i∈ah (a::S):=by simp only[ah,List.flatten_cons,List.map_append,List.mem_append]; exact .inr h
section
variable {α:Type} [Inhabited α] {d:El α} {F:FZ} {l:List α} {cs:List Value}
theorem af.loadF (h:af d F l cs) (ex:List Value) {j:Int} (hj:0≤j∧j<(l.length:Int)) {z:Nat} (hs:d.sz=z): ∃c,d.R F (gt l j) c∧(∀k,k<z→nth (cs++ex) (0+j.toNat*z+k)=nth c k)∧nth (cs++ex) (0+j.toNat*z)=nth c 0∧aR (cs++ex) (0+j.toNat*z) z=some c:=by
 obtain⟨c,k1,k2,k3⟩:=h.elem ex hj.1 hj.2
 subst hs
 have key: ∀k,k<d.sz→nth (cs++ex) (0+j.toNat*d.sz+k)=nth c k:=fun k hk=>by rw[aO c,← k3 k hk,Nat.zero_add]
 exact⟨c,k1,key,by have:=key 0 d.pos; rwa [Nat.add_zero] at this,by simpa using k2⟩
theorem af.loadF_ (h:af d F l cs) {j:Int} (hj:0≤j∧j<(l.length:Int)) {z:Nat} (hs:d.sz=z): ∃c,d.R F (gt l j) c∧(∀k,k<z→nth cs (0+j.toNat*z+k)=nth c k)∧nth cs (0+j.toNat*z)=nth c 0∧aR cs (0+j.toNat*z) z=some c:=by
 have:=h.loadF [] hj hs
 rwa [List.append_nil] at this
theorem lF {E:Env} {s:St} {kn:Kn} {S:List Seg} {F:FZ} {L:List Seg} {F0:FZ} {nx0:Nat} (hS:Stt E s kn S F L F0 nx0) {a b:TypeId} {x:Operand} {v:Value} (hx:lkO E.NG kn x=some v) (hv:bh v=none):aq (.convert a b x) (opv E.NG s.fr)=none:=by
 show bh (opv E.NG s.fr x)=_
 rw[hS.lk hx,hv]
end
end Go.Proofs.YtjcbhbncncbdjaaGreatDoorAi
namespace Go.Proofs.YtjcbhbncncbdjaaGreatDoorAi
open Go Go.RowKit
set_option linter.unusedVariables false
set_option linter.unusedSimpArgs false
set_option linter.unusedSectionVars false
section
variable {α:Type} {d:El α} {F:FZ} {a:Option Addr} {z:Nat} {l:List α}
theorem Stt.frzO {E:Env} {s:St} {kn:Kn} {S:List Seg} {L:List Seg} {F0:FZ} {nx0:Nat} {B:Seg} (hS:Stt E s kn (B::S) F L F0 nx0) (hO:Own d F a z l B): ∃F',FLe F F'∧Stt E s kn S F' L F0 nx0∧Frz d F' a z l:=by
 rcases hO with⟨rfl,rfl,rfl,rfl⟩ | ⟨i,cs,ex,rfl,rfl,rfl,hC⟩
 ·exact⟨F,FLe.refl F,hS.drop,Frz.nil⟩
 ·obtain⟨h1,h2⟩:=hS.frz
  refine⟨_,h2,h1,.inr ⟨i,0,cs++ex,d.e,d.sz,true,rfl,.inr rfl,if_pos rfl,?_,?_⟩⟩
  ·rw[List.drop_zero,← hC.len,List.take_left]; exact hC.mono h2
  ·rw[List.length_append,← hC.len]; omega
theorem Frz.addr (h:Frz d F a z l) (hl:0<l.length): ∃i off,a=some ⟨i,off,none⟩:=by
 obtain⟨i,off,cs,e,ez,own,h1,_⟩:=h.some_ hl
 exact⟨i,off,h1⟩
theorem Frz.at [Inhabited α] {i off:Nat} {j:Int} (h:Frz d F (some ⟨i,off,none⟩) z l) (hj:0≤j∧j<(l.length:Int)) {m:Nat} (hs:d.sz=m) :
  ∃cs e ez own c,F i=some (.row cs e ez own)∧d.R F (gt l j) c∧nth cs (off+j.toNat*m)=nth c 0∧(∀k,k<m→nth cs (off+j.toNat*m+k)=nth c k)∧aR cs (off+j.toNat*m) m=some c:=by
 subst hs
 obtain⟨i',off',cs,e,ez,own,h1,h2,h3,h4,h5⟩:=h.some_ (by omega)
 obtain⟨rfl,rfl⟩:i=i'∧off=off':=by simpa using h1
 obtain⟨c,k1,k2,k3⟩:=h4.get (j:=j.toNat) (by omega)
 have hlen:=d.len k1
 have hp:=d.pos
 have hm:j.toNat*d.sz+d.sz≤l.length*d.sz:=by
  have:(j.toNat+1)*d.sz≤l.length*d.sz:=Nat.mul_le_mul_right _ (by omega)
  rwa [Nat.succ_mul] at this
 have key: ∀k,k<d.sz→nth cs (off+j.toNat*d.sz+k)=nth c k:=fun k hk=>by
  rw[aO,aO,← k2,List.getElem?_take_of_lt hk,List.getElem?_drop,List.getElem?_take_of_lt (by omega),List.getElem?_drop,Nat.add_assoc]
 refine⟨cs,e,ez,own,c,h3,k1,by have:=key 0 hp; rwa [Nat.add_zero] at this,key,?_⟩
 unfold aR
 rw[bO (Nat.ble_eq_true_of_le (by omega)),← k2,List.drop_take,List.drop_drop,List.take_take]
 congr 2
 omega
theorem Frz.slice (h:Frz d F a z l) {lo hi:Int} (hc:0≤lo∧lo≤hi∧hi≤(l.length:Int)) {m:Nat} (hs:d.sz=m): ∃a',jX a l.length z (some lo) (some hi) (some m)=some (.slice a' (mid l lo hi).length z)∧Frz d F a' z (mid l lo hi):=by
 subst hs
 have hml:(mid l lo hi).length=(hi-lo).toNat:=by unfold mid; rw[List.length_drop,List.length_take]; omega
 rcases h with⟨rfl,rfl,rfl⟩ | ⟨i,off,cs,e,ez,own,rfl,h2,h3,h4,h5⟩
 ·simp only[List.length_nil] at hc
  refine⟨none,?_,.inl ⟨rfl,rfl,by simp[mid]⟩⟩
  show slA lo hi 0 d.sz 0 none=_
  show(if lo=0∧hi=0∧0=0∧0=0 then some (Value.slice none 0 0) else none)=_
  rw[if_pos ⟨by omega,by omega,rfl,rfl⟩,hml]
  have:(hi-lo).toNat=0:=by omega
  rw[this]
 ·refine⟨some ⟨i,off+lo.toNat*d.sz,none⟩,?_,.inr ⟨i,off+lo.toNat*d.sz,cs,e,ez,own,rfl,h2,h3,?_,?_⟩⟩
  ·show slA lo hi l.length d.sz z (some ⟨i,off,none⟩)=_
   show(if 0≤lo∧lo≤hi∧hi≤(l.length:Int)∧(z=0∨z=d.sz) then some (Value.slice (some ⟨i,off+lo.toNat*d.sz,none⟩) (hi-lo).toNat z) else none)=_
   rw[if_pos ⟨hc.1,hc.2.1,hc.2.2,h2⟩,hml]
  ·have:=(h4.take hi.toNat).drop lo.toNat
   rw[show(l.take hi.toNat).drop lo.toNat=mid l lo hi from rfl] at this
   rw[hml,List.take_take,List.drop_take,List.drop_drop] at *
   have e1:min (hi.toNat*d.sz) (l.length*d.sz)=hi.toNat*d.sz:=Nat.min_eq_left (Nat.mul_le_mul_right _ (by omega))
   rw[e1,← Nat.sub_mul] at this
   rw[show(hi-lo).toNat=hi.toNat-lo.toNat by omega]
   exact this
  ·rw[hml]
   have:off+(lo.toNat*d.sz+(hi-lo).toNat*d.sz)≤cs.length:=by
    rw[← Nat.add_mul]
    exact Nat.le_trans (Nat.add_le_add_left (Nat.mul_le_mul_right _ (by omega)) _) h5
   omega
end
section
variable {P:Program} {nx:Nat} {ty:TypeId} {ρ:Operand→Value} {b:Option Blk} {x y:Operand} {v:Value} {k:IntKind} {m n:Int}
theorem aop_rng {t:TypeId} {l:List UInt8} (hu:P.underlying t=some .string) (hx:ρ x=aa l):ai (.range t x) P nx ty ρ b=some (.pointer (some ⟨nx,0,none⟩),.new (.iter ⟨l.toArray⟩ 0)):=by
 show fq P nx t (ρ x)=_
 rw[hx]
 show(bif bq P t then _ else _)=_
 unfold bq
 rw[hu]; rfl
def dec (l:List UInt8) (p:Nat):Nat×Nat:=Utf8.decode ⟨l.toArray⟩ p
theorem aop_nx1 {i:Nat} {l:List UInt8} {p:Nat} (hx:ρ x= .pointer (some ⟨i,0,none⟩)) (hp:p<l.length):ai (.next x true) P nx ty ρ (some (.iter ⟨l.toArray⟩ p))=some (.tuple #[.bool true,.int .i64 (p:Nat),.int .i32 ((dec l p).1:Nat)],.upd (.iter ⟨l.toArray⟩ (p+(dec l p).2))):=by
 show j5 (ρ x) (some (.iter ⟨l.toArray⟩ p))=_
 rw[hx]
 show iH ⟨l.toArray⟩ p=_
 unfold iH
 rw[kz,if_pos hp]; rfl
theorem aop_nx0 {i:Nat} {l:List UInt8} {p:Nat} (hx:ρ x= .pointer (some ⟨i,0,none⟩)) (hp: ¬ p<l.length):ai (.next x true) P nx ty ρ (some (.iter ⟨l.toArray⟩ p))=some (.tuple #[.bool false],.none):=by
 show j5 (ρ x) (some (.iter ⟨l.toArray⟩ p))=_
 rw[hx]
 show iH ⟨l.toArray⟩ p=_
 unfold iH
 rw[kz,if_neg hp]
end
section
variable {E:Env} {s:St} {kn:Kn} {S:List Seg} {F:FZ} {L:List Seg} {F0:FZ} {nx0:Nat} {l:List Oper} {ops:Array Oper} {o:Oper} {inf:Option (List (List Nat))} {zs:List Nat} {rs:List Rec} {n:Nat} {qs ls:List Nat} {as ns ds:List (Nat×Nat)} {Q:St→Prop} {d:Nat} {v:Value}
theorem q_up {i p:Nat} {b b':Blk} (hS:Stt E s kn S F L F0 nx0) (hw:ae ops s.fr o=some true) (hc:aw o.op=false) (hd:o.dst=some d) (ht:aq o.op (opv E.NG s.fr)=some i) (hp:ce S p= [(i,b)]) (hv:ai o.op E.P s.nx o.type (opv E.NG s.fr) (some b)=some (v,.upd b'))
  (k: ∀s',Stt E s' ((d,v)::kn) (fD S p [(i,b')]) F L F0 nx0→QW E l ops s' Q):QW E (o::l) ops s Q:=by
 have hpl:p<S.length:=jG (by rw[hp]; simp)
 have hpA:ce (S++L) p= [(i,b)]:=by rw[e8 S L p hpl,hp]
 have hb:=hS.mem.at hpA
 have hfr:=hS.mem.front hpA
 rw[cf S L p hpl] at hfr
 have hno:=oI hfr hS.le
 refine KW.upd (inf:=none) rfl hw hc (RS.start []) ht (by rw[hb]; exact hv) [] rfl (fun j hj=>by cases hj) fun rs' hr=>k _ ⟨by rw[hd]; exact hS.fx.put d _,?_,hS.le,hS.nx,fun j hj=>?_⟩
 ·refine(hfr.setH (b':=b')).perm ?_
  have:=d3 (S++L) p [(i,b')] (by rw[hpA]; simp)
  rw[cf S L p hpl,eZ S L p _ hpl] at this
  simpa using this
 ·rcases cq hj with hj | hj
  ·rw[List.mem_singleton] at hj; subst hj; exact hno
  ·exact hS.ms j hj
theorem oL (hS:Stt E s kn S F L F0 nx0) {i:Nat} {x:Operand} {b:Bool} (hx:lkO E.NG kn x=some (.pointer (some ⟨i,0,none⟩))):aq (.next x b) (opv E.NG s.fr)=some i:=by
 show bh (opv E.NG s.fr x)=_
 rw[hS.lk hx]; rfl
end
def errV (t:Nat) (b:Bool):Value:=bif b then .iface t (.chan (some 0)) else .nilIface
def cu {α β:Type} (o:α⊕β) (f:α→Option β):Option β:=match o with | .inl x=>f x | .inr r=>some r
theorem bC {α β:Type} {x:α} {f:α→Option β} {r:β} (h:cu (.inl x) f=some r):f x=some r:=h
theorem bD {α β:Type} {x:β} {f:α→Option β} {r:β} (h:cu (.inr x) f=some r):some x=some r:=h
section
variable {P:Program} {nx:Nat} {ty:TypeId} {ρ:Operand→Value} {b:Option Blk} {x y:Operand} {v:Value} {k:IntKind} {m n:Int}
theorem mq {args:Array Operand} {ats:Array TypeId} (ha:args.toList= [x,y]) (hx:ρ x= .int k m) (hy:ρ y= .int k n):ai (.call ⟨.builtin .min,args,ats⟩) P nx ty ρ b=some (.int k (if n<m then n else m),.none):=by
 show bMin P ats ty (args.toList.map ρ) b=_
 rw[ha]
 show(bif aV [ρ x,ρ y] then ar (aK (aF P (Builtin.min_ ats ty [ρ x,ρ y].toArray))) else none)=_
 rw[hx,hy]
 show ar (aK (aF P (Builtin.min2 (.int k m) (.int k n))))=_
 unfold Builtin.min2
 simp
 split<;>rfl
theorem aop_mf {f:Fn} {fs cs:Array Operand} {vs ws:List Value} (h1:fs.toList.map ρ=vs) (h2:cs.toList.map ρ=ws):ai (.makeFunc f fs cs) P nx ty ρ b=some (.func f vs.toArray ws.toArray,.none):=by
 show some (Value.func f (fs.toList.map ρ).toArray (cs.toList.map ρ).toArray,Eff.none)=_
 rw[h1,h2]
theorem aop_fd {t ft:TypeId} {f off sz:Nat} {cs:Array Value} (hx:ρ x= .agg cs) (hf:fieldAt P t f=some (off,sz,ft)) (hg:(P.underlying ft).map df=some false) (hv:nth cs.toList off=some v):ai (.field t x f) P nx ty ρ b=some (v,.none):=by
 obtain⟨u,hu,ha⟩:=Option.map_eq_some_iff.1 hg
 show ar (kR P t f (ρ x))=_
 rw[hx]
 show ar (fdA P cs.toList (fieldAt P t f))=_
 rw[hf]
 unfold fdA
 simp only[hu,ha,hv,cond_false]; rfl
end
section
variable {E:Env} {s:St} {kn:Kn} {S:List Seg} {F:FZ} {L:List Seg} {F0:FZ} {nx0:Nat} {l:List Oper} {ops:Array Oper} {o:Oper} {inf:Option (List (List Nat))} {zs:List Nat} {rs:List Rec} {n:Nat} {qs ls:List Nat} {as ns ds:List (Nat×Nat)} {Q:St→Prop} {d:Nat} {v:Value}
theorem app_nil {P:Program} {ats:Array TypeId} {e sz:Nat} {a:Option Addr} {j z:Nat} {y:Value} {H:T} {nx:Nat} (ht:ApT P ats e sz) (hlen:fT y=some 0) (hj:a=none→j=0):bL P ats [.slice a j z,y] H nx=some (.slice a j z,H,nx,[]):=by
 obtain⟨t,t2,u,i,zz,h0,h1,h2,h3,h4,h5,h6,h7,h8,h9,h10⟩:=ht.ok
 rw[g5 h0 h1 h2 h3 h4 h5 h6 h7 (by omega),hlen]
 show gi H nx i e (.slice a j z) y a j z 0=_
 unfold gi
 rw[show Nat.beq 0 0=true from rfl,cond_true]
 unfold jd
 cases a with
 | none=>simp only; rw[hj rfl]; rfl
 | some a=>rfl
theorem K.apFo {α:Type} {dd:El α} {ats:Array TypeId} {x y:Operand} {a a2:Option Addr} {z z2:Nat} {lst m:List α} {B:Seg} (hS:Stt E s kn (B::S) F L F0 nx0) (hq:RS zs rs n qs ls as ns ds) (hi:okI inf=true) (hw:ae ops s.fr o=some true)
  (ho:o.op= .call ⟨.builtin .append,#[x,y],ats⟩) (hd:o.dst=some d) (ht:ApT E.P ats dd.e dd.sz) (hx:lkO E.NG kn x=some (.slice a lst.length z)) (hy:lkO E.NG kn y=some (.slice a2 m.length z2)) (hO:Own dd F a z lst B) (hz:Frz dd F a2 z2 m) (hb:lst.length+m.length<1000000000∨(lst.length+m.length<5864062014635∧ ∃i,E.P.info? dd.e=some i∧i.bytes≤24)) (js:List Nat) (hun:okU zs qs ls ds ns js (cb inf)=true) (hmb:mbN ns zs (cb inf)= []) (hj:Aw F S zs js)
  (k: ∀s' rs' a' z' B',Own dd F a' z' (lst++m) B'→Stt E s' ((d,.slice a' (lst++m).length z')::kn) (B'::S) F L F0 nx0→RS zs rs' (n+1) qs ls (js.map (fun j=>(n,j))++as) ns ds→KW E l ops (bK inf) rs' s' Q):KW E (o::l) ops inf rs s Q:=by
 have hM:Mem s.H s.nx (B::(S++L)) F:=hS.mem
 by_cases hm:m.length=0
 ·obtain rfl:m= []:=List.eq_nil_of_length_eq_zero hm
  have hj0:a=none→lst.length=0:=fun e=>by
   rcases hO with⟨_,_,rfl,_⟩ | ⟨i,cs,ex,h,_⟩
   ·rfl
   ·rw[e] at h; cases h
  refine KW.call (v:= .slice a lst.length z) (H:=s.H) (nx:=s.nx) (ms:=[]) [] hi hw (by rw[ho]; rfl) hq ⟨0,fun n _=>?_⟩ js hun hmb (fun q hq' i' e=>⟨hM.drop1.alt (hj q hq' i' e),by simp⟩) fun rs' hr=>k _ rs' a z B (by rw[List.append_nil]; exact hO) ⟨by rw[hd,List.append_nil]; exact hS.fx.put d _,hM,hS.le,hS.nx,hS.ms⟩ hr
  rw[ho]
  show bL E.P ats [opv E.NG s.fr x,opv E.NG s.fr y] s.H s.nx=_
  rw[hS.lk hx,hS.lk hy]
  exact app_nil ht rfl hj0
 ·obtain⟨i2,off,cs2,e2,ez,own,rfl,hz2,hF,hC,hlen⟩:=hz.some_ (by omega)
  have hget:=hS.fat hF
  have hsrc:aW s.H dd.sz m.length (.slice (some ⟨i2,off,none⟩) m.length z2)=some ((cs2.drop off).take (m.length*dd.sz)):=by
   unfold aW
   simp only[hget]
   unfold aR
   rw[bO (Nat.ble_eq_true_of_le hlen)]
  obtain⟨cs,H',ms,h1,h2,h3,h4⟩:=mj ht hM hO (y:= .slice (some ⟨i2,off,none⟩) m.length z2) rfl (by omega) hsrc hC hb
  refine KW.call (v:= .slice (some ⟨s.nx,0,none⟩) (lst++m).length dd.sz) (H:=H') (nx:=s.nx+1) (ms:=ms) [] hi hw (by rw[ho]; rfl) hq ⟨0,fun n _=>?_⟩ js hun hmb (fun q hq' i' e=>⟨hM.drop1.alt (hj q hq' i' e),fun hm'=>by
   obtain⟨b,rfl⟩:=h4 i' hm'
   exact hM.alt2 (hj q hq' i' e) rfl⟩) fun rs' hr=>k _ rs' _ _ _ (Own.blk0 h3) ⟨by rw[hd]; exact hS.fx.put d _,h2,hS.le,Nat.le_succ_of_le hS.nx,fun i hi=>?_⟩ hr
  ·rw[ho]
   show bL E.P ats [opv E.NG s.fr x,opv E.NG s.fr y] s.H s.nx=_
   rw[hS.lk hx,hS.lk hy]
   exact h1
  ·rcases cq hi with hi | hi
   ·obtain⟨b,rfl⟩:=h4 i hi
    exact oI hM hS.le
   ·exact hS.ms i hi
theorem K.apF {α:Type} {dd:El α} {ats:Array TypeId} {x y:Operand} {a a2:Option Addr} {z z2:Nat} {lst m:List α} {B:Seg} (hS:Stt E s kn (B::S) F L F0 nx0) (hq:RS zs rs n qs ls as ns ds) (hi:okI inf=true) (hw:ae ops s.fr o=some true)
  (ho:o.op= .call ⟨.builtin .append,#[x,y],ats⟩) (hd:o.dst=some d) (ht:ApT E.P ats dd.e dd.sz) (hx:lkO E.NG kn x=some (.slice a lst.length z)) (hy:lkO E.NG kn y=some (.slice a2 m.length z2)) (hO:Own dd F a z lst B) (hz:Frz dd F a2 z2 m) (hb:lst.length+m.length<1000000000) (js:List Nat) (hun:okU zs qs ls ds ns js (cb inf)=true) (hmb:mbN ns zs (cb inf)= []) (hj:Aw F S zs js)
  (k: ∀s' rs' a' z' B',Own dd F a' z' (lst++m) B'→Stt E s' ((d,.slice a' (lst++m).length z')::kn) (B'::S) F L F0 nx0→RS zs rs' (n+1) qs ls (js.map (fun j=>(n,j))++as) ns ds→KW E l ops (bK inf) rs' s' Q):KW E (o::l) ops inf rs s Q:=K.apFo hS hq hi hw ho hd ht hx hy hO hz (.inl hb) js hun hmb hj k
theorem mr {α:Type} {dd:El α} {ats:Array TypeId} {x y:Operand} {a a2:Option Addr} {z z2:Nat} {lst m:List α} {B:Seg} (hS:Stt E s kn (B::S) F L F0 nx0) (hw:ae ops s.fr o=some true)
  (ho:o.op= .call ⟨.builtin .append,#[x,y],ats⟩) (hd:o.dst=some d) (ht:ApT E.P ats dd.e dd.sz) (hx:lkO E.NG kn x=some (.slice a lst.length z)) (hy:lkO E.NG kn y=some (.slice a2 m.length z2)) (hO:Own dd F a z lst B) (hz:Frz dd F a2 z2 m) (hb:lst.length+m.length<1000000000)
  (k: ∀s' a' z' B',Own dd F a' z' (lst++m) B'→Stt E s' ((d,.slice a' (lst++m).length z')::kn) (B'::S) F L F0 nx0→QW E l ops s' Q):QW E (o::l) ops s Q:=K.apF hS (RS.start []) rfl hw ho hd ht hx hy hO hz hb [] rfl rfl (fun j hj=>by cases hj) fun s' _ a' z' B' hc h _=>k s' a' z' B' hc h
theorem q_apFb {α:Type} {dd:El α} {ats:Array TypeId} {x y:Operand} {a a2:Option Addr} {z z2:Nat} {lst m:List α} {B:Seg} (hS:Stt E s kn (B::S) F L F0 nx0) (hw:ae ops s.fr o=some true)
  (ho:o.op= .call ⟨.builtin .append,#[x,y],ats⟩) (hd:o.dst=some d) (ht:ApT E.P ats dd.e dd.sz) (hx:lkO E.NG kn x=some (.slice a lst.length z)) (hy:lkO E.NG kn y=some (.slice a2 m.length z2)) (hO:Own dd F a z lst B) (hz:Frz dd F a2 z2 m) (hi24: ∃i,E.P.info? dd.e=some i∧i.bytes≤24) (hb:lst.length+m.length<5864062014635)
  (k: ∀s' a' z' B',Own dd F a' z' (lst++m) B'→Stt E s' ((d,.slice a' (lst++m).length z')::kn) (B'::S) F L F0 nx0→QW E l ops s' Q):QW E (o::l) ops s Q:=K.apFo hS (RS.start []) rfl hw ho hd ht hx hy hO hz (.inr ⟨hb,hi24⟩) [] rfl rfl (fun j hj=>by cases hj) fun s' _ a' z' B' hc h _=>k s' a' z' B' hc h
end
def OwnV {α:Type} (d:El α) (F:FZ) (a:Option Addr) (z:Nat) (m:List α) (B:Seg):Prop :=
 (a=none∧z=0∧m= [])∨ ∃i off cs e ez own,a=some ⟨i,off,none⟩∧B= [(i,.row cs e ez own)]∧af d F m ((cs.drop off).take (m.length*d.sz))∧off+m.length*d.sz≤cs.length
theorem af.mid {α:Type} {d:El α} {F:FZ} {l:List α} {cs:List Value} (h:af d F l cs) {lo hi:Int} (hc:0≤lo∧lo≤hi∧hi≤(l.length:Int)) (ex:List Value) :
  af d F (mid l lo hi) (((cs++ex).drop (lo.toNat*d.sz)).take ((mid l lo hi).length*d.sz))∧lo.toNat*d.sz+(mid l lo hi).length*d.sz≤(cs++ex).length:=by
 have hml:(_root_.Go.Proofs.YtjcbhbncncbdjaaGreatDoorAi.mid l lo hi).length=hi.toNat-lo.toNat:=by unfold _root_.Go.Proofs.YtjcbhbncncbdjaaGreatDoorAi.mid; rw[List.length_drop,List.length_take]; omega
 have hlen:=h.len
 have h1:lo.toNat*d.sz+(hi.toNat-lo.toNat)*d.sz=hi.toNat*d.sz:=by rw[← Nat.add_mul]; congr 1; omega
 have h2:hi.toNat*d.sz≤l.length*d.sz:=Nat.mul_le_mul_right _ (by omega)
 rw[hml]
 refine⟨?_,by rw[List.length_append,h1,hlen]; omega⟩
 have:=(h.take hi.toNat).drop lo.toNat
 rw[show(l.take hi.toNat).drop lo.toNat=_root_.Go.Proofs.YtjcbhbncncbdjaaGreatDoorAi.mid l lo hi from rfl] at this
 have e:((cs++ex).drop (lo.toNat*d.sz)).take ((hi.toNat-lo.toNat)*d.sz)=(cs.take (hi.toNat*d.sz)).drop (lo.toNat*d.sz):=by
  rw[List.drop_take,List.drop_append,List.take_append]
  have e1:hi.toNat*d.sz-lo.toNat*d.sz=(hi.toNat-lo.toNat)*d.sz:=by rw[← Nat.sub_mul]
  rw[e1,List.length_drop]
  have e2:(hi.toNat-lo.toNat)*d.sz-(cs.length-lo.toNat*d.sz)=0:=by omega
  rw[e2,List.take_zero,List.append_nil]
 rw[e]; exact this
theorem Own.view {α:Type} {d:El α} {F:FZ} {a:Option Addr} {z:Nat} {l:List α} {B:Seg} (h:Own d F a z l B) {lo hi:Int} (hc:0≤lo∧lo≤hi∧hi≤(l.length:Int)) {m:Nat} (hs:d.sz=m) :
  ∃a',jX a l.length z (some lo) (some hi) (some m)=some (.slice a' (mid l lo hi).length z)∧OwnV d F a' z (mid l lo hi) B:=by
 subst hs
 have hml:(mid l lo hi).length=(hi-lo).toNat:=by unfold mid; rw[List.length_drop,List.length_take]; omega
 rcases h with⟨rfl,rfl,rfl,rfl⟩ | ⟨i,cs,ex,rfl,rfl,rfl,hC⟩
 ·simp only[List.length_nil] at hc
  refine⟨none,?_,.inl ⟨rfl,rfl,by simp[mid]⟩⟩
  show(if lo=0∧hi=0∧0=0∧0=0 then some (Value.slice none 0 0) else none)=_
  rw[if_pos ⟨by omega,by omega,rfl,rfl⟩,hml]
  have:(hi-lo).toNat=0:=by omega
  rw[this]
 ·obtain⟨h1,h2⟩:=hC.mid hc ex
  refine⟨some ⟨i,0+lo.toNat*d.sz,none⟩,?_,.inr ⟨i,0+lo.toNat*d.sz,cs++ex,d.e,d.sz,true,rfl,rfl,by rw[Nat.zero_add]; exact h1,by rw[Nat.zero_add]; exact h2⟩⟩
  show(if 0≤lo∧lo≤hi∧hi≤(l.length:Int)∧(d.sz=0∨d.sz=d.sz) then some (Value.slice (some ⟨i,0+lo.toNat*d.sz,none⟩) (hi-lo).toNat d.sz) else none)=_
  rw[if_pos ⟨hc.1,hc.2.1,hc.2.2,.inr rfl⟩,hml]
theorem Own.pre {α:Type} {d:El α} {F:FZ} {a:Option Addr} {z:Nat} {l:List α} {B:Seg} (h:Own d F a z l B) {hi:Int} (hc:0≤(0:Int)∧0≤hi∧hi≤(l.length:Int)) {m:Nat} (hs:d.sz=m) :
  jX a l.length z (some 0) (some hi) (some m)=some (.slice a (mid l 0 hi).length z)∧Own d F a z (mid l 0 hi) B:=by
 subst hs
 have hml:(mid l 0 hi).length=(hi-0).toNat:=by unfold mid; rw[List.length_drop,List.length_take]; omega
 rcases h with⟨rfl,rfl,rfl,rfl⟩ | ⟨i,cs,ex,rfl,rfl,rfl,hC⟩
 ·simp only[List.length_nil] at hc
  refine⟨?_,.inl ⟨rfl,rfl,by simp[mid],rfl⟩⟩
  show(if(0:Int)=0∧hi=0∧0=0∧0=0 then some (Value.slice none 0 0) else none)=_
  rw[if_pos ⟨rfl,by omega,rfl,rfl⟩,hml]
  have:(hi-0).toNat=0:=by omega
  rw[this]
 ·refine⟨?_,.inr ⟨i,cs.take (hi.toNat*d.sz),cs.drop (hi.toNat*d.sz)++ex,rfl,rfl,by rw[← List.append_assoc,List.take_append_drop],by simpa[mid] using hC.take hi.toNat⟩⟩
  show(if(0:Int)≤0∧0≤hi∧hi≤(l.length:Int)∧(d.sz=0∨d.sz=d.sz) then some (Value.slice (some ⟨i,0+(0:Int).toNat*d.sz,none⟩) (hi-0).toNat d.sz) else none)=_
  rw[if_pos ⟨hc.1,hc.2.1,hc.2.2,.inr rfl⟩,hml]
  simp
section
variable {E:Env} {s:St} {kn:Kn} {S:List Seg} {F:FZ} {L:List Seg} {F0:FZ} {nx0:Nat} {l:List Oper} {ops:Array Oper} {o:Oper} {inf:Option (List (List Nat))} {zs:List Nat} {rs:List Rec} {n:Nat} {qs ls:List Nat} {as ns ds:List (Nat×Nat)} {Q:St→Prop} {d:Nat} {v:Value}
end
theorem ax {N:St→Prop} {Q:Exit→St→Prop} {i:Nat} {s:St} (h:Q (.exit i) s):eX N Q (.exit i) s:=h
def hJ {X R:Type} (body:(X→Option R)→X→Option R):Nat→X→Option R
 | 0,_=>none
 | n+1,x=>body (hJ body n) x
open Classical in
noncomputable def fixC {X R:Type} (body:(X→Option R)→X→Option R) (x:X):Option R:=if h: ∃r n,hJ body n x=some r then some h.choose else none
noncomputable def fixO {X R:Type} (body:(X→Option R)→X→Option R) (x:X):Option R:=match hJ body 100000 x with | some r=>some r | none=>fixC body x
theorem nc {X R:Type} {body:(X→Option R)→X→Option R} {x:X} {r:R} (h:fixO body x=some r): ∃n,hJ body n x=some r:=by
 unfold fixO at h
 split at h
 ·next q hq=>obtain rfl:=Option.some.inj h; exact⟨_,hq⟩
 ·unfold fixC at h
  split at h
  ·rename_i hx
   obtain rfl:=Option.some.inj h
   exact hx.choose_spec
  ·cases h
theorem bX {c a:Bool} (h:c=true):Value.bool a= .bool (c&&a):=by rw[h]; rfl
theorem bY {c a:Bool} (h:c=false):Value.bool false= .bool (c&&a):=by rw[h]; rfl
theorem c9 {c a:Bool} (h:c=true):Value.bool true= .bool (c||a):=by rw[h]; rfl
theorem da {c a:Bool} (h:c=false):Value.bool a= .bool (c||a):=by rw[h]; rfl
theorem hY (ops:Array Oper) (E:Env) (call:am): ∀(l m:List Oper) (s:St),cG (l++m) ops E call s=(match cG l ops E call s with | some s'=>cG m ops E call s' | Option.none=>Option.none)
 | [],m,s=>rfl
 | o::l,m,s=>by
  rw[List.cons_append,bg,bg]
  cases ae ops s.fr o with
  | none=>rfl
  | some b =>
   cases b with
   | false=>exact hY ops E call l m _
   | true =>
    show cg (cG (l++m)) ops E call (bm E call o s)=(match cg (cG l) ops E call (bm E call o s) with | some s'=>cG m ops E call s' | Option.none=>Option.none)
    cases bm E call o s with
    | none=>rfl
    | some s'=>exact hY ops E call l m s'
def mt:Nat→List Oper→List Oper
 | 0,_=>[]
 | n+1,a::l=>a::mt n l
 | _+1,[]=>[]
def mu:Nat→List Oper→List Oper
 | 0,l=>l
 | n+1,_::l=>mu n l
 | _+1,[]=>[]
theorem hZ: ∀(n:Nat) (l:List Oper),mt n l++mu n l=l
 | 0,l=>rfl
 | n+1,a::l=>by simp[mt,mu,hZ n l]
 | _+1,[]=>rfl
theorem bZ {E:Env} {l:List Oper} {ops:Array Oper} {s:St} {Q:St→Prop} (m:Nat) (J:St→Prop) (h:QW E (mt m l) ops s J) (hk: ∀s',J s'→QW E (mu m l) ops s' Q):QW E l ops s Q:=by
 obtain⟨s1,n1,h1,hj⟩:=h
 obtain⟨s2,n2,h2,hq⟩:=hk s1 hj
 refine⟨s2,max n1 n2,fun n hn=>?_,hq⟩
 rw[← hZ m l,hY,h1 n (by omega)]
 exact h2 n (by omega)
end Go.Proofs.YtjcbhbncncbdjaaGreatDoorAi
namespace Go.Proofs.YtjcbhbncncbdjaaGreatDoorAi
open Go Go.RowKit
set_option linter.unusedVariables false
set_option linter.unusedSimpArgs false
set_option linter.unusedSectionVars false
def cP {α:Type} (l:List α) (j:Int) (x:α):List α:=l.set j.toNat x
theorem bw {α:Type} (l:List α) (j:Int) (x:α):(cP l j x).length=l.length:=List.length_set
theorem fd: ∀(vs cs ex:List Value) (o:Nat),o+vs.length≤cs.length→setCells (cs++ex) o vs=setCells cs o vs++ex
 | [],cs,ex,o,h=>rfl
 | v::vs,cs,ex,o,h=>by
  rw[List.length_cons] at h
  show setCells ((cs++ex).set o v) (o+1) vs=setCells (cs.set o v) (o+1) vs++ex
  rw[List.set_append_left _ _ (by omega),fd vs _ ex (o+1) (by rw[List.length_set]; omega)]
theorem dz: ∀(vs c r:List Value) (o:Nat),setCells (c++r) (c.length+o) vs=c++setCells r o vs
 | [],c,r,o=>rfl
 | v::vs,c,r,o=>by
  show setCells ((c++r).set (c.length+o) v) (c.length+o+1) vs=c++setCells (r.set o v) (o+1) vs
  rw[List.set_append_right _ _ (by omega),show c.length+o-c.length=o by omega,Nat.add_assoc,dz vs]
theorem fe: ∀(vs c r:List Value),vs.length=c.length→setCells (c++r) 0 vs=vs++r
 | [],[],r,h=>rfl
 | v::vs,x::c,r,h=>by
  show setCells ((x::(c++r)).set 0 v) 1 vs=v::(vs++r)
  rw[List.set_cons_zero]
  have h1:=dz vs [v] (c++r) 0
  rw[show [v]++(c++r)=v::(c++r) from rfl] at h1
  rw[show([v]:List Value).length+0=1 from rfl] at h1
  rw[h1,fe vs c r (by simpa using h)]; rfl
 | [],_::_,_,h=>by simp at h
 | _::_,[],_,h=>by simp at h
section
variable {α:Type} {d:El α} {F:FZ} {l:List α} {cs:List Value}
theorem af.setN: ∀{l:List α} {cs:List Value} {j:Nat} {x:α} {vs:List Value},af d F l cs→j<l.length→d.R F x vs→af d F (l.set j x) (setCells cs (j*d.sz) vs)
 | [],cs,j,x,vs,h,hj,hv=>by simp at hj
 | y::l,cs,0,x,vs,⟨c,r,e,h1,h2⟩,hj,hv=>by
  rw[e,Nat.zero_mul,fe vs c r (by rw[d.len hv,d.len h1])]
  exact⟨vs,r,rfl,hv,h2⟩
 | y::l,cs,j+1,x,vs,⟨c,r,e,h1,h2⟩,hj,hv=>by
  rw[e,show(j+1)*d.sz=c.length+j*d.sz by rw[d.len h1,Nat.succ_mul,Nat.add_comm],dz]
  exact⟨c,_,rfl,h1,h2.setN (by simpa using hj) hv⟩
theorem af.set (h:af d F l cs) {j:Int} (hj:0≤j∧j<(l.length:Int)) {x:α} {vs:List Value} (hv:d.R F x vs) {z:Nat} (hz:d.sz=z):af d F (cP l j x) (setCells cs (0+j.toNat*z) vs):=by
 subst hz
 rw[Nat.zero_add]
 exact h.setN (by omega) hv
theorem oM {j n z:Nat} (h:j<n):j*z+z≤n*z:=by
 rw[← Nat.succ_mul]
 exact Nat.mul_le_mul_right z h
theorem jI (h:af d F l cs) (ex:List Value) {j:Int} (hj:0≤j∧j<(l.length:Int)) {z:Nat} (hz:d.sz=z) {u:Value} {vs:List Value} (hu:u.cells.toList=vs) (hv:vs.length=z) (ha:vs.all one=true):(Nat.beq u.cells.size z&&Nat.ble (0+j.toNat*z+z) (cs++ex).length&&u.cells.toList.all one)=true:=by
 subst hz
 have hl:=h.len
 have hm:=oM (z:=d.sz) (show j.toNat<l.length by omega)
 have h1:u.cells.size=d.sz:=by rw[← hv,← hu,Array.length_toList]
 rw[hu,ha,h1,Nat.beq_refl,Nat.ble_eq_true_of_le (by rw[List.length_append,hl]; omega)]; rfl
theorem jJ (h:af d F l cs) (ex:List Value) {j:Int} (hj:0≤j∧j<(l.length:Int)) {z:Nat} (hz:d.sz=z) {u:Value} {vs:List Value} (hu:u.cells.toList=vs) (hv:vs.length=z):setCells (cs++ex) (0+j.toNat*z) u.cells.toList=setCells cs (0+j.toNat*z) vs++ex:=by
 subst hz
 have hl:=h.len
 have hm:=oM (z:=d.sz) (show j.toNat<l.length by omega)
 rw[hu,fd _ _ _ _ (by rw[hv,hl]; omega)]
end
theorem mv {P:Program} {nx:Nat} {ty:TypeId} {ρ:Operand→Value} {b:Option Blk} {x:Operand} {k:IntKind} {n:Int} {u:TypeId} (h:ρ x= .int k n):ai (.unOp .neg u x) P nx ty ρ b=some (.int k (k.wrap (-n)),.none):=by
 show ar (unV P .neg (ρ x))=_
 rw[h]
 show ar (aK (aF P (Op.unary .neg (.int k n))))=_
 first
  | rfl
  | (unfold Op.unary; rfl)
  | (have e:Op.intArith .sub k 0 n=pure (.int k (k.wrap (0-n))):=rfl; show ar (aK (aF P (Op.intArith .sub k 0 n)))=_; rw[e,Int.zero_sub]; rfl)
theorem af.bytes {F:FZ} {e:TypeId}: ∀l:List UInt8,af (elB e) F l (l.map vB)
 | []=>rfl
 | x::l=>⟨[vB x],l.map vB,rfl,rfl,af.bytes l⟩
theorem oN {P:Program} {nx:Nat} {ty:TypeId} {ρ:Operand→Value} {b:Option Blk} {x:Operand} {s t e:TypeId} {l:List UInt8} (hx:ρ x=aa l) (hs:P.underlying s=some .string) (ht:P.underlying t=some (.slice e)) (hb:cV P e=true):ai (.convert s t x) P nx ty ρ b=some (.slice (some ⟨nx,0,none⟩) l.length 1,.new (.row (l.map vB) e 1 true)):=by
 show aZ P nx s t (ρ x) b=_
 rw[hx]
 unfold aZ
 show(match cvS P nx s t ⟨l.toArray⟩ with | some r=>some r | none=>cvG P s t _)=_
 unfold cvS
 rw[hs,ht]
 simp only[hb,cond_true]
 rfl
def LdA (rs:List Rec) (k0 i:Nat) (t:TypeId) (ad:Nat) (v0:Value):Prop:= ∃lo,nth rs k0=some ⟨some i,[],lo,lo,false,some (t,⟨i,ad,none⟩,v0)⟩
theorem LdA.old {rs:List Rec} {k0 i:Nat} {t:TypeId} {ad:Nat} {v0:Value} (h:LdA rs k0 i t ad v0) (r:Rec):LdA (rs++ [r]) k0 i t ad v0:=by
 obtain⟨lo,e⟩:=h
 refine⟨lo,?_⟩
 rw[d4 r (by rw[aO] at e; exact(List.getElem?_eq_some_iff.1 e).1)]; exact e
section
variable {E:Env} {s:St} {kn:Kn} {S L:List Seg} {F F0:FZ} {nx0:Nat} {l:List Oper} {ops:Array Oper} {o:Oper} {inf:Option (List (List Nat))} {zs:List Nat} {rs:List Rec} {n d:Nat} {qs ls:List Nat} {as ns ds:List (Nat×Nat)} {Q:St→Prop} {v:Value}
end
end Go.Proofs.YtjcbhbncncbdjaaGreatDoorAi
namespace Go.Proofs.YtjcbhbncncbdjaaGreatDoorAi
open Go Go.RowKit
set_option linter.unusedVariables false
section
variable {E:Env} {s:St} {kn:Kn} {S L:List Seg} {F F0:FZ} {nx0:Nat} {l:List Oper} {ops:Array Oper} {o:Oper} {inf:Option (List (List Nat))} {zs:List Nat} {rs:List Rec} {n d:Nat} {qs ls:List Nat} {as ns ds:List (Nat×Nat)} {Q:St→Prop}
end
section
variable {E:Env} {s:St} {kn:Kn} {S L:List Seg} {F F0:FZ} {nx0:Nat} {l:List Oper} {ops:Array Oper} {o:Oper} {inf:Option (List (List Nat))} {zs:List Nat} {rs:List Rec} {n d:Nat} {qs ls:List Nat} {as ns ds:List (Nat×Nat)} {Q:St→Prop} {v:Value}
theorem K.stD {i p:Nat} {b b':Blk} (hS:Stt E s kn S F L F0 nx0) (hq:RS zs rs n qs ls as ns ds) (hi:okI inf=true) (hw:ae ops s.fr o=some true) (hc:aw o.op=false) (hd:o.dst=some d) (ht:aq o.op (opv E.NG s.fr)=some i) (hp:ce S p= [(i,b)]) (hv:ai o.op E.P s.nx o.type (opv E.NG s.fr) (some b)=some (v,.upd b')) (js:List Nat) (hu:okU zs qs ls ds ns js (cb inf)=true) (hj:Aw F (cZ S p) zs js)
  (k: ∀s' rs',Stt E s' ((d,v)::kn) (fD S p [(i,b')]) F L F0 nx0→RS zs rs' (n+1) qs ls (js.map (fun j=>(n,j))++as) ns ds→KW E l ops (bK inf) rs' s' Q):KW E (o::l) ops inf rs s Q:=by
 have hpl:p<S.length:=jG (by rw[hp]; simp)
 have hpA:ce (S++L) p= [(i,b)]:=by rw[e8 S L p hpl,hp]
 have hb:=hS.mem.at hpA
 have hfr:=hS.mem.front hpA
 rw[cf S L p hpl] at hfr
 have hno:=oI hfr hS.le
 refine KW.upd hi hw hc hq ht (by rw[hb]; exact hv) js hu (fun j hjj i' e=>⟨hfr.drop1.alt (hj j hjj i' e),hfr.alt2 (hj j hjj i' e)⟩) fun rs' hr=>k _ rs' ⟨by rw[hd]; exact hS.fx.put d _,?_,hS.le,hS.nx,fun j hj=>?_⟩ hr
 ·refine(hfr.setH (b':=b')).perm ?_
  have:=d3 (S++L) p [(i,b')] (by rw[hpA]; simp)
  rw[cf S L p hpl,eZ S L p _ hpl] at this
  simpa using this
 ·rcases cq hj with hj | hj
  ·rw[List.mem_singleton] at hj; subst hj; exact hno
  ·exact hS.ms j hj
end
theorem Cl.same {E:Env} {F:FZ} {g:FuncId} {fn:Func} {v:Value} (hf:E.P.funcs[g]? = some fn) (hb:fn.body=none) (hs:E.same g=true):Cl E g [v] [] F (fun v' S' F'=>F'=F∧v'=v∧S'= []):=by
 intro H nx L hM
 refine⟨v,[],F,H,nx,[],⟨0,fun n _=>?_⟩,hM,FLe.refl F,Nat.le_refl _,fun i hi=>(by cases hi),rfl,rfl,rfl⟩
 rw[hf]
 show bR E (run E n) g [v] H nx fn=_
 unfold bR
 rw[hb]
 show j9 E g [v] H nx=_
 simp[j9,hs]
def oO (i:Nat) (b:Bool):Value:= .pointer (bif b then some ⟨i,0,none⟩ else none)
end Go.Proofs.YtjcbhbncncbdjaaGreatDoorAi
namespace Go.Proofs.YtjcbhbncncbdjaaGreatDoorAi
open Go Go.RowKit
set_option linter.unusedVariables false
structure Tab where
 fa:List ((Nat×Nat)×(Nat×Nat×Nat))
 ag:List (Nat×Bool)
 sz:List (Nat×Nat)
 sl:List Nat
 st:List Nat
def Tab.ok (P:Program) (t:Tab):Prop:=(∀x∈t.fa,fieldAt P x.1.1 x.1.2=some x.2)∧(∀x∈t.ag,(P.underlying x.1).map df=some x.2)∧(∀x∈t.sz,aU P x.1=some x.2)∧(∀x∈t.sl,∃e,P.underlying x=some (.slice e))∧(∀x∈t.st,P.underlying x=some .string)
def isSl:Option TypeDesc→Bool
 | some (.slice _)=>true
 | _=>false
def isSt:Option TypeDesc→Bool
 | some .string=>true
 | _=>false
theorem Tab.ok_of {P:Program} {t:Tab} (h1:t.fa.all (fun x=>decide (fieldAt P x.1.1 x.1.2=some x.2))=true) (h2:t.ag.all (fun x=>decide ((P.underlying x.1).map df=some x.2))=true) (h3:t.sz.all (fun x=>decide (aU P x.1=some x.2))=true) (h4:t.sl.all (fun x=>isSl (P.underlying x))=true) (h5:t.st.all (fun x=>isSt (P.underlying x))=true):t.ok P:=by
 rw[List.all_eq_true] at h1 h2 h3 h4 h5
 refine⟨fun x hx=>of_decide_eq_true (h1 x hx),fun x hx=>of_decide_eq_true (h2 x hx),fun x hx=>of_decide_eq_true (h3 x hx),fun x hx=>?_,fun x hx=>?_⟩
 ·have:=h4 x hx
  unfold isSl at this
  split at this
  ·next e h=>exact⟨e,h⟩
  ·cases this
 ·have:=h5 x hx
  unfold isSt at this
  split at this
  ·next h=>exact h
  ·cases this
def lG {β:Type}:List (Nat×β)→Nat→Option β
 | [],_=>none
 | (k,v)::l,t=>bif Nat.beq k t then some v else lG l t
theorem dq {β:Type}: ∀{l:List (Nat×β)} {t:Nat} {v:β},lG l t=some v→(t,v)∈l
 | (k,w)::l,t,v,h=>by
  unfold lG at h
  cases hk:Nat.beq k t
  ·rw[hk] at h; exact List.mem_cons_of_mem _ (dq h)
  ·rw[hk] at h
   obtain rfl:=nbT hk
   obtain rfl:=Option.some.inj h
   exact List.mem_cons_self
def oP:List ((Nat×Nat)×(Nat×Nat×Nat))→Nat→Nat→Option (Nat×Nat×Nat)
 | [],_,_=>none
 | ((k,f),v)::l,t,g=>bif Nat.beq k t&&Nat.beq f g then some v else oP l t g
theorem ff: ∀{l:List ((Nat×Nat)×(Nat×Nat×Nat))} {t g:Nat} {v:Nat×Nat×Nat},oP l t g=some v→((t,g),v)∈l
 | ((k,f),w)::l,t,g,v,h=>by
  unfold oP at h
  cases hk:Nat.beq k t
  ·rw[hk] at h; exact List.mem_cons_of_mem _ (ff h)
  ·cases hf:Nat.beq f g
   ·rw[hk,hf] at h; exact List.mem_cons_of_mem _ (ff h)
   ·rw[hk,hf] at h
    obtain rfl:=nbT hk
    obtain rfl:=nbT hf
    obtain rfl:=Option.some.inj h
    exact List.mem_cons_self
def jK:List Nat→Nat→Bool
 | [],_=>false
 | k::l,t=>bif Nat.beq k t then true else jK l t
theorem fg: ∀{l:List Nat} {t:Nat},jK l t=true→t∈l
 | k::l,t,h=>by
  unfold jK at h
  cases hk:Nat.beq k t
  ·rw[hk] at h; exact List.mem_cons_of_mem _ (fg h)
  ·obtain rfl:=nbT hk; exact List.mem_cons_self
noncomputable def syLen (tb:Tab) (ats:Array TypeId):Option Value→Option Value
 | some (.slice a j z)=>(match ats[0]? with | some t=>bif jK tb.sl t then some (.int .i64 (j:Nat)) else none | none=>none)
 | some (.string s)=>(match ats[0]? with | some t=>bif jK tb.st t then some (.int .i64 (s.data.toList.length:Nat)) else none | none=>none)
 | _=>none
noncomputable def syV (tb:Tab) (NG:Nat) (kn:Kn):Op→Option Value
 | .move x=>lkO NG kn x
 | .assign x=>lkO NG kn x
 | .nilCheck x=>(match lkO NG kn x with | some (.pointer (some ⟨i,ad,none⟩))=>some (.pointer (some ⟨i,ad,none⟩)) | _=>none)
 | .fieldAddr t x f=>(match lkO NG kn x,oP tb.fa t f with
  | some (.pointer (some ⟨i,ad,none⟩)),some (off,sz,_)=>bif Nat.beq sz 0 then none else some (.pointer (some ⟨i,ad+off,none⟩))
  | _,_=>none)
 | .field t x f=>(match lkO NG kn x,oP tb.fa t f with
  | some (.agg cs),some (off,_,ft)=>(match lG tb.ag ft with | some false=>nth cs.toList off | _=>none)
  | _,_=>none)
 | .extract x i=>(match lkO NG kn x with | some (.tuple vs)=>nth vs.toList i | _=>none)
 | .binOp op t x y u=>(match lkO NG kn x,lkO NG kn y with | some (.int k m),some (.int j n)=>jZ op k m j n | _,_=>none)
 | .unOp .not t x=>(match lkO NG kn x with | some (.bool c)=>some (.bool (!c)) | _=>none)
 | .pick c x y=>(match lkO NG kn c with | some (.bool b)=>(bif b then lkO NG kn x else lkO NG kn y) | _=>none)
 | .call ⟨.builtin .len,args,ats⟩=>(match args.toList with | [x]=>syLen tb ats (lkO NG kn x) | _=>none)
 | _=>none
theorem oQ {P:Program} {tb:Tab} (ht:tb.ok P) {NG:Nat} {kn:Kn} {op:Op} {v:Value} (h:syV tb NG kn op=some v) {ρ:Operand→Value} (hρ: ∀x v,lkO NG kn x=some v→ρ x=v) (nx:Nat) (ty:TypeId) (b:Option Blk) :
  aw op=false∧aq op ρ=none∧ai op P nx ty ρ b=some (v,.none):=by
 obtain⟨h1,h2,h3,h4,h5⟩:=ht
 unfold syV at h
 split at h
 ·exact⟨rfl,rfl,eY (hρ _ _ h)⟩
 ·exact⟨rfl,rfl,eG (hρ _ _ h)⟩
 ·split at h
  ·next e=>obtain rfl:=Option.some.inj h; exact⟨rfl,rfl,fb (hρ _ _ e)⟩
  ·cases h
 ·split at h
  ·next i ad off sz ft e1 e2 =>
   cases hz:Nat.beq sz 0
   ·rw[hz] at h
    obtain rfl:=Option.some.inj h
    exact⟨rfl,rfl,dy (hρ _ _ e1) (h1 _ (ff e2)) hz rfl⟩
   ·rw[hz] at h; cases h
  ·cases h
 ·split at h
  ·next cs off sz ft e1 e2 =>
   split at h
   ·next e3=>exact⟨rfl,rfl,aop_fd (hρ _ _ e1) (h1 _ (ff e2)) (h2 _ (dq e3)) h⟩
   ·cases h
  ·cases h
 ·split at h
  ·next e1=>exact⟨rfl,rfl,aop_ext (hρ _ _ e1) h⟩
  ·cases h
 ·split at h
  ·next e1 e2=>exact⟨rfl,rfl,aop_int (hρ _ _ e1) (hρ _ _ e2) h⟩
  ·cases h
 ·split at h
  ·next e1=>obtain rfl:=Option.some.inj h; exact⟨rfl,rfl,aop_not (hρ _ _ e1)⟩
  ·cases h
 ·split at h
  ·next b e1 =>
   cases b
   ·exact⟨rfl,rfl,nb (hρ _ _ e1) (hρ _ _ h)⟩
   ·exact⟨rfl,rfl,na (hρ _ _ e1) (hρ _ _ h)⟩
  ·cases h
 ·next args ats =>
  split at h
  ·next x ha =>
   unfold syLen at h
   split at h
   ·next a j z e =>
    split at h
    ·next t e2 =>
     cases hs:jK tb.sl t
     ·rw[hs] at h; cases h
     ·rw[hs] at h
      obtain rfl:=Option.some.inj h
      obtain⟨e',he⟩:=h4 t (fg hs)
      exact⟨rfl,rfl,fE ha e2 he (hρ _ _ e)⟩
    ·cases h
   ·next s' e =>
    split at h
    ·next t e2 =>
     cases hs:jK tb.st t
     ·rw[hs] at h; cases h
     ·rw[hs] at h
      obtain rfl:=Option.some.inj h
      exact⟨rfl,rfl,oJ (l:=s'.data.toList) ha e2 (h5 t (fg hs)) (hρ _ _ e)⟩
    ·cases h
   ·cases h
  ·cases h
 ·cases h
def syG (ops:Array Oper) (kn:Kn) (o:Oper):Option Bool :=
 match o.guard with
 | none=>some true
 | some (j,w)=>(match (ops[j]?).bind (·.dst) with
  | some t=>(match lkT kn t with | some (.bool c)=>some (bif c then w else !w) | _=>none)
  | none=>none)
theorem eI {E:Env} {ops:Array Oper} {s:St} {kn:Kn} {S L:List Seg} {F F0:FZ} {nx0:Nat} (hS:Stt E s kn S F L F0 nx0) {o:Oper} {b:Bool} (h:syG ops kn o=some b):ae ops s.fr o=some b:=by
 unfold syG at h
 split at h
 ·next hg=>obtain rfl:=Option.some.inj h; exact wn hg
 ·next j w hg =>
  split at h
  ·next t hj =>
   split at h
   ·next c hk =>
    obtain rfl:=Option.some.inj h
    cases c<;>cases w
    ·exact wt hS hg hj hk rfl
    ·exact wf hS hg hj hk rfl
    ·exact wf hS hg hj hk rfl
    ·exact wt hS hg hj hk rfl
   ·cases h
  ·cases h
noncomputable def syS (tb:Tab) (NG:Nat) (ops:Array Oper):List Oper→List Nat→Kn→List Seg→Option (Kn×List Seg×List Nat×List Nat)
 | [],_,kn,S=>some (kn,S,[],[])
 | o::l,hs,kn,S =>
  match syG ops kn o with
  | none=>none
  | some false=>(match o.dst with | some d=>syS tb NG ops l hs ((d,undef)::kn) S | none=>none)
  | some true =>
   match o.op with
   | .load t x =>
    (match hs,o.dst with
    | k::hs,some d =>
     (match lkO NG kn x,ce S k,lG tb.ag t with
     | some (.pointer (some ⟨i,ad,none⟩)),[(j,.row cs e z own)],some false =>
      (match nth cs ad with
      | some v=>(syS tb NG ops l hs ((d,v)::kn) S).map fun r=>(r.1,r.2.1,j::r.2.2.1,i::r.2.2.2)
      | none=>none)
     | some (.pointer (some ⟨i,ad,none⟩)),[(j,.row cs e z own)],some true =>
      (match lG tb.sz t with
      | some m=>(match aR cs ad m with
       | some vs=>(syS tb NG ops l hs ((d,.agg vs.toArray)::kn) S).map fun r=>(r.1,r.2.1,j::r.2.2.1,i::r.2.2.2)
       | none=>none)
      | none=>none)
     | _,_,_=>none)
    | _,_=>none)
   | .store t x y =>
    (match hs,o.dst with
    | k::hs,none =>
     (match lkO NG kn x,lkO NG kn y,ce S k,lG tb.sz t with
     | some (.pointer (some ⟨i,ad,none⟩)),some u,[(j,.row cs e z true)],some m =>
      bif (Nat.beq u.cells.size m&&Nat.ble (ad+m) cs.length&&u.cells.toList.all one)&&Nat.blt k S.length then
       (syS tb NG ops l hs kn (fD S k [(j,.row (setCells cs ad u.cells.toList) e z true)])).map fun r=>(r.1,r.2.1,j::r.2.2.1,i::r.2.2.2)
      else none
     | _,_,_,_=>none)
    | _,_=>none)
   | op =>
    (match syV tb NG kn op,o.dst with
    | some v,some d=>syS tb NG ops l hs ((d,v)::kn) S
    | _,_=>none)
theorem ia: ∀{S L:List Seg} {k:Nat} {a:Nat×Blk},ce S k= [a]→ce (S++L) k= [a]
 | b::S,L,0,a,h=>h
 | b::S,L,k+1,a,h=>ia (S:=S) (L:=L) (k:=k) h
theorem syS_ok {E:Env} {tb:Tab} (ht:tb.ok E.P) {ops:Array Oper} {Q:St→Prop} {L:List Seg} {F F0:FZ} {nx0:Nat}: ∀(l:List Oper) (hs:List Nat) (kn:Kn) (S:List Seg) (r:Kn×List Seg×List Nat×List Nat) (s:St),
  syS tb E.NG ops l hs kn S=some r→r.2.2.1=r.2.2.2→Stt E s kn S F L F0 nx0→ ∀l2,(∀s',Stt E s' r.1 r.2.1 F L F0 nx0→QW E l2 ops s' Q)→QW E (l++l2) ops s Q
 | [],hs,kn,S,r,s,h,hq,hS,l2,k=>by
  unfold syS at h
  obtain rfl:=Option.some.inj h
  exact k s hS
 | o::l,hs,kn,S,r,s,h,hq,hS,l2,k=>by
  have ih:=syS_ok ht (ops:=ops) (Q:=Q) (L:=L) (F:=F) (F0:=F0) (nx0:=nx0) l
  unfold syS at h
  split at h
  ·cases h
  ·next hg =>
   split at h
   ·next d hd=>exact g7 hS (eI hS hg) hd fun s' hS'=>ih _ _ _ r s' h hq hS' l2 k
   ·cases h
  ·next hg =>
   split at h
   ·next t x ho =>
    split at h
    ·next k0 hs' d hd =>
     split at h
     ·next i ad j cs e z own e1 e2 e3 =>
      split at h
      ·next v e4 =>
       obtain⟨r',h',rfl⟩:=Option.map_eq_some_iff.1 h
       obtain⟨rfl,hq'⟩:=List.cons.inj hq
       exact g8 hS (eI hS hg) ho hd e1 (hS.at (ia e2)) (ht.2.1 _ (dq e3)) e4 fun s' hS'=>ih _ _ _ r' s' h' hq' hS' l2 k
      ·cases h
     ·next i ad j cs e z own e1 e2 e3 =>
      split at h
      ·next m e5 =>
       split at h
       ·next vs e4 =>
        obtain⟨r',h',rfl⟩:=Option.map_eq_some_iff.1 h
        obtain⟨rfl,hq'⟩:=List.cons.inj hq
        exact kE hS (eI hS hg) ho hd e1 (hS.at (ia e2)) (ht.2.1 _ (dq e3)) (ht.2.2.1 _ (dq e5)) e4 fun s' hS'=>ih _ _ _ r' s' h' hq' hS' l2 k
       ·cases h
      ·cases h
     ·cases h
    ·cases h
   ·next t x y ho =>
    split at h
    ·next k0 hs' hd =>
     split at h
     ·next i ad u j cs e z m e1 e2 e3 e4 =>
      cases hc:(Nat.beq u.cells.size m&&Nat.ble (ad+m) cs.length&&u.cells.toList.all one)&&Nat.blt k0 S.length
      ·rw[hc] at h; cases h
      ·rw[hc] at h
       obtain⟨r',h',rfl⟩:=Option.map_eq_some_iff.1 h
       obtain⟨rfl,hq'⟩:=List.cons.inj hq
       rw[Bool.and_eq_true] at hc
       exact mn hS (eI hS hg) ho hd e1 e2 e3 (ht.2.2.1 _ (dq e4)) hc.1 _ rfl fun s' hS'=>ih _ _ _ r' s' h' hq' hS' l2 k
     ·cases h
    ·cases h
   ·split at h
    ·next v d e1 hd =>
     have hp:=fun nx ty b=>oQ ht e1 (ρ:=opv E.NG s.fr) (fun x v hx=>hS.lk hx) nx ty b
     exact aD hS (eI hS hg) (hp 0 0 none).1 hd (hp 0 0 none).2.1 (hp _ _ _).2.2 fun s' hS'=>ih _ _ _ r s' h hq hS' l2 k
    ·cases h
def jL:List Nat→List Value→Kn→Kn
 | t::ts,v::vs,kn=>(t,v)::jL ts vs kn
 | _,_,kn=>kn
def ne (kn:Kn):List Nat→List (Option Value)
 | []=>[]
 | t::ts=>lkT kn t::ne kn ts
def dS (ts:List Nat) (kn:Kn):List Oper→Bool
 | []=>true
 | o::l=>(match o.dst with | some d=>bif jK ts d then dS ts kn l else(match lkT kn d with | none=>dS ts kn l | some _=>false) | none=>dS ts kn l)
noncomputable def mw (tb:Tab) (NG:Nat) (ops:Array Oper) (kn:Kn) (S:List Seg) (l:List Oper) (hs ts:List Nat):Option (List (Option Value)×List Seg×List Nat×List Nat×Bool) :=
 (syS tb NG ops l hs kn S).map fun r=>(ne r.1 ts,r.2.1,r.2.2.1,r.2.2.2,dS ts kn l)
theorem f3 {tb:Tab} {NG:Nat} {ops:Array Oper}: ∀(l:List Oper) (hs:List Nat) (kn:Kn) (S:List Seg) (r:Kn×List Seg×List Nat×List Nat),syS tb NG ops l hs kn S=some r→ ∀t,(∀o∈l,o.dst≠some t)→lkT r.1 t=lkT kn t
 | [],hs,kn,S,r,h,t,hn=>by
  unfold syS at h
  obtain rfl:=Option.some.inj h
  rfl
 | o::l,hs,kn,S,r,h,t,hn=>by
  have ih:=f3 (tb:=tb) (NG:=NG) (ops:=ops) l
  have hn': ∀o∈l,o.dst≠some t:=fun o ho=>hn o (List.mem_cons_of_mem _ ho)
  have ho:=hn o List.mem_cons_self
  have put: ∀d v (kn:Kn),o.dst=some d→lkT ((d,v)::kn) t=lkT kn t:=fun d v kn hd=>by
   have:d≠t:=fun e=>ho (by rw[hd,e])
   show(bif Nat.beq d t then some v else lkT kn t)=_
   rw[nbF this]; rfl
  unfold syS at h
  split at h
  ·cases h
  ·split at h
   ·next hd=>exact(ih _ _ _ r h t hn').trans (put _ _ _ hd)
   ·cases h
  ·split at h
   ·split at h
    ·next hd =>
     split at h
     ·split at h
      ·obtain⟨r',h',rfl⟩:=Option.map_eq_some_iff.1 h
       exact(ih _ _ _ r' h' t hn').trans (put _ _ _ hd)
      ·cases h
     ·split at h
      ·split at h
       ·obtain⟨r',h',rfl⟩:=Option.map_eq_some_iff.1 h
        exact(ih _ _ _ r' h' t hn').trans (put _ _ _ hd)
       ·cases h
      ·cases h
     ·cases h
    ·cases h
   ·split at h
    ·next k0 hs' hd =>
     split at h
     ·next i ad u j cs e z m e1 e2 e3 e4 =>
      cases hc:(Nat.beq u.cells.size m&&Nat.ble (ad+m) cs.length&&u.cells.toList.all one)&&Nat.blt k0 S.length
      ·rw[hc] at h; cases h
      ·rw[hc] at h
       obtain⟨r',h',rfl⟩:=Option.map_eq_some_iff.1 h
       exact ih _ _ _ r' h' t hn'
     ·cases h
    ·cases h
   ·split at h
    ·next hd=>exact(ih _ _ _ r h t hn').trans (put _ _ _ hd)
    ·cases h
theorem cz {ts:List Nat} {kn:Kn}: ∀(l:List Oper),dS ts kn l=true→ ∀t v,t∉ts→lkT kn t=some v→ ∀o∈l,o.dst≠some t
 | [],_,t,v,h1,h2,o,ho=>by cases ho
 | o::l,h,t,v,h1,h2,o',ho'=>by
  unfold dS at h
  split at h
  ·next d hd =>
   cases hh:jK ts d
   ·rw[hh] at h
    simp only[cond_false] at h
    split at h
    ·next hl =>
     rcases List.mem_cons.1 ho' with rfl | ho'
     ·intro e
      rw[hd] at e
      obtain rfl:=Option.some.inj e
      rw[hl] at h2; cases h2
     ·exact cz l h t v h1 h2 o' ho'
    ·cases h
   ·rw[hh] at h
    simp only[cond_true] at h
    rcases List.mem_cons.1 ho' with rfl | ho'
    ·intro e
     rw[hd] at e
     obtain rfl:=Option.some.inj e
     exact h1 (fg hh)
    ·exact cz l h t v h1 h2 o' ho'
  ·next hd =>
   rcases List.mem_cons.1 ho' with rfl | ho'
   ·rw[hd]; simp
   ·exact cz l h t v h1 h2 o' ho'
theorem jM: ∀{ts:List Nat} {vs:List Value} {kn kn':Kn} {t:Nat} {v:Value},ne kn' ts=vs.map some→lkT (jL ts vs kn) t=some v→lkT kn' t=some v∨(t∉ts∧lkT kn t=some v)
 | [],vs,kn,kn',t,v,h,hl=>by
  cases vs<;>exact .inr ⟨by simp,hl⟩
 | s::ts,[],kn,kn',t,v,h,hl=>by cases h
 | s::ts,u::vs,kn,kn',t,v,h,hl=>by
  obtain⟨h1,h2⟩:=List.cons.inj h
  replace hl:(bif Nat.beq s t then some u else lkT (jL ts vs kn) t)=some v:=hl
  cases hb:Nat.beq s t
  ·rw[hb] at hl
   rcases jM h2 hl with q | ⟨q1,q2⟩
   ·exact .inl q
   ·refine .inr ⟨fun hm=>?_,q2⟩
    rcases List.mem_cons.1 hm with rfl | hm
    ·rw[Nat.beq_refl] at hb; cases hb
    ·exact q1 hm
  ·rw[hb] at hl
   obtain rfl:=nbT hb
   obtain rfl:=Option.some.inj hl
   exact .inl h1
section
variable {E:Env} {tb:Tab} {ops:Array Oper} {Q:St→Prop} {kn:Kn} {S L:List Seg} {F F0:FZ} {nx0:Nat} {l:List Oper} {s:St}
theorem my (ht:tb.ok E.P) (hS:Stt E s kn S F L F0 nx0) (n:Nat) (hs ts:List Nat) (vs:List Value) (is:List Nat) (S':List Seg) (h:mw tb E.NG ops kn S (l.take n) hs ts=some (vs.map some,S',is,is,true))
  (k: ∀s',Stt E s' (jL ts vs kn) S' F L F0 nx0→QW E (l.drop n) ops s' Q):QW E l ops s Q:=by
 obtain⟨r,hr,he⟩:=Option.map_eq_some_iff.1 h
 simp only[Prod.mk.injEq] at he
 obtain⟨e1,rfl,e3,e4,e5⟩:=he
 rw[← List.take_append_drop n l]
 refine syS_ok ht _ _ _ _ r s hr (e3.trans e4.symm) hS _ fun s' hS'=>k s' ⟨fun t v hl=>?_,hS'.mem,hS'.le,hS'.nx,hS'.ms⟩
 rcases jM e1 hl with q | ⟨q1,q2⟩
 ·exact hS'.fx t v q
 ·exact hS'.fx t v ((f3 _ _ _ _ r hr t (cz _ e5 t v q1 q2)).trans q2)
theorem ib (ht:tb.ok E.P) (hS:Stt E s kn S F L F0 nx0) (n:Nat) (hs ts:List Nat) (vs:List Value) (is:List Nat) (h:mw tb E.NG ops kn S (l.take n) hs ts=some (vs.map some,S,is,is,true))
  (k: ∀s',Stt E s' (jL ts vs kn) S F L F0 nx0→QW E (l.drop n) ops s' Q):QW E l ops s Q:=my ht hS n hs ts vs is S h k
end
noncomputable def syC (tb:Tab) (NG:Nat) (ops:Array Oper) (n:Nat) (l:List Oper) (kn:Kn) (S:List Seg):Option (Nat×List (Option Value)×Nat×Bool) :=
 match syS tb NG ops (l.take n) [] kn S with
 | some (kn',_,_,_) =>
  (match l.drop n with
  | o::_=>(match o.guard,o.op,o.dst with
   | none,.call ⟨.value x,args,_⟩,some d=>(match lkO NG kn' x with
    | some (.func (.func g) fs cs)=>some (g,fs.toList.map some++(args.toList.map (lkO NG kn')++cs.toList.map some),d,dS [] kn (l.take n))
    | _=>none)
   | _,_,_=>none)
  | []=>none)
 | none=>none
theorem ic {tb:Tab} {NG:Nat} {ops:Array Oper}: ∀(l:List Oper) (kn:Kn) (S:List Seg) (r:Kn×List Seg×List Nat×List Nat),syS tb NG ops l [] kn S=some r→r.2=(S,[],[])
 | [],kn,S,r,h=>by
  unfold syS at h
  obtain rfl:=Option.some.inj h
  rfl
 | o::l,kn,S,r,h=>by
  have ih:=ic (tb:=tb) (NG:=NG) (ops:=ops) l
  unfold syS at h
  split at h
  ·cases h
  ·split at h
   ·exact ih _ _ r h
   ·cases h
  ·split at h
   ·cases h
   ·cases h
   ·split at h
    ·exact ih _ _ r h
    ·cases h
theorem somes {a b:List Value} {c:List (Option Value)}: ∀{ws:List Value},a.map some++(c++b.map some)=ws.map some→ ∃vs:List Value,c=vs.map some∧a++(vs++b)=ws:=by
 intro ws h
 have hc: ∃vs:List Value,c=vs.map some:=by
  have: ∀x∈c,∃v,x=some v:=fun x hx=>by
   have hm:x∈ws.map some:=by rw[← h]; simp[hx]
   obtain⟨v,_,rfl⟩:=List.mem_map.1 hm
   exact⟨v,rfl⟩
  clear h
  induction c with
  | nil=>exact⟨[],rfl⟩
  | cons x c ih =>
   obtain⟨v,rfl⟩:=this x List.mem_cons_self
   obtain⟨vs,rfl⟩:=ih fun y hy=>this y (List.mem_cons_of_mem _ hy)
   exact⟨v::vs,rfl⟩
 obtain⟨vs,rfl⟩:=hc
 refine⟨vs,rfl,?_⟩
 rw[← List.map_append,← List.map_append] at h
 exact(List.map_inj_right fun _ _ e=>Option.some.inj e).1 h
section
variable {E:Env} {tb:Tab} {ops:Array Oper} {Q:St→Prop} {kn:Kn} {S L:List Seg} {F F0:FZ} {nx0:Nat} {l:List Oper} {s:St}
theorem q_cK {g:FuncId} {ws:List Value} {Sc:List Seg} {Φ:Value→List Seg→FZ→Prop} (hT:Cl E g ws Sc F Φ) (ht:tb.ok E.P) (hS:Stt E s kn S F L F0 nx0) (n d c:Nat) (hc:ec c S=Sc) (h:syC tb E.NG ops n l kn S=some (g,ws.map some,d,true))
  (k: ∀s' v S' F',Φ v S' F'→FLe F F'→Stt E s' ((d,v)::kn) (S'++dC c S) F' L F0 nx0→QW E (l.drop (n+1)) ops s' Q):QW E l ops s Q:=by
 unfold syC at h
 split at h
 ·next kn' S' is js hr =>
  have hk:=ic _ _ _ _ hr
  simp only[Prod.mk.injEq] at hk
  obtain⟨rfl,rfl,rfl⟩:=hk
  split at h
  ·next o l2 hl =>
   split at h
   ·next x args ats d' hg ho hd =>
    split at h
    ·next g' fs cs hx =>
     simp only[Option.some.injEq,Prod.mk.injEq] at h
     obtain⟨rfl,h2,rfl,h4⟩:=h
     obtain⟨vs,hv,hw⟩:=somes h2
     have hl2:l.drop (n+1)=l2:=by rw[← List.drop_drop,hl]; rfl
     rw[← List.take_append_drop n l]
     refine syS_ok ht _ _ _ _ _ s hr rfl hS _ fun s' hS'=>?_
     rw[hl]
     refine dQ hS' (wn hg) ho hd hx hv hw c hc hT fun s' v S' F' hp hf hS2=>?_
     rw[← hl2]
     refine k s' v S' F' hp hf ⟨fun t w hk=>?_,hS2.mem,hS2.le,hS2.nx,hS2.ms⟩
     refine hS2.fx t w ?_
     replace hk:(bif Nat.beq d' t then some v else lkT kn t)=some w:=hk
     show(bif Nat.beq d' t then some v else lkT kn' t)=some w
     cases hb:Nat.beq d' t
     ·rw[hb] at hk
      exact(f3 _ _ _ _ _ hr t (cz _ h4 t w (by simp) hk)).trans hk
     ·rw[hb] at hk; exact hk
    ·cases h
   ·cases h
  ·cases h
 ·cases h
theorem q_cR {g:FuncId} {ws:List Value} {Sc S0:List Seg} {v0:Value} (hT:Cl E g ws Sc F (fun v S' F'=>F=F'∧v=v0∧S'=S0)) (ht:tb.ok E.P) (hS:Stt E s kn S F L F0 nx0) (n d c:Nat) (hc:ec c S=Sc) (h:syC tb E.NG ops n l kn S=some (g,ws.map some,d,true))
  (k: ∀s',Stt E s' ((d,v0)::kn) (S0++dC c S) F L F0 nx0→QW E (l.drop (n+1)) ops s' Q):QW E l ops s Q:=q_cK hT ht hS n d c hc h fun s' v S' F' hp _ hS'=>by
 obtain⟨rfl,rfl,rfl⟩:=hp
 exact k s' hS'
theorem oR {l:Kn}: ∀{m:Kn},ne l (m.map Prod.fst)=m.map (fun p=>some p.2)→Sub l m
 | [],_=>trivial
 | (k,v)::m,h=>by
  obtain⟨h1,h2⟩:=List.cons.inj h
  exact⟨h1,oR h2⟩
theorem Stt.subR (hS:Stt E s kn S F L F0 nx0) {m:Kn} (h:ne kn (m.map Prod.fst)=m.map (fun p=>some p.2)):Stt E s m S F L F0 nx0:=hS.sub (oR h)
def kF:Nat→Option (List (List Nat))→Option (List (List Nat))
 | 0,i=>i
 | n+1,i=>kF n (bK i)
def allI:Nat→Option (List (List Nat))→Bool
 | 0,_=>true
 | n+1,i=>okI i&&allI n (bK i)
def upq:Nat→Nat→List Nat→List Nat
 | 0,_,qs=>qs
 | m+1,n,qs=>upq m (n+1) (n::qs)
theorem K.syS_ok (ht:tb.ok E.P): ∀(l:List Oper) (kn kn':Kn) (inf:Option (List (List Nat))) (rs:List Rec) (s:St) {zs:List Nat} {n:Nat} {qs ls:List Nat} {as ns ds:List (Nat×Nat)},
  syS tb E.NG ops l [] kn S=some (kn',S,[],[])→allI l.length inf=true→Stt E s kn S F L F0 nx0→RS zs rs n qs ls as ns ds→ ∀l2,(∀s' rs',Stt E s' kn' S F L F0 nx0→RS zs rs' (n+l.length) (upq l.length n qs) ls as ns ds→KW E l2 ops (kF l.length inf) rs' s' Q)→KW E (l++l2) ops inf rs s Q
 | [],kn,kn',inf,rs,s,zs,n,qs,ls,as,ns,ds,h,hi,hS,hq,l2,k=>by
  unfold syS at h
  simp only[Option.some.injEq,Prod.mk.injEq] at h
  obtain⟨rfl,_⟩:=h
  exact k s rs hS hq
 | o::l,kn,kn',inf,rs,s,zs,n,qs,ls,as,ns,ds,h,hi,hS,hq,l2,k=>by
  have ih:=K.syS_ok ht l
  simp only[List.length_cons,allI,Bool.and_eq_true] at hi
  have k': ∀s' rs',Stt E s' kn' S F L F0 nx0→RS zs rs' (n+1+l.length) (upq l.length (n+1) (n::qs)) ls as ns ds→KW E l2 ops (kF l.length (bK inf)) rs' s' Q:=fun s' rs' a b=>k s' rs' a (by
   rw[List.length_cons,show n+(l.length+1)=n+1+l.length by omega]; exact b)
  unfold syS at h
  split at h
  ·cases h
  ·next hg =>
   split at h
   ·next d hd=>exact K.no hS hq hi.1 (eI hS hg) hd fun s' rs' hS' hq'=>ih _ _ _ rs' s' h hi.2 hS' hq' l2 k'
   ·cases h
  ·next hg =>
   split at h
   ·cases h
   ·cases h
   ·split at h
    ·next v d e1 hd =>
     have hp:=fun nx ty b=>oQ ht e1 (ρ:=opv E.NG s.fr) (fun x v hx=>hS.lk hx) nx ty b
     exact K.pu hS hq hi.1 (eI hS hg) (hp 0 0 none).1 hd (hp 0 0 none).2.1 (hp _ _ _).2.2 fun s' rs' hS' hq'=>ih _ _ _ rs' s' h hi.2 hS' hq' l2 k'
    ·cases h
noncomputable def syD (tb:Tab) (NG:Nat) (ops:Array Oper) (kn:Kn) (S:List Seg) (l:List Oper) (inf:Option (List (List Nat))) (m:Nat) (ts:List Nat):Option (List (Option Value)×Bool×Bool×Bool) :=
 (syS tb NG ops (l.take m) [] kn S).map fun r=>(ne r.1 ts,dS ts kn (l.take m),allI m inf,Nat.beq (l.take m).length m)
theorem K.seg {inf:Option (List (List Nat))} {rs:List Rec} {zs:List Nat} {n:Nat} {qs ls:List Nat} {as ns ds:List (Nat×Nat)} (ht:tb.ok E.P) (hS:Stt E s kn S F L F0 nx0) (hq:RS zs rs n qs ls as ns ds) (m:Nat) (ts:List Nat) (vs:List Value) (h:syD tb E.NG ops kn S l inf m ts=some (vs.map some,true,true,true))
  (k: ∀s' rs',Stt E s' (jL ts vs kn) S F L F0 nx0→RS zs rs' (n+m) (upq m n qs) ls as ns ds→KW E (l.drop m) ops (kF m inf) rs' s' Q):KW E l ops inf rs s Q:=by
 obtain⟨r,hr,he⟩:=Option.map_eq_some_iff.1 h
 have hk:=ic _ _ _ _ hr
 obtain⟨kn',S',is,js⟩:=r
 simp only[Prod.mk.injEq] at hk he
 obtain⟨rfl,rfl,rfl⟩:=hk
 obtain⟨e1,e5,e6,e7⟩:=he
 have hl:(l.take m).length=m:=Nat.eq_of_beq_eq_true e7
 rw[← List.take_append_drop m l]
 refine K.syS_ok ht _ _ _ _ _ s hr (by rw[hl]; exact e6) hS hq _ fun s' rs' hS' hq'=>?_
 rw[hl] at hq' ⊢
 refine k s' rs' ⟨fun t v hv=>?_,hS'.mem,hS'.le,hS'.nx,hS'.ms⟩ hq'
 rcases jM e1 hv with q | ⟨q1,q2⟩
 ·exact hS'.fx t v q
 ·exact hS'.fx t v ((f3 _ _ _ _ _ hr t (cz _ e5 t v q1 q2)).trans q2)
theorem Stt.kb (hS:Stt E s kn S F L F0 nx0) (t:Nat) {b b':Bool} (hc:b=b') (hk:lkT kn t=some (.bool b)):Stt E s ((t,.bool b')::kn) S F L F0 nx0:=hS.know hk (congrArg Value.bool hc)
theorem bc {α:Type} {c:Bool} {a b:Option α} {r:α} {G:Prop} (h:(if c=true then a else b)=some r) (h1:c=true→a=some r→G) (h2:c=false→b=some r→G):G:=by
 cases c
 ·exact h2 rfl h
 ·exact h1 rfl h
theorem aP {fn:Func} {Φ:Value→List Seg→FZ→Prop} {e:Exit} {v:Value} (hS:Stt E s kn S F L F0 nx0) (he:e= .normal∨e= .ret) (t:Nat) (hf:fn.results.toList= [.tmp t]) (hk:lkT kn t=some v) (hΦ:Φ v S F):g6 E fn L F0 nx0 Φ e s:=fin (vs:=[v]) hS he (by rw[hf]; exact ak hS hk aQ) (v:=v) rfl hΦ
end
theorem LW.iterE {E:Env} {c:Code} {X:Type} {body:X→Option (X⊕X)} {x y:X} (ho:Go.Proofs.YtjcbhbncncbdjaaGreatDoorAi.iter body x=some y) (I:X→St→Prop) (i:Nat) {s:St} (hI:I x s)
  (round: ∀x s,I x s→ ∀o,body x=some o→WW E c s (eX (fun s'=> ∃y,o= .inl y∧I y s') (fun e s'=> ∃r,o= .inr r∧(e= .exit i∧I r s')))) {Q:Exit→St→Prop} (fin: ∀e s',(e= .exit i∧I y s')→Q e s'):LW E c s Q :=
 LW.iter ho I (fun y e s=>e= .exit i∧I y s) hI round fin
def oS {X R:Type} (I:X→St→Prop) (i:Nat) (RQ:R→Exit→St→Prop):X⊕R→Exit→St→Prop
 | .inl y=>fun e s=>e= .exit i∧I y s
 | .inr r=>fun e s=>e= .ret∧RQ r e s
theorem LW.iterS {E:Env} {c:Code} {X R:Type} {body:X→Option (X⊕(X⊕R))} {x:X} {o:X⊕R} (ho:Go.Proofs.YtjcbhbncncbdjaaGreatDoorAi.iter body x=some o) (I:X→St→Prop) (i:Nat) (RQ:R→Exit→St→Prop) {s:St} (hI:I x s)
  (round: ∀x s,I x s→ ∀o,body x=some o→WW E c s (eX (fun s'=> ∃y,o= .inl y∧I y s') (fun e s'=> ∃r,o= .inr r∧oS I i RQ r e s'))) {Q:Exit→St→Prop} (fin: ∀e s',oS I i RQ o e s'→Q e s'):LW E c s Q :=
 LW.iter ho I (oS I i RQ) hI round fin
end Go.Proofs.YtjcbhbncncbdjaaGreatDoorAi
namespace Go.Proofs.YtjcbhbncncbdjaaGreatDoorAi
open Go Go.RowKit
set_option linter.unusedVariables false
noncomputable def Fk (ks:List b9):FZ:=fun i=>(ba ks).get i
theorem Fk_nil (i:Nat):Fk [] i=none:=Tr.get_e i
theorem dA (k:b9) (ks:List b9) (i:Nat):Fk (k::ks) i=if i=k.name then some (.row k.cells 0 k.esz false) else Fk ks i:=by
 show((ba ks).set k.name (some (.row k.cells 0 k.esz false))).get i=_
 rw[Tr.get_set]; rfl
structure GS (NG:Nat) (w:World) (μ:Mu) (nx:Nat) (ks:List b9):Prop where
 lies: ∀k∈ks,oE μ w k
 names: ∀k∈ks,k.name<nx
 fresh: ∀i,nx≤i→μ i=none
 glob:gz NG μ
 ng:NG≤nx
 one: ∃i cs z,Fk ks i=some (.row cs 0 z false)
theorem mz {NG:Nat} {w:World} {μ:Mu} {nx:Nat}: ∀{ks:List b9},(∀k∈ks,k.name<nx)→ ∀{i:Nat} {b:Blk},Fk ks i=some b→i<nx
 | [],_,i,b,h=>by rw[Fk_nil] at h; cases h
 | k::ks,hn,i,b,h=>by
  rw[dA] at h
  split at h
  ·next e=>rw[e]; exact hn k List.mem_cons_self
  ·exact mz (NG:=NG) (w:=w) (μ:=μ) (fun k hk=>hn k (List.mem_cons_of_mem _ hk)) h
theorem oE.mono {μ μ':Mu} {w:World} {k:b9} (hm:aX μ μ') (h:oE μ w k):oE μ' w k:=by
 obtain⟨L,cc,fz,e,h1,h2,h3,h4,h5,h6,h7⟩:=h
 refine⟨L,cc,fz,e,hm _ _ h1,h2,h3,h4,h5,h6,fun i x hx=>?_⟩
 obtain⟨y,a,b,c⟩:=h7 i x hx
 exact⟨y,a,b.mono hm,c⟩
def iW (μ:Mu) (i:Nat) (L:Loc):Mu:=fun j=>if j=i then some L else μ j
theorem GS.add {NG:Nat} {w:World} {μ:Mu} {nx:Nat} {ks:List b9} (g:GS NG w μ nx ks) {blk off lim sz:Nat} {cells:List Value} {cc:Array Value} {e:TypeId} {fz:Nat×Nat} (hb:w.heap[blk]? = some (.cells cc e fz)) (hs:cc.size=lim) (hl:off+cells.length≤lim) (hz:sz≠0)
  (hc: ∀(i:Nat) (x:Value),cells[i]? = some x→ ∃y,cc[off+i]? = some y∧VR μ x y∧y.oneCell'=true) :
  aX μ (iW μ nx ⟨blk,off,lim,sz⟩)∧GS NG w (iW μ nx ⟨blk,off,lim,sz⟩) (nx+1) (⟨nx,blk,cells,sz⟩::ks)∧FLe (Fk ks) (Fk (⟨nx,blk,cells,sz⟩::ks)):=by
 have hm:aX μ (iW μ nx ⟨blk,off,lim,sz⟩):=fun i L h=>by
  unfold iW
  split
  ·next q=>rw[q,g.fresh nx (Nat.le_refl _)] at h; cases h
  ·exact h
 have hf:FLe (Fk ks) (Fk (⟨nx,blk,cells,sz⟩::ks)):=fun i b h=>by
  have:=mz (NG:=NG) (w:=w) (μ:=μ) g.names h
  rw[dA,if_neg (by simp only; omega)]; exact h
 refine⟨hm,⟨fun k hk=>?_,fun k hk=>?_,fun i hi=>?_,g.glob.mono hm,Nat.le_succ_of_le g.ng,?_⟩,hf⟩
 ·rcases List.mem_cons.1 hk with rfl | hk
  ·refine⟨⟨blk,off,lim,sz⟩,cc,fz,e,if_pos rfl,rfl,hb,hs,hl,hz,fun i x hx=>?_⟩
   obtain⟨y,a,b,c⟩:=hc i x hx
   exact⟨y,a,b.mono hm,c⟩
  ·exact(g.lies k hk).mono hm
 ·rcases List.mem_cons.1 hk with rfl | hk
  ·exact Nat.lt_succ_self _
  ·exact Nat.lt_succ_of_lt (g.names k hk)
 ·unfold iW
  rw[if_neg (by omega)]
  exact g.fresh i (by omega)
 ·obtain⟨i,cs,z,h⟩:=g.one
  exact⟨i,cs,z,hf _ _ h⟩
def Cov (μ:Mu) (g cs:List Value):Prop:=g.length=cs.length∧ ∀(i:Nat) (u:Value),g[i]? = some u→ ∃v,cs[i]? = some v∧VR μ u v∧v.oneCell'=true
theorem Cov.mono {μ μ':Mu} {g cs:List Value} (hm:aX μ μ') (h:Cov μ g cs):Cov μ' g cs:=⟨h.1,fun i u hu=>by
 obtain⟨v,a,b,c⟩:=h.2 i u hu
 exact⟨v,a,b.mono hm,c⟩⟩
section
variable {H:Type} (enc:TypeId×Value→H) (P:Program) (w:World) (NG:Nat)
def Wok (t:TypeId) (d:DataW H):Prop:= ∀n∈DataW.weights P t d,n≤reachBytes
def GOk {α:Type} (t:TypeId) (R:FZ→α→List Value→Prop) (B:α→Prop):Prop:= ∀(fuel:Nat) (cs:List Value) (x:DataW H×List MemPlace),DataW.trod enc P w 0 (fun _=>true) true fuel t cs=some x→Wok P t x.1 →
 ∀(μ:Mu) (nx:Nat) (ks:List b9),GS NG w μ nx ks→ ∃μ' nx' ks' y g,GS NG w μ' nx' ks'∧nx≤nx'∧aX μ μ'∧FLe (Fk ks) (Fk ks')∧R (Fk ks') y g∧B y∧Cov μ' g cs
variable {enc P w NG}
theorem oT {μ:Mu} {u v:Value} (h:VR μ u v) (ho:v.oneCell'=true):Cov μ [u] [v]:=⟨rfl,fun i x hx=>by
 match i,hx with
 | 0,hx=>obtain rfl:=Option.some.inj hx; exact⟨v,rfl,h,ho⟩
 | i+1,hx=>simp at hx⟩
theorem f4 {t:TypeId} {k:IntKind} (ht:P.underlying t=some (.int k)):GOk enc P w NG t (fun _ (y:Int) g=>g= [.int k y]) (fun _=>True):=by
 intro fuel cs x h _ μ nx ks g
 obtain⟨n,rfl,_,_⟩:=DataW.trod_int ht h
 exact⟨μ,nx,ks,n,_,g,Nat.le_refl _,aX.refl μ,FLe.refl _,rfl,trivial,oT (.plain rfl) rfl⟩
theorem gok_str {t:TypeId} (ht:P.underlying t=some .string):GOk enc P w NG t (fun _ (y:List UInt8) g=>g= [aa y]) (fun y=>y.length≤reachBytes):=by
 intro fuel cs x h hw μ nx ks g
 obtain⟨s,rfl,rfl,_⟩:=DataW.trod_string ht h
 refine⟨μ,nx,ks,s.data.toList,_,g,Nat.le_refl _,aX.refl μ,FLe.refl _,rfl,hw _ (by simp[DataW.weights]),?_⟩
 have:aa s.data.toList= .string s:=by
  show Value.string ⟨s.data.toList.toArray⟩=_
  rw[Array.toArray_toList]
 rw[this]
 exact oT (.plain rfl) rfl
theorem mA {a:Addr} {i:Nat} {v:Value} (h:w.cell? (a.add i)=some v): ∃cc e fz,w.heap[a.block]? = some (.cells cc e fz)∧cc[a.off+i]? = some v∧(i=0→a.spot=none):=by
 have hb:(a.add i).block=a.block:=by unfold Addr.add; split<;>rfl
 have ho:(a.add i).off=a.off+i:=by unfold Addr.add; split<;>simp_all
 unfold World.cell? at h
 rw[hb,ho] at h
 split at h
 ·next cc e fz hh =>
  split at h
  ·cases h
  ·next hs =>
   refine⟨cc,e,fz,hh,h,fun hi=>?_⟩
   subst hi
   have:(a.add 0).spot=a.spot:=by unfold Addr.add; rw[if_pos rfl]
   rw[this] at hs
   cases hq:a.spot with
   | none=>rfl
   | some q=>rw[hq] at hs; exact absurd rfl hs
 ·cases h
theorem nf {α:Type} {d:El α} {F:FZ} {l:List α} {cs:List Value} {y:α} {g:List Value} (h:af d F l cs) (hy:d.R F y g):af d F (l++ [y]) (cs++g):=h.append ⟨g,[],by simp,hy,rfl⟩
theorem iX {α:Type} {t e:TypeId} {d:El α} {B:α→Prop} (ht:P.underlying t=some (.slice e)) (hd:GOk enc P w NG e d.R B) (hsz:P.cellsOf e=d.sz) :
  GOk enc P w NG t (fun F (y:List α) g=> ∃a z,g= [.slice a y.length z]∧Frz d F a z y) (fun y=>(∀x∈y,B x)∧y.length*P.bytesOf e≤reachBytes):=by
 intro fuel cs x h hw μ nx ks g
 rcases Go.Deep.open_slice ht h with⟨rfl,rfl⟩ | ⟨a,len,cap,m,n,D,Pl,rfl,_,hlc,_,hm,rfl,hx⟩
 ·exact⟨μ,nx,ks,[],_,g,Nat.le_refl _,aX.refl μ,FLe.refl _,⟨none,0,rfl,Frz.nil⟩,⟨fun x hx=>(by cases hx),by simp⟩,oT (.plain rfl) rfl⟩
 obtain rfl:m=cap:=by simpa using hm
 have hwt:Wok P t (DataW.slice ((List.range len).map D) ((List.range (m-len)).map fun j=>D (len+j))):=hw
 have hbytes:m*P.bytesOf e≤reachBytes:=by
  refine Nat.le_trans (Nat.le_of_eq ?_) (hwt ((((List.range len).map D).length+((List.range (m-len)).map fun j=>D (len+j)).length)*P.bytesOf e) (by simp[DataW.weights,ht]))
  congr 1
  simp; omega
 have hlb:len*P.bytesOf e≤reachBytes:=Nat.le_trans (Nat.mul_le_mul_right _ hlc) hbytes
 by_cases hm0:m=0
 ·subst hm0
  obtain rfl:len=0:=by omega
  obtain⟨i,cs0,z0,hi⟩:=g.one
  refine⟨μ,nx,ks,[],[.slice (some ⟨i,0,none⟩) 0 0],g,Nat.le_refl _,aX.refl μ,FLe.refl _,⟨some ⟨i,0,none⟩,0,rfl,.inr ⟨i,0,cs0,0,z0,false,rfl,.inl rfl,hi,by simp[af],by simp⟩⟩,⟨fun x hx=>(by cases hx),by simp⟩,oT .slice0 rfl⟩
 ·-- the elements
  have key: ∀j,j≤len→ ∃μ' nx' ks' l G,GS NG w μ' nx' ks'∧nx≤nx'∧aX μ μ'∧FLe (Fk ks) (Fk ks')∧l.length=j∧af d (Fk ks') l G∧(∀x∈l,B x) ∧
    ∀(i:Nat) (u:Value),G[i]? = some u→ ∃v,w.cell? (a.add i)=some v∧VR μ' u v∧v.oneCell'=true:=by
   intro j
   induction j with
   | zero=>exact fun _=>⟨μ,nx,ks,[],[],g,Nat.le_refl _,aX.refl μ,FLe.refl _,rfl,rfl,fun x hx=>(by cases hx),fun i u hu=>by simp at hu⟩
   | succ j ih =>
    intro hj
    obtain⟨μ1,nx1,ks1,l,G,g1,hn1,hm1,hf1,hl,hC,hB,hG⟩:=ih (by omega)
    obtain⟨cs',c1,c2⟩:=hx j (by omega)
    obtain⟨_,clen,ccell⟩:=World.cells?_some c1
    have hwj:Wok P e (D j):=fun q hq=>hwt q (by
     simp only[DataW.weights,ht,List.mem_cons,List.mem_append]
     refine .inr (.inl ?_)
     have hmem:D j∈(List.range len).map D:=List.mem_map.2 ⟨j,List.mem_range.2 (by omega),rfl⟩
     have aux: ∀(ds:List (DataW H)),D j∈ds→q∈DataW.weightsAll P e ds:=by
      intro ds
      induction ds with
      | nil=>intro hh; cases hh
      | cons d0 ds ih =>
       intro hh
       rw[DataW.weightsAll,List.mem_append]
       rcases List.mem_cons.1 hh with rfl | hh
       ·exact .inl hq
       ·exact .inr (ih hh)
     exact aux _ hmem)
    obtain⟨μ2,nx2,ks2,y,gg,g2,hn2,hm2,hf2,hR,hBy,hcov⟩:=hd n cs' (D j,Pl j) c2 hwj μ1 nx1 ks1 g1
    have hgl:gg.length=d.sz:=by rw[hcov.1,clen,hsz]
    have hGl:G.length=j*d.sz:=by rw[hC.len,hl]
    refine⟨μ2,nx2,ks2,l++ [y],G++gg,g2,Nat.le_trans hn1 hn2,hm1.trans hm2,hf1.trans hf2,by simp[hl],nf (hC.mono hf2) hR,fun x hx=>?_,fun i u hu=>?_⟩
    ·rcases List.mem_append.1 hx with q | q
     ·exact hB x q
     ·rw[List.mem_singleton] at q; subst q; exact hBy
    ·by_cases hi:i<G.length
     ·rw[List.getElem?_append_left hi] at hu
      obtain⟨v,p1,p2,p3⟩:=hG i u hu
      exact⟨v,p1,p2.mono hm2,p3⟩
     ·rw[List.getElem?_append_right (by omega)] at hu
      obtain⟨v,p1,p2,p3⟩:=hcov.2 _ _ hu
      refine⟨v,?_,p2,p3⟩
      have hlt:i-G.length<P.cellsOf e:=by
       have:=(List.getElem?_eq_some_iff.1 hu).1
       rw[hsz,← hgl]; exact this
      have:=ccell _ hlt
      rw[p1,Go.Deep.add_add,hsz,← hGl,show G.length+(i-G.length)=i by omega] at this
      exact this
  obtain⟨μ1,nx1,ks1,l,G,g1,hn1,hm1,hf1,hl,hC,hB,hG⟩:=key len (Nat.le_refl _)
  -- the block
  obtain⟨cs0,c1,_⟩:=hx 0 (by omega)
  have hpos:=d.pos
  obtain⟨_,clen,ccell⟩:=World.cells?_some c1
  rw[Nat.zero_mul,show a.add 0=a from if_pos rfl] at ccell
  have hc0:w.cell? (a.add 0)=cs0[0]? := ccell 0 (by omega)
  rw[List.getElem?_eq_getElem (by omega)] at hc0
  obtain⟨cc,e',fz,hblk,hcc0,hsp⟩:=mA hc0
  have hspot:=hsp rfl
  have hoff:a.off≤cc.size:=by
   have:=(Array.getElem?_eq_some_iff.1 hcc0).1
   omega
  have hat: ∀(i:Nat) (u:Value),G[i]? = some u→ ∃y,cc[a.off+i]? = some y∧VR μ1 u y∧y.oneCell'=true:=fun i u hu=>by
   obtain⟨v,p1,p2,p3⟩:=hG i u hu
   obtain⟨cc2,e2,fz2,q1,q2,_⟩:=mA p1
   rw[hblk] at q1
   simp only[Option.some.injEq,Obj.cells.injEq] at q1
   obtain⟨rfl,_,_⟩:=q1
   exact⟨v,q2,p2,p3⟩
  have hlim:a.off+G.length≤cc.size:=by
   rcases Nat.eq_zero_or_pos G.length with q | q
   ·omega
   ·obtain⟨y,hy,_⟩:=hat (G.length-1) _ (List.getElem?_eq_getElem (by omega))
    have:=(Array.getElem?_eq_some_iff.1 hy).1
    omega
  obtain⟨k1,k2,k3⟩:=g1.add hblk rfl hlim (show d.sz≠0 by omega) hat
  refine⟨_,_,_,l,[.slice (some ⟨nx1,0,none⟩) l.length 0],k2,Nat.le_succ_of_le hn1,hm1.trans k1,hf1.trans k3,⟨some ⟨nx1,0,none⟩,0,rfl,.inr ⟨nx1,0,G,0,d.sz,false,rfl,.inl rfl,by rw[dA,if_pos rfl],?_,?_⟩⟩,⟨hB,by rw[hl]; exact hlb⟩,?_⟩
  ·rw[List.drop_zero,← hC.len,List.take_length]; exact hC.mono k3
  ·rw[hC.len]; omega
  ·rw[hl]
   have:VR (iW μ1 nx1 ⟨a.block,a.off,cc.size,d.sz⟩) (.slice (some ⟨nx1,0,none⟩) len 0) (.slice (some ⟨a.block,a.off+0,none⟩) len m):= .slice (L:=⟨a.block,a.off,cc.size,d.sz⟩) (if_pos rfl) hlc (.inl rfl)
   have ha:a=⟨a.block,a.off,none⟩:=by rw[← hspot]
   rw[Nat.add_zero,← ha] at this
   exact oT this rfl
end
theorem lH {w w':World} (hb:Below w.heap.size w w') {p:MemPlace} (hp:p.block<w.heap.size):w.sameAt w' p:=by
 cases p with
 | cell b off =>
  show w'.cell? ⟨b,off,none⟩=w.cell? ⟨b,off,none⟩
  unfold World.cell?
  rw[hb.block b hp]
 | map b=>exact hb.block b hp
theorem iY {H:Type} {enc:TypeId×Value→H} {P:Program} {w w':World} {base:Nat} {spare:Nat→Bool} {held:Bool}: ∀{ts:List TypeId} {vs:List Value} {ds:List (DataW H)} {ps:List MemPlace},
  DataW.TrodAll enc P w base spare held ts vs ds ps→(∀p∈ps,w.sameAt w' p)→DataW.TrodAll enc P w' base spare held ts vs ds ps
 | [],[],[],_,h,_=>h
 | _::_,_::_,_::_,_,⟨p,q,⟨n,h1⟩,h2,e⟩,hs=>⟨p,q,⟨n,DataW.trod_carry n _ _ _ h1 fun x hx=>hs x (by rw[e]; exact List.mem_append_left _ hx)⟩,iY h2 (fun x hx=>hs x (by rw[e]; exact List.mem_append_right _ hx)),e⟩
theorem args_again {H:Type} {enc:TypeId×Value→H} {P:Program} {w w':World} (hl:laidOutB P=true) (hm:mapsRowed P=true) (hz:((List.range P.types.size).all fun t=>match P.underlying t with | some (.slice e)=>decide (0<P.cellsOf e) | _=>true)=true)
  {ts:List TypeId} {vs:List Value} {ds:List (DataW H)} {ps:List MemPlace} (hts: ∀t∈ts,t<P.types.size) (h:DataW.TrodAll enc P w 0 (fun _=>true) true ts vs ds ps) (hb:Below w.heap.size w w') :
  DataW.TrodAll enc P w' 0 (fun b=>decide (b<w.heap.size)) true ts vs ds ps:=by
 have hlt:=h.lt
 exact iY (h.respare (kids_rows hl hm) (fun t e ht hu=>slices_full_of P hz t e ht hu) hts fun p hp=>decide_eq_true (hlt p hp)) fun p hp=>lH hb (hlt p hp)
section
variable {H:Type} {enc:TypeId×Value→H} {P:Program} {w:World} {NG:Nat}
theorem fM {α β γ:Type} {t:TypeId} {f0 f1 f2:Field} {R0:FZ→α→List Value→Prop} {R1:FZ→β→List Value→Prop} {R2:FZ→γ→List Value→Prop} {B0:α→Prop} {B1:β→Prop} {B2:γ→Prop}
  (ht:P.underlying t=some (.struct #[f0,f1,f2])) (o0:f0.offset=0) (o1:f1.offset=1) (o2:f2.offset=2) (s0:P.cellsOf f0.type=1) (s1:P.cellsOf f1.type=1) (s2:P.cellsOf f2.type=1) (s:P.cellsOf t=3)
  (m0: ∀{F F' y g},FLe F F'→R0 F y g→R0 F' y g) (m1: ∀{F F' y g},FLe F F'→R1 F y g→R1 F' y g)
  (g0:GOk enc P w NG f0.type R0 B0) (g1:GOk enc P w NG f1.type R1 B1) (g2:GOk enc P w NG f2.type R2 B2) :
  GOk enc P w NG t (fun F (y:α×β×γ) g=> ∃a b c,g= [a,b,c]∧R0 F y.1 [a]∧R1 F y.2.1 [b]∧R2 F y.2.2 [c]) (fun y=>B0 y.1∧B1 y.2.1∧B2 y.2.2):=by
 intro fuel cs x h hw μ nx ks gs
 obtain⟨xs,n,rfl,rfl,hlen,hxl,hf⟩:=DataW.trod_struct ht h
 rw[s] at hlen
 match cs,hlen with
 | [v0,v1,v2],_ =>
  have hxl':xs.length=3:=hxl
  match xs,hxl' with
  | [x0,x1,x2],_ =>
   have e0:=hf 0 f0 rfl
   have e1:=hf 1 f1 rfl
   have e2:=hf 2 f2 rfl
   rw[o0,s0] at e0
   rw[o1,s1] at e1
   rw[o2,s2] at e2
   have hw': ∀n∈DataW.weightsEach P [f0.type,f1.type,f2.type] [x0.1,x1.1,x2.1],n≤reachBytes:=fun n hn=>hw n (by simpa[DataW.weights,ht] using hn)
   simp only[DataW.weightsEach,List.mem_append] at hw'
   obtain⟨μ0,nx0,ks0,y0,l0,a1,a2,a3,a4,a5,a6,a7⟩:=g0 n _ x0 e0 (fun q hq=>hw' q (.inl hq)) μ nx ks gs
   obtain⟨μ1,nx1,ks1,y1,l1,b1,b2,b3,b4,b5,b6,b7⟩:=g1 n _ x1 e1 (fun q hq=>hw' q (.inr (.inl hq))) μ0 nx0 ks0 a1
   obtain⟨μ2,nx2,ks2,y2,l2,c1,c2,c3,c4,c5,c6,c7⟩:=g2 n _ x2 e2 (fun q hq=>hw' q (.inr (.inr (.inl hq)))) μ1 nx1 ks1 b1
   have k0:l0.length=1:=a7.1
   have k1:l1.length=1:=b7.1
   have k2:l2.length=1:=c7.1
   match l0,l1,l2,k0,k1,k2 with
   | [u0],[u1],[u2],_,_,_ =>
    refine⟨μ2,nx2,ks2,(y0,y1,y2),[u0,u1,u2],c1,Nat.le_trans a2 (Nat.le_trans b2 c2),a3.trans (b3.trans c3),a4.trans (b4.trans c4),⟨u0,u1,u2,rfl,m0 (b4.trans c4) a5,m1 c4 b5,c5⟩,⟨a6,b6,c6⟩,rfl,fun i u hu=>?_⟩
    match i,hu with
    | 0,hu =>
     obtain⟨v,p1,p2,p3⟩:=a7.2 0 u hu
     exact⟨v,p1,p2.mono (b3.trans c3),p3⟩
    | 1,hu =>
     obtain⟨v,p1,p2,p3⟩:=b7.2 0 u hu
     exact⟨v,p1,p2.mono c3,p3⟩
    | 2,hu=>exact c7.2 0 u hu
    | i+3,hu=>simp at hu
theorem GOk.as {α:Type} {t:TypeId} {R R':FZ→α→List Value→Prop} {B B':α→Prop} (h:GOk enc P w NG t R B) (hr: ∀{F y g},R F y g→R' F y g) (hb: ∀y,B y→B' y):GOk enc P w NG t R' B':=fun fuel cs x h1 h2 μ nx ks g=>by
 obtain⟨μ',nx',ks',y,g',a1,a2,a3,a4,a5,a6,a7⟩:=h fuel cs x h1 h2 μ nx ks g
 exact⟨μ',nx',ks',y,g',a1,a2,a3,a4,hr a5,hb y a6,a7⟩
end
theorem mem_k {NG:Nat} {w:World} {μ:Mu} {nx:Nat} {ks:List b9} (g:GS NG w μ nx ks):Mem (ba ks) nx [] (Fk ks) :=
 ⟨fun p hp=>by simp at hp,List.nodup_nil,fun i b e=>⟨e,mz (NG:=NG) (w:=w) (μ:=μ) g.names e,fun h=>by simp[ah] at h⟩,fun i hi=>by
  cases e:Fk ks i with
  | none=>exact e
  | some b =>
   have:=mz (NG:=NG) (w:=w) (μ:=μ) g.names e
   omega⟩
end Go.Proofs.YtjcbhbncncbdjaaGreatDoorAi
