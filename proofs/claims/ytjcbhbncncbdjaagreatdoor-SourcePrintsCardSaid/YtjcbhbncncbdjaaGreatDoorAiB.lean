/-
AiOps, AiOps2, AiOps3, AiOps4, AiOps5, AiOps6, AiOps7
-/
import Derived.Test.YtjcbhbncncbdjaaGreatDoorAiA
import Derived.Deep.MidRow
import Derived.ChangeKeysEq
import Derived.Lib.UnsafeStr
import Derived.Laws.BytesString
import Derived.Laws.Strings
namespace Go.Proofs.YtjcbhbncncbdjaaGreatDoorAi
open Go Go.RowKit
set_option linter.unusedVariables false
set_option linter.unusedSimpArgs false
theorem bQ {α:Type} {P:Program} {s:Sem α} {a:α} (h:aF P s=some a) (w:World):s.run P w= .ok a w:=by
 induction s with
 | pure b=>simp only[aF,Option.some.injEq] at h; subst h; rfl
 | program k ih=>simp only[aF] at h; exact ih P h
 | mark m k ih=>simp only[aF] at h; exact ih h
 | _=>simp[aF] at h
def cI (hh:Nat→Option Blk) (nx:Nat) (id:Option Nat):Eff→Nat→Option Blk
 | .none=>hh
 | .upd b=>(match id with | some i=>upd hh i (some b) | none=>hh)
 | .new b=>upd hh nx (some b)
def aA (P:Program) (ρ':Operand→Value) (o:Oper) (μ:Mu) (B:Nat) (hh:Nat→Option Blk) (w:World) (nx:Nat) (id:Option Nat) (v:Value) (eff:Eff):Prop :=
 ∃v' w' μ',((execOp ρ' o).run P w= .ok (.value v') w'∨((execOp ρ' o).run P w= .ok .skip w'∧v'=undef))∧VR μ' v v' ∧
  HR μ' B (cI hh nx id eff) w'.heap∧aX μ μ'∧(∀i,i<nx∨bS nx eff≤i→μ' i=μ i)∧Below B w w'
section
variable {P:Program} {ρ ρ':Operand→Value} {o:Oper} {μ:Mu} {B:Nat} {hh:Nat→Option Blk} {w:World} {nx:Nat} {id:Option Nat}
theorem aA.stay {v v':Value} (hr:HR μ B hh w.heap) (h:(execOp ρ' o).run P w= .ok (.value v') w) (hv:VR μ v v'):aA P ρ' o μ B hh w nx id v .none :=
 ⟨v',w,μ,.inl h,hv,hr,aX.refl _,fun _ _=>rfl,Below.refl _ _⟩
theorem aA.fresh {v':Value} {w':World} {b:Blk} {L:Loc} {ob:Obj} (hr:HR μ B hh w.heap) (hi:μ nx=none) (hB:B≤w.heap.size)
  (h:(execOp ρ' o).run P w= .ok (.value v') w') (hw:w'.heap=w.heap.push ob) (ho:w'.os=w.os) (htp:w'.tape=w.tape) (hou:w'.output=w.output) (hl:L.blk=w.heap.size)
  (hb:BR (bA μ nx L) B L (w.heap.push ob) b) {v:Value} (hv:VR (bA μ nx L) v v'):aA P ρ' o μ B hh w nx id v (.new b):=by
 refine⟨v',w',bA μ nx L,.inl h,hv,by rw[hw]; exact hr.new hi ob hl hb,bn hi,fun i hi'=>?_,⟨ho,htp,hou,by rw[hw]; simp,fun k hk=>?_⟩⟩
 ·have:i≠nx:=by simp only[bS] at hi'; omega
  simp[bA,this]
 ·rw[hw,Array.getElem?_push,if_neg (by omega)]
theorem bi {t:TypeId} {n:Nat} (h:aU P t=some n) (w:World):(sizeOf t).run P w= .ok n w:=by
 unfold aU at h
 cases hi:P.info? t with
 | none=>simp[hi] at h
 | some i=>simp[hi] at h; subst h; simp[sizeOf,typeInfo,hi]
theorem jj {t:TypeId} {d:TypeDesc} (h:P.underlying t=some d) (w:World):(isAgg t).run P w= .ok (df d) w:=by
 unfold isAgg
 rw[Sem.run_bind,run_underlying h w]
 cases d<;>rfl
theorem jk {L:Loc} {cs:List Value} {e:TypeId} {z:Nat} {own:Bool} (h:BR μ B L w.heap (.row cs e z own)) {k:Nat} {x:Value} (hk:cs[k]? = some x) :
  ∃y,w.cell? ⟨L.blk,L.off+k,none⟩=some y∧VR μ x y∧y.oneCell'=true:=by
 obtain⟨cc,fz,e0,h1,h2,h3,h4,h5,h6,h7,h8⟩:=h
 obtain⟨y,a,b,c⟩:=h5 k x hk
 refine⟨y,?_,b,c⟩
 unfold World.cell?
 simp only[h1]
 simpa using a
theorem bu {cs l:List Value} {o n:Nat} (h:aR cs o n=some l):o+n≤cs.length∧l=(cs.drop o).take n∧l.length=n:=by
 unfold aR at h
 cases e:Nat.ble (o+n) cs.length
 ·simp[e] at h
 ·simp only[e,cond_true,Option.some.injEq] at h
  have hle:=Nat.le_of_ble_eq_true e
  exact⟨hle,h.symm,by rw[← h]; simp; omega⟩
theorem eM {L:Loc} {cs l:List Value} {e:TypeId} {z off n:Nat} {own:Bool} (h:BR μ B L w.heap (.row cs e z own)) (hl:aR cs off n=some l) :
  ∃l':List Value,l'.length=n∧w.rangeAt L.blk (L.off+off) l'∧(∀(k:Nat) (x y:Value),l[k]? = some x→l'[k]? = some y→VR μ x y)∧ ∀y∈l',y.oneCell'=true:=by
 obtain⟨hle,hl',hn⟩:=bu hl
 have get: ∀k,k<n→ ∃x y,l[k]? = some x∧w.cell? ⟨L.blk,L.off+off+k,none⟩=some y∧VR μ x y∧y.oneCell'=true:=by
  intro k hk
  have hx:cs[off+k]? = some (cs[off+k]'(by omega)):=List.getElem?_eq_getElem (by omega)
  obtain⟨y,a,b,c⟩:=jk h hx
  refine⟨_,y,?_,by rw[← a]; congr 2; omega,b,c⟩
  have:l[k]? = ((cs.drop off).take n)[k]? := by rw[← hl']
  rw[this,List.getElem?_take,if_pos hk,List.getElem?_drop,hx]
 refine⟨(List.range n).map fun k=>(w.cell? ⟨L.blk,L.off+off+k,none⟩).getD undef,by simp,fun j v hj=>?_,fun k x y hx hy=>?_,fun y hy=>?_⟩
 ·have hjn:j<n:=by have:=(List.getElem?_eq_some_iff.1 hj).1; simpa using this
  obtain⟨x,y,a,b,c,d⟩:=get j hjn
  simp[List.getElem?_map,List.getElem?_range hjn,b] at hj
  rw[b,hj]
 ·have hkn:k<n:=by have:=(List.getElem?_eq_some_iff.1 hy).1; simpa using this
  obtain⟨x',y',a,b,c,d⟩:=get k hkn
  simp[List.getElem?_map,List.getElem?_range hkn,b] at hy
  rw[hx] at a
  obtain rfl:=Option.some.inj a
  rw[← hy]; exact c
 ·obtain⟨k,hk,rfl⟩:=List.mem_map.1 hy
  obtain⟨x',y',a,b,c,d⟩:=get k (by simpa using hk)
  rw[b]; exact d
theorem l6 {t:TypeId} {a:Addr} {b:Blk} {v p:Value} (hv:dD P t a b=some v) (hp:VR μ (.pointer (some a)) p) {L:Loc} (hL:μ a.block=some L) (hb:BR μ B L w.heap b) :
  ∃v',(Instr.loadAt t p).run P w= .ok v' w∧VR μ v v':=by
 obtain⟨hs,L',hL',rfl⟩:=hp.ptrS
 rw[hL] at hL'
 obtain rfl:=Option.some.inj hL'
 cases b with
 | iter s q=>simp[dD] at hv
 | row cs e z own =>
  simp only[dD,hs] at hv
  cases hu:P.underlying t with
  | none=>simp[hu] at hv
  | some d =>
   simp only[hu] at hv
   cases hd:df d
   ·simp only[hd,cond_false,aO] at hv
    obtain⟨y,a1,a2,a3⟩:=jk hb hv
    refine⟨y,?_,a2⟩
    simp[Instr.loadAt,Instr.sureAddr,loadVar,jj hu,hd,a1]
   ·simp only[hd,cond_true] at hv
    cases hn:aU P t with
    | none=>simp[hn] at hv
    | some n =>
     simp only[hn,Option.bind_some] at hv
     cases hl:aR cs a.off n with
     | none=>simp[hl] at hv
     | some l =>
      simp only[hl,Option.map_some,Option.some.injEq] at hv
      subst hv
      obtain⟨l',h1,h2,h3,h4⟩:=eM hb hl
      refine⟨.agg l'.toArray,?_,.agg (by simp[h1,(bu hl).2.2]) fun k x y a b=>h3 k x y (by simpa using a) (by simpa using b)⟩
      exact run_loadAt_mid w L.blk (L.off+a.off) t l' d h2 hu (by cases d<;>simp_all [df,TypeDesc.isRow]) (by unfold aU at hn; rw[hn,h1])
def bv (cc:Array Value):Nat→List Value→Array Value
 | _,[]=>cc
 | o,v::r=>bv (cc.setIfInBounds o v) (o+1) r
theorem dI (r:List Value): ∀(cc:Array Value) (o:Nat),(bv cc o r).size=cc.size:=by
 induction r with
 | nil=>intro cc o; rfl
 | cons v r ih=>intro cc o; simp[bv,ih]
theorem d9 (b:Nat) (e:TypeId) (fz:Nat×Nat) (r:List Value): ∀(cc:Array Value) (o:Nat) (w:World),w.heap[b]? = some (.cells cc e fz) →
  (w.setCells b o r).heap[b]? = some (.cells (bv cc o r) e fz):=by
 induction r with
 | nil=>intro cc o w h; exact h
 | cons v r ih =>
  intro cc o w h
  simp only[World.setCells,bv]
  refine ih _ _ _ ?_
  simp[World.setCell,Array.getElem?_modify,h]
theorem bB (b k:Nat) (hk:k≠b) (r:List Value): ∀(o:Nat) (w:World),(w.setCells b o r).heap[k]? = w.heap[k]? := by
 induction r with
 | nil=>intro o w; rfl
 | cons v r ih =>
  intro o w
  simp only[World.setCells]
  rw[ih]
  exact Below.heap_setCell _ _ _ _ (by simpa using hk)
theorem eb (b:Nat) (r:List Value): ∀(o:Nat) (w:World),(w.setCells b o r).os=w.os∧(w.setCells b o r).tape=w.tape∧(w.setCells b o r).output=w.output∧(w.setCells b o r).heap.size=w.heap.size:=by
 induction r with
 | nil=>intro o w; exact⟨rfl,rfl,rfl,rfl⟩
 | cons v r ih =>
  intro o w
  obtain⟨a,b,c,d⟩:=ih (o+1) (w.setCell ⟨b,o,none⟩ v)
  exact⟨a,b,c,d.trans (by simp[World.setCell])⟩
theorem bM (r:List Value): ∀(cs:List Value) (o:Nat),(setCells cs o r).length=cs.length:=by
 induction r with
 | nil=>intro cs o; rfl
 | cons v r ih=>intro cs o; simp[setCells,ih]
theorem l7 {L:Nat} (r r':List Value) (hl:r.length=r'.length) (hr: ∀(k:Nat) (x y:Value),r[k]? = some x→r'[k]? = some y→VR μ x y∧y.oneCell'=true) :
  ∀(cs:List Value) (cc:Array Value) (o:Nat),L+cs.length≤cc.size →
  (∀(k:Nat) (x:Value),cs[k]? = some x→ ∃y,cc[L+k]? = some y∧VR μ x y∧y.oneCell'=true) →
  ∀(k:Nat) (x:Value),(setCells cs o r)[k]? = some x→ ∃y,(bv cc (L+o) r')[L+k]? = some y∧VR μ x y∧y.oneCell'=true:=by
 induction r generalizing r' with
 | nil =>
  intro cs cc o hle h k x hk
  cases r' with
  | nil=>exact h k x hk
  | cons=>simp at hl
 | cons v r ih =>
  intro cs cc o hle h k x hk
  cases r' with
  | nil=>simp at hl
  | cons v' r' =>
   simp only[setCells,bv] at hk ⊢
   rw[show L+o+1=L+(o+1) by omega]
   refine ih r' (by simpa using hl) (fun k x y a b=>hr (k+1) x y (by simpa using a) (by simpa using b)) (cs.set o v) (cc.setIfInBounds (L+o) v') (o+1) (by simpa using hle) ?_ k x hk
   intro k x hk
   rw[List.getElem?_set] at hk
   split at hk
   ·rename_i hok
    subst hok
    split at hk
    ·rename_i hlt
     obtain rfl:=Option.some.inj hk
     have hlt':L+o<cc.size:=by omega
     exact⟨v',by simp[hlt'],hr 0 v v' (by simp) (by simp)⟩
    ·cases hk
   ·rename_i hok
    obtain⟨y,a,b⟩:=h k x hk
    exact⟨y,by rw[Array.getElem?_setIfInBounds_ne (by omega)]; exact a,b⟩
theorem k9 {L:Loc} {cs:List Value} {e:TypeId} {z:Nat} {own:Bool} {i:Nat} {w:World} (hr:HR μ B hh w.heap) (hi:hh i=some (.row cs e z own)) (hL:μ i=some L) (ho:own=true)
  (o:Nat) (r r':List Value) (hl:r.length=r'.length) (hv: ∀(k:Nat) (x y:Value),r[k]? = some x→r'[k]? = some y→VR μ x y∧y.oneCell'=true) :
  HR μ B (upd hh i (some (.row (setCells cs o r) e z own))) (w.setCells L.blk (L.off+o) r').heap∧Below B w (w.setCells L.blk (L.off+o) r'):=by
 obtain⟨L',hL',hb⟩:=hr.blk i _ hi
 rw[hL] at hL'
 obtain rfl:=Option.some.inj hL'
 obtain⟨cc,fz,e0,h1,h2,h3,h4,h5,h6,h7,h8⟩:=hb
 obtain⟨s1,s2,s3,s4⟩:=eb L.blk r' (L.off+o) w
 refine⟨hr.put hi hL (by simp[l5,ho]) (fun k hk=>bB _ _ hk _ _ _) ⟨bv cc (L.off+o) r',fz,e0,d9 _ _ _ _ _ _ _ h1,by rw[dI]; exact h2,h3,by rw[bM]; exact h4,?_,h6,?_,h8⟩,
  ⟨s1,s2,s3,by omega,fun k hk=>bB _ _ (by have:=(h6 ho).1; omega) _ _ _⟩⟩
 ·exact l7 r r' hl hv cs cc o (by omega) h5
 ·intro hz; rw[bM]; exact h7 hz
theorem ke {L:Loc} {cs:List Value} {e:TypeId} {z o n:Nat} {own:Bool} (hb:BR μ B L w.heap (.row cs e z own)) (ho:own=true) (hn:o+n≤cs.length):w.there L.blk (L.off+o) n:=by
 intro j hj
 have hx:cs[o+j]? = some (cs[o+j]'(by omega)):=List.getElem?_eq_getElem (by omega)
 obtain⟨y,a,_⟩:=jk hb hx
 obtain⟨cc,fz,e0,h1,h2,h3,h4,h5,h6,h7,h8⟩:=hb
 refine⟨by rw[show L.off+o+j=L.off+(o+j) by omega,a]; rfl,?_⟩
 unfold World.frozen?
 simp only[h1]
 have:=(h6 ho).2 (L.off+o+j) (by omega)
 simp only[Bool.and_eq_false_iff,decide_eq_false_iff_not]
 omega
theorem kf (t:TypeId) (b o:Nat) (v:Value) (ht:w.there b o v.cells.size) (hi:aU P t=some v.cells.size) (h1: ∀x∈v.cells.toList,x.oneCell'=true) :
  (Instr.storeAt t (.pointer (some ⟨b,o,none⟩)) v).run P w= .ok () (w.setCells b o v.cells.toList):=by
 have:=run_storeCells_cells (P:=P) b o v.cells.toList 0 w (fun j hj=>by simpa using (ht j (by simpa using hj)).1) (fun j hj=>by simpa using (ht j (by simpa using hj)).2) h1
 simp only[Nat.add_zero] at this
 simp[Instr.storeAt,Instr.sureAddr,storeVar,bi hi,this]
theorem nW {t:TypeId} {a:Addr} {b c:Blk} {x x' p:Value} (hv:ef P t a x b=some c) (hp:VR μ (.pointer (some a)) p) (hx:VR μ x x') (hr:HR μ B hh w.heap) (hb:hh a.block=some b) :
  ∃w',(Instr.storeAt t p x').run P w= .ok () w'∧HR μ B (upd hh a.block (some c)) w'.heap∧Below B w w':=by
 obtain⟨hs,L,hL,rfl⟩:=hp.ptrS
 cases b with
 | iter s q=>simp[ef] at hv
 | row cs e z own =>
  simp only[ef,hs] at hv
  cases hn:aU P t with
  | none=>simp[hn] at hv
  | some n =>
   simp only[hn] at hv
   cases hc:own&&Nat.beq x.cells.size n&&Nat.ble (a.off+n) cs.length&&x.cells.toList.all one
   ·rw[hc] at hv; cases hv
   ·simp only[hc,cond_true,Option.some.injEq] at hv
    subst hv
    simp only[Bool.and_eq_true] at hc
    obtain⟨⟨⟨ho,hsz⟩,hle⟩,h1⟩:=hc
    have hsz:=nbT hsz
    have hle:=Nat.le_of_ble_eq_true hle
    obtain⟨k1,k2⟩:=hx.cells h1
    obtain⟨L',hL',hbr⟩:=hr.blk _ _ hb
    rw[hL] at hL'
    obtain rfl:=Option.some.inj hL'
    have key:=k9 hr hb hL ho a.off x.cells.toList x'.cells.toList (by simp[k1]) (fun k u y p q=>k2 k u y (by simpa using p) (by simpa using q))
    refine⟨_,kf t L.blk (L.off+a.off) x' ?_ (by rw[hn,k1,hsz]) ?_,key⟩
    ·rw[k1,hsz]; exact ke hbr ho hle
    ·intro y hy
     obtain⟨k,hk,hk'⟩:=List.getElem_of_mem hy
     have hk2:k<x.cells.size:=by rw[← k1]; simpa using hk
     exact(k2 k _ y (Array.getElem?_eq_getElem hk2) (by rw[← hk']; simp)).2
end
end Go.Proofs.YtjcbhbncncbdjaaGreatDoorAi
namespace Go.Proofs.YtjcbhbncncbdjaaGreatDoorAi
open Go Go.RowKit
set_option linter.unusedVariables false
set_option linter.unusedSimpArgs false
set_option linter.unnecessarySimpa false
set_option linter.unusedSectionVars false
section
variable {P:Program} {ρ ρ':Operand→Value} {dst:Option Tmp} {type:TypeId} {pos:String} {after:Array Edge} {guard:Option (Nat×Bool)} {μ:Mu} {B:Nat} {hh:Nat→Option Blk} {w:World} {nx:Nat}
theorem aN {o:Option Value} {v:Value} {eff:Eff} (h:ar o=some (v,eff)):o=some v∧eff= .none:=by
 cases o with
 | none=>cases h
 | some u=>simp only[ar,Option.some.injEq,Prod.mk.injEq] at h; exact⟨by rw[h.1],h.2.symm⟩
theorem VR.ptr' {i o:Nat} {L:Loc} {b q:Nat} (h:μ i=some L) (hb:b=L.blk) (hq:q=L.off+o):VR μ (.pointer (some ⟨i,o,none⟩)) (.pointer (some ⟨b,q,none⟩)):=by
 subst hb; subst hq; exact .ptr h
theorem fU {v:Value} (h:flat v=true):v.oneCell'=true:=by cases v<;>first | rfl | (simp[flat] at h)
theorem BR.newRow {i:Nat} {cs:List Value} {cc:Array Value} {e:TypeId} {z:Nat} {fz:Nat×Nat} (hp:Array Obj) (hB:B≤hp.size) (hl:cs.length≤cc.size)
  (hv: ∀(k:Nat) (x y:Value),cs[k]? = some x→cc[k]? = some y→VR μ x y∧y.oneCell'=true) (hm:aX μ (bA μ i ⟨hp.size,0,cc.size,z⟩)) (hf: ∀o,o<cc.size→ ¬ (fz.1≤o∧o<fz.2))
  (hz:z=0→cs.length=cc.size):BR (bA μ i ⟨hp.size,0,cc.size,z⟩) B ⟨hp.size,0,cc.size,z⟩ (hp.push (.cells cc e fz)) (.row cs e z true):=by
 refine⟨cc,fz,e,by simp,rfl,rfl,by simpa using hl,fun k x hk=>?_,fun _=>⟨hB,hf⟩,fun h=>⟨rfl,hz h⟩,fun _=>rfl⟩
 have hlt:k<cc.size:=by have:=(List.getElem?_eq_some_iff.1 hk).1; omega
 have hy:cc[k]? = some cc[k]:=Array.getElem?_eq_getElem hlt
 obtain⟨a,b⟩:=hv k x _ hk hy
 exact⟨_,by simpa using hy,a.mono hm,b⟩
theorem cn {t:TypeId} {z:List Value} (h:aS P t=some z): ∃i zv,P.info? t=some i∧i.zero=some zv∧zv.cells.toList=z∧ ∀x∈z,flat x=true:=by
 unfold aS at h
 cases hi:P.info? t with
 | none=>simp[hi] at h
 | some i =>
  simp only[hi] at h
  cases hz:i.zero with
  | none=>simp[hz] at h
  | some zv =>
   simp only[hz] at h
   cases hc:zv.cells.toList.all flat
   ·rw[hc] at h; cases h
   ·rw[hc] at h
    simp only[cond_true,Option.some.injEq] at h
    exact⟨i,zv,rfl,hz,h,fun x hx=>List.all_eq_true.1 hc x (by rw[h]; exact hx)⟩
theorem eN {t:TypeId} {i:TypeInfo} {zv:Value} (hi:P.info? t=some i) (hz:i.zero=some zv) (w:World):(zeroValue t).run P w= .ok zv w:=by
 simp[zeroValue,typeInfo,hi,hz]
theorem go {z:List Value} (h: ∀x∈z,flat x=true) {cc:Array Value} (hc:cc.toList=z) (k:Nat) (x y:Value) (hx:z[k]? = some x) (hy:cc[k]? = some y):VR μ x y∧y.oneCell'=true:=by
 subst hc
 have:cc[k]? = some x:=by simpa using hx
 rw[this] at hy
 obtain rfl:=Option.some.inj hy
 have hf:=h x (List.mem_of_getElem? hx)
 exact⟨.plain (bt hf),fU hf⟩
variable (hρ: ∀x,VR μ (ρ x) (ρ' x)) (hr:HR μ B hh w.heap) (hi:μ nx=none) (hB:B≤w.heap.size)
include hρ hr in
theorem move_ok (x:Operand) {id:Option Nat}:aA P ρ' ⟨dst,.move x,type,pos,after,guard⟩ μ B hh w nx id (ρ x) .none:=aA.stay hr rfl (hρ x)
include hρ hr in
theorem mJ (x:Operand) {id:Option Nat}:aA P ρ' ⟨dst,.assign x,type,pos,after,guard⟩ μ B hh w nx id (ρ x) .none:=aA.stay hr rfl (hρ x)
include hρ hr in
theorem pick_ok (c x y:Operand) {id:Option Nat} {v:Value} {eff:Eff} {b:Option Blk} (h:fG c x y P nx type ρ b=some (v,eff)):aA P ρ' ⟨dst,.pick c x y,type,pos,after,guard⟩ μ B hh w nx id v eff:=by
 unfold fG at h
 cases hc:asB (ρ c) with
 | none=>simp[hc] at h
 | some t =>
  simp only[hc,Option.some.injEq,Prod.mk.injEq] at h
  obtain⟨rfl,rfl⟩:=h
  have:=hρ c
  rw[i9 hc] at this
  refine aA.stay hr (v':=if t then ρ' x else ρ' y) ?_ ?_
  ·simp[execOp,this.bool,asBool]
  ·cases t
   ·simpa using hρ y
   ·simpa using hρ x
include hr hi hB in
theorem nX (t:TypeId) {id:Option Nat} {v:Value} {eff:Eff} {b:Option Blk} (h:ej t P nx type ρ b=some (v,eff)):aA P ρ' ⟨dst,.alloc t,type,pos,after,guard⟩ μ B hh w nx id v eff:=by
 unfold ej at h
 cases hz:aS P t with
 | none=>simp[hz] at h
 | some z =>
  simp only[hz,Option.some.injEq,Prod.mk.injEq] at h
  obtain⟨rfl,rfl⟩:=h
  obtain⟨i,zv,h1,h2,h3,h4⟩:=cn hz
  refine aA.fresh (L:=⟨w.heap.size,0,zv.cells.size,0⟩) (v':= .pointer (some ⟨w.heap.size,0,none⟩)) (w':=w.alloc (.cells zv.cells t)) hr hi hB ?_ rfl rfl rfl rfl rfl ?_ (VR.ptr' (aM _ _ _) rfl rfl)
  ·simp[execOp,Instr.alloc,eN h1 h2,newVar,newRow]
  ·exact BR.newRow _ hB (by rw[← h3]; simp) (go h4 h3) (bn hi) (by simp) (fun _=>by rw[← h3]; simp)
include hρ hr hi hB in
theorem box_ok (t:TypeId) (x:Operand) {id:Option Nat} {v:Value} {eff:Eff} {b:Option Blk} (h:nJ t x P nx type ρ b=some (v,eff)):aA P ρ' ⟨dst,.box t x,type,pos,after,guard⟩ μ B hh w nx id v eff:=by
 unfold nJ kS at h
 cases h1:(ρ x).cells.toList.all one
 ·rw[h1] at h; cases h
 ·rw[h1] at h
  simp only[cond_true,Option.some.injEq,Prod.mk.injEq] at h
  obtain⟨rfl,rfl⟩:=h
  obtain⟨k1,k2⟩:=(hρ x).cells h1
  refine aA.fresh (L:=⟨w.heap.size,0,(ρ' x).cells.size,0⟩) (v':= .pointer (some ⟨w.heap.size,0,none⟩)) (w':=w.alloc (.cells (ρ' x).cells t)) hr hi hB ?_ rfl rfl rfl rfl rfl ?_ (VR.ptr' (aM _ _ _) rfl rfl)
  ·simp[execOp,Instr.box,newVar,newRow]
  ·exact BR.newRow _ hB (by simp[k1]) (fun k a b p q=>k2 k a b (by simpa using p) q) (bn hi) (by simp) (fun _=>by simp[k1])
include hρ hr in
theorem nY (t:TypeId) (a:Operand) {v:Value} {eff:Eff} {b:Option Blk} (h:nK t a P nx type ρ b=some (v,eff)) (hb: ∀i,bh (ρ a)=some i→b=hh i) :
  aA P ρ' ⟨dst,.load t a,type,pos,after,guard⟩ μ B hh w nx (bh (ρ a)) v eff:=by
 unfold nK dF at h
 cases hp:asP (ρ a) with
 | none=>simp[hp] at h
 | some o =>
  cases o with
  | none=>simp[hp] at h
  | some ad =>
   cases b with
   | none=>simp[hp] at h
   | some bl =>
    simp only[hp] at h
    have hq:=aN h
    clear h
    obtain⟨h,rfl⟩:=hq
    have e:=bb hp
    have hb':=hb ad.block (by rw[e]; rfl)
    have hva:=hρ a
    rw[e] at hva
    obtain⟨L,hL,hbr⟩:=hr.blk _ _ hb'.symm
    obtain⟨v',h1,h2⟩:=l6 h hva hL hbr
    exact aA.stay hr (by simp[execOp,h1]) h2
include hρ hr in
theorem mK (t:TypeId) (a x:Operand) {v:Value} {eff:Eff} {b:Option Blk} (h:kU t a x P nx type ρ b=some (v,eff)) (hb: ∀i,bh (ρ a)=some i→b=hh i) :
  aA P ρ' ⟨dst,.store t a x,type,pos,after,guard⟩ μ B hh w nx (bh (ρ a)) v eff:=by
 unfold kU ek at h
 cases hp:asP (ρ a) with
 | none=>simp[hp] at h
 | some o =>
  cases o with
  | none=>simp[hp] at h
  | some ad =>
   cases b with
   | none=>simp[hp] at h
   | some bl =>
    simp only[hp] at h
    cases hs:ef P t ad (ρ x) bl with
    | none=>simp[hs,jb] at h
    | some c =>
     simp only[hs,jb,Option.some.injEq,Prod.mk.injEq] at h
     obtain⟨rfl,rfl⟩:=h
     have e:=bb hp
     have hb':=hb ad.block (by rw[e]; rfl)
     have hva:=hρ a
     rw[e] at hva
     obtain⟨w',h1,h2,h3⟩:=nW hs hva (hρ x) hr hb'.symm
     have ht:bh (ρ a)=some ad.block:=by rw[e]; rfl
     refine⟨undef,w',μ,.inr ⟨by simp[execOp,h1],rfl⟩,.plain rfl,?_,aX.refl _,fun _ _=>rfl,h3⟩
     simpa[cI,ht] using h2
include hρ hr in
theorem nil_ok (x:Operand) {id:Option Nat} {v:Value} {eff:Eff} {b:Option Blk} (h:fl x P nx type ρ b=some (v,eff)):aA P ρ' ⟨dst,.nilCheck x,type,pos,after,guard⟩ μ B hh w nx id v eff:=by
 unfold fl nL at h
 have hx:=hρ x
 cases hp:asP (ρ x) with
 | some o =>
  cases o with
  | none=> 
   have e:=bb hp
   rw[e] at h
   simp[asP,asF] at h
  | some ad =>
   simp only[hp,Option.some.injEq,Prod.mk.injEq] at h
   obtain⟨rfl,rfl⟩:=h
   have e:=bb hp
   rw[e] at hx ⊢
   obtain⟨_,L,hL,e'⟩:=hx.ptrS
   refine aA.stay hr ?_ hx
   rw[e']
   simp[execOp,e']
 | none =>
  cases hf:asF (ρ x) with
  | none=>simp[hp,hf] at h
  | some q =>
   obtain⟨f,c,d⟩:=q
   cases f<;>simp[hp,hf] at h
   obtain⟨rfl,rfl⟩:=h
   have e:=nF hf
   rw[e] at hx ⊢
   obtain⟨c',d',e',_⟩:=hx.funcI
   refine aA.stay hr ?_ hx
   rw[e']
   simp[execOp,e']
include hρ hr in
theorem nZ (t:TypeId) (x:Operand) {id:Option Nat} {v:Value} {eff:Eff} {b:Option Blk} (h:cF t x P nx type ρ b=some (v,eff)):aA P ρ' ⟨dst,.makeInterface t x,type,pos,after,guard⟩ μ B hh w nx id v eff:=by
 unfold cF jc at h
 cases hu:P.underlying t with
 | none=>simp[hu] at h
 | some d =>
  cases d<;>simp[hu] at h
  all_goals
   obtain⟨rfl,rfl⟩:=h
   exact aA.stay hr (by simp[execOp,Instr.makeInterface,run_underlying hu]) (.iface (hρ x))
theorem jl (l:Array Operand) (hρ: ∀x,VR μ (ρ x) (ρ' x)) (k:Nat) (x y:Value) (h1:(l.toList.map ρ).toArray[k]? = some x) (h2:(l.map ρ')[k]? = some y):VR μ x y:=by
 simp only[List.getElem?_toArray,List.getElem?_map,Array.getElem?_toList,Array.getElem?_map] at h1 h2
 cases e:l[k]? with
 | none=>simp[e] at h1
 | some o=>simp[e] at h1 h2; subst h1; subst h2; exact hρ o
include hρ hr in
theorem func_ok (fn:Fn) (a c:Array Operand) {id:Option Nat}:aA P ρ' ⟨dst,.makeFunc fn a c,type,pos,after,guard⟩ μ B hh w nx id (.func fn (a.toList.map ρ).toArray (c.toList.map ρ).toArray) .none :=
 aA.stay hr (v':= .func fn (a.map ρ') (c.map ρ')) rfl (.func (by simp) (jl a hρ) (by simp) (jl c hρ))
include hρ hr in
theorem la (t:Operand) (i:Nat) {id:Option Nat} {v:Value} {eff:Eff} {b:Option Blk} (h:gf t i P nx type ρ b=some (v,eff)):aA P ρ' ⟨dst,.extract t i,type,pos,after,guard⟩ μ B hh w nx id v eff:=by
 unfold gf at h
 have hq:=aN h
 clear h
 obtain⟨h,rfl⟩:=hq
 unfold dG at h
 cases ht:asT (ρ t) with
 | none=>simp[ht] at h
 | some vs =>
  simp only[ht,aO] at h
  have hx:=hρ t
  rw[nE ht] at hx
  obtain⟨ys,e,hs,hk⟩:=hx.tupleI
  have hv:vs[i]? = some v:=by simpa using h
  have hlt:i<ys.size:=by rw[← hs]; exact(Array.getElem?_eq_some_iff.1 hv).1
  have hy:ys[i]? = some ys[i]:=Array.getElem?_eq_getElem hlt
  exact aA.stay hr (by simp[execOp,Instr.extract,e,hlt]) (hk i v _ hv hy)
theorem eO {s:TypeId} {f off n:Nat} {ty:TypeId} (h:fieldAt P s f=some (off,n,ty)): ∃fs d,P.underlying s=some (.struct fs)∧fs[f]? = some d∧aU P d.type=some n∧d.offset=off∧d.type=ty:=by
 unfold fieldAt at h
 cases hu:P.underlying s with
 | none=>simp[hu] at h
 | some u =>
  cases u<;>simp[hu] at h
  rename_i fs
  cases hd:fs[f]? with
  | none=>simp[hd] at h
  | some d =>
   simp only[hd] at h
   cases hn:aU P d.type with
   | none=>simp[hn] at h
   | some m=>simp[hn] at h; exact⟨fs,d,rfl,hd,by rw[hn,h.2.1],h.1,h.2.2⟩
theorem dX (b o n:Nat):(⟨b,o,none⟩:Addr).add n=⟨b,o+n,none⟩:=Addr.add_mid b o n
include hρ hr in
theorem jm (s:TypeId) (x:Operand) (f:Nat) {id:Option Nat} {v:Value} {eff:Eff} {b:Option Blk} (h:br s x f P nx type ρ b=some (v,eff)):aA P ρ' ⟨dst,.fieldAddr s x f,type,pos,after,guard⟩ μ B hh w nx id v eff:=by
 unfold br at h
 have hq:=aN h
 clear h
 obtain⟨h,rfl⟩:=hq
 unfold f7 at h
 cases hp:asP (ρ x) with
 | none=>simp[hp] at h
 | some o =>
  cases o with
  | none=>simp[hp] at h
  | some a =>
   simp only[hp] at h
   cases hf:fieldAt P s f with
   | none=>simp[hf,faP] at h
   | some q =>
    obtain⟨off,n,ty⟩:=q
    simp only[hf,faP] at h
    cases hn:Nat.beq n 0
    ·have hx:=hρ x
     rw[bb hp] at hx
     obtain⟨hs,L,hL,e⟩:=hx.ptrS
     simp only[hn,cond_false,hs,Option.some.injEq] at h
     subst h
     obtain⟨fs,d,h1,h2,h3,h4,h5⟩:=eO hf
     have hn0:n≠0:=nbN hn
     refine aA.stay hr (v':= .pointer (some ⟨L.blk,L.off+(a.off+off),none⟩)) ?_ (.ptr hL)
     simp[execOp,e,Instr.fieldAt,run_underlying h1,h2,Instr.sureAddr,fieldPlace,bi h3,hn0,dX,h4,Nat.add_assoc]
    ·rw[hn] at h; cases h
theorem gp {t:TypeId} {n:Nat} (h:dB P t=some n): ∃e,P.underlying t=some (.slice e)∧aU P e=some n:=by
 unfold dB at h
 cases hu:P.underlying t with
 | none=>simp[hu] at h
 | some u=>cases u<;>simp[hu] at h; exact⟨_,rfl,h⟩
theorem gq {t:TypeId} {len n:Nat} (h:iE P t=some (len,n)): ∃e,P.underlying t=some (.array len e)∧aU P e=some n:=by
 unfold iE at h
 cases hu:P.underlying t with
 | none=>simp[hu] at h
 | some u =>
  cases u<;>simp[hu] at h
  rename_i l e
  cases hn:aU P e with
  | none=>simp[hn] at h
  | some m=>simp[hn] at h; exact⟨e,by rw[h.1],by rw[hn,h.2]⟩
include hρ hr in
theorem jo (t:TypeId) (x i:Operand) {id:Option Nat} {v:Value} {eff:Eff} {b:Option Blk} (h:bs t x i P nx type ρ b=some (v,eff)):aA P ρ' ⟨dst,.indexAddr t x i,type,pos,after,guard⟩ μ B hh w nx id v eff:=by
 unfold bs at h
 have hq:=aN h
 clear h
 obtain⟨h,rfl⟩:=hq
 unfold f9 at h
 cases hi':asI (ρ i) with
 | none=>simp[hi'] at h
 | some q =>
  obtain⟨kd,j⟩:=q
  simp only[hi'] at h
  have hxi:=hρ i
  rw[cB hi'] at hxi
  have ei:=hxi.int
  unfold iaI at h
  cases hS:dB P t with
  | some n =>
   simp only[hS] at h
   obtain⟨e,h1,h2⟩:=gp hS
   unfold iaS at h
   cases hx:ci (ρ x) with
   | none=>simp[hx] at h
   | some q =>
    obtain⟨a,len,c⟩:=q
    cases a with
    | none=>simp[hx] at h
    | some a =>
     simp only[hx,mG] at h
     split at h
     ·rename_i hj
      obtain rfl:=Option.some.inj h
      have hxx:=hρ x
      rw[bx hx] at hxx
      obtain⟨hs,hc⟩:=hxx.sliceS
      rcases hc with⟨L,c',hL,hle,hcap,e'⟩ | ⟨h0,_⟩
      ·refine aA.stay hr (v':= .pointer (some ⟨L.blk,L.off+(a.off+j.toNat*n),none⟩)) ?_ (.ptr hL)
       simp[execOp,ei,e',Instr.indexAt,asIntOf,run_underlying h1,hj,bi h2,dX,Nat.add_assoc]
      ·omega
     ·cases h
  | none =>
   simp only[hS] at h
   cases hA:iE P t with
   | none =>
    unfold iaA at h
    rw[hA] at h
    cases hx:asP (ρ x) with
    | none=>simp[hx] at h
    | some o=>cases o<;>simp[hx] at h
   | some q =>
    obtain⟨len,n⟩:=q
    obtain⟨e,h1,h2⟩:=gq hA
    unfold iaA at h
    rw[hA] at h
    cases hx:asP (ρ x) with
    | none=>simp[hx] at h
    | some o =>
     cases o with
     | none=>simp[hx] at h
     | some a =>
      have hxx:=hρ x
      rw[bb hx] at hxx
      obtain⟨hs,L,hL,e'⟩:=hxx.ptrS
      simp only[hx,hs,mG] at h
      split at h
      ·rename_i hj
       obtain rfl:=Option.some.inj h
       refine aA.stay hr (v':= .pointer (some ⟨L.blk,L.off+(a.off+j.toNat*n),none⟩)) ?_ (.ptr hL)
       simp[execOp,ei,e',Instr.indexAt,asIntOf,run_underlying h1,Instr.sureAddr,hj,bi h2,dX,Nat.add_assoc]
      ·cases h
end
end Go.Proofs.YtjcbhbncncbdjaaGreatDoorAi
namespace Go.Proofs.YtjcbhbncncbdjaaGreatDoorAi
open Go Go.RowKit
set_option linter.unusedVariables false
set_option linter.unusedSimpArgs false
set_option linter.unnecessarySimpa false
set_option linter.unusedSectionVars false
theorem mL (off:Nat): ∀(l:List Value) (n:Nat) (cs:Array Value),(l.zipIdx n).foldl (fun cs (p:Value×Nat)=>cs.setIfInBounds (off+p.2) p.1) cs=bv cs (off+n) l:=by
 intro l
 induction l with
 | nil=>intro n cs; rfl
 | cons v l ih =>
  intro n cs
  simp only[List.zipIdx_cons,List.foldl_cons,bv]
  rw[ih]
  rfl
theorem lb (off:Nat) (v:Array Value) (cs:Array Value):(v.zipIdx.foldl (fun cs (p:Value×Nat)=>cs.setIfInBounds (off+p.2) p.1) cs)=bv cs off v.toList:=by
 rw[← Array.foldl_toList,Array.toList_zipIdx,mL]
 rfl
def CR (μ:Mu) (cs:List Value) (cc:Array Value):Prop:=cs.length=cc.size∧ ∀(k:Nat) (x:Value),cs[k]? = some x→ ∃y,cc[k]? = some y∧VR μ x y∧y.oneCell'=true
theorem CR.put {μ:Mu} {cs:List Value} {cc:Array Value} (h:CR μ cs cc) (o:Nat) (r r':List Value) (hl:r.length=r'.length)
  (hv: ∀(k:Nat) (x y:Value),r[k]? = some x→r'[k]? = some y→VR μ x y∧y.oneCell'=true):CR μ (setCells cs o r) (bv cc o r'):=by
 refine⟨by rw[bM,dI]; exact h.1,fun k x hk=>?_⟩
 have:=l7 (L:=0) r r' hl hv cs cc o (by have:=h.1; omega) (fun k x hk=>by simpa using h.2 k x hk) k x hk
 simpa using this
def PR (μ:Mu) (ps ps':List (Nat×Value)):Prop:=ps.length=ps'.length∧ ∀(k:Nat) (p q:Nat×Value),ps[k]? = some p→ps'[k]? = some q→p.1=q.1∧VR μ p.2 q.2
theorem gr {μ:Mu} {place:Nat→Option (Nat×Nat)}: ∀(ps ps':List (Nat×Value)) (cs:List Value) (cc:Array Value) (l:List Value),PR μ ps ps'→CR μ cs cc→dg place cs ps=some l →
  ∃cc',Instr.fill place cc ps'=some cc'∧CR μ l cc':=by
 intro ps
 induction ps with
 | nil =>
  intro ps' cs cc l hp hc h
  cases ps' with
  | nil=>simp only[dg,Option.some.injEq] at h; subst h; exact⟨cc,rfl,hc⟩
  | cons=>have:=hp.1; simp at this
 | cons p ps ih =>
  intro ps' cs cc l hp hc h
  cases ps' with
  | nil=>have:=hp.1; simp at this
  | cons q ps' =>
   obtain⟨i,v⟩:=p
   obtain⟨i',v'⟩:=q
   obtain⟨e,hv⟩:=hp.2 0 _ _ rfl rfl
   simp only at e hv
   subst e
   simp only[dg] at h
   cases hpl:place i with
   | none=>simp[hpl] at h
   | some os =>
    obtain⟨off,size⟩:=os
    simp only[hpl] at h
    cases hb:Nat.beq v.cells.size size&&Nat.ble (off+v.cells.size) cs.length&&v.cells.toList.all one
    ·rw[hb] at h; cases h
    ·rw[hb] at h
     simp only[cond_true] at h
     simp only[Bool.and_eq_true] at hb
     obtain⟨⟨h1,h2⟩,h3⟩:=hb
     have h1:=nbT h1
     have h2:=Nat.le_of_ble_eq_true h2
     obtain⟨k1,k2⟩:=hv.cells h3
     have hc':=hc.put off v.cells.toList v'.cells.toList (by simp[k1]) (fun k x y a b=>k2 k x y (by simpa using a) (by simpa using b))
     obtain⟨cc',h4,h5⟩:=ih ps' _ _ l ⟨by simpa using hp.1,fun k p q a b=>hp.2 (k+1) p q (by simpa using a) (by simpa using b)⟩ hc' h
     refine⟨cc',?_,h5⟩
     have n1: ¬ (v'.cells.size≠size):=by omega
     have n2: ¬ (off+v'.cells.size>cc.size):=by have:=hc.1; omega
     simp only[Instr.fill,hpl]
     rw[if_neg (by simp; omega)]
     rw[lb]
     exact h4
theorem jp {place:Nat→Option (Nat×Nat)}: ∀(ps:List (Nat×Value)) (cs l:List Value),dg place cs ps=some l→l.length=cs.length:=by
 intro ps
 induction ps with
 | nil=>intro cs l h; simp only[dg,Option.some.injEq] at h; rw[h]
 | cons p ps ih =>
  intro cs l h
  obtain⟨i,v⟩:=p
  simp only[dg] at h
  cases hpl:place i with
  | none=>simp[hpl] at h
  | some os =>
   obtain⟨off,size⟩:=os
   simp only[hpl] at h
   cases hb:Nat.beq v.cells.size size&&Nat.ble (off+v.cells.size) cs.length&&v.cells.toList.all one
   ·rw[hb] at h; cases h
   ·rw[hb] at h
    have:=ih _ _ h
    rw[this,bM]
theorem CR.flat {μ:Mu} {z:List Value} (h: ∀x∈z,flat x=true) {cc:Array Value} (hc:cc.toList=z):CR μ z cc:=by
 refine⟨by rw[← hc]; simp,fun k x hx=>?_⟩
 have hy:cc[k]? = some x:=by rw[← hc] at hx; simpa using hx
 obtain⟨a,b⟩:=go (μ:=μ) h hc k x x hx hy
 exact⟨x,hy,a,b⟩
theorem CR.agg {μ:Mu} {cs:List Value} {cc:Array Value} (h:CR μ cs cc):VR μ (.agg cs.toArray) (.agg cc):=by
 refine .agg (by simpa using h.1) fun k x y a b=>?_
 obtain⟨z,c,d,_⟩:=h.2 k x (by simpa using a)
 rw[b] at c
 obtain rfl:=Option.some.inj c
 exact d
theorem n6 {α β:Type} {P:Program} (w:World) (f:α→Sem β) (g:α→β): ∀(l:List α),(∀x∈l,(f x).run P w= .ok (g x) w)→(l.mapM f).run P w= .ok (l.map g) w:=by
 intro l
 induction l with
 | nil=>intro _; simp
 | cons x l ih =>
  intro h
  simp[List.mapM_cons,h x (by simp),ih fun y hy=>h y (by simp[hy])]
theorem jq {α β:Type} {P:Program} (w:World) (f:α→Sem β) (g:α→β) (a:Array α) (h: ∀x∈a,(f x).run P w= .ok (g x) w):(a.mapM f).run P w= .ok (a.map g) w:=by
 rw[Array.mapM_eq_mapM_toList]
 rw[Sem.run_map,n6 w f g a.toList (fun x hx=>h x (by simpa using hx))]
 simp only[Result.andThen_ok]
 congr 1
 apply Array.ext'
 simp
section
variable {P:Program} {ρ ρ':Operand→Value} {dst:Option Tmp} {type:TypeId} {pos:String} {after:Array Edge} {guard:Option (Nat×Bool)} {μ:Mu} {B:Nat} {hh:Nat→Option Blk} {w:World} {nx:Nat}
variable (hρ: ∀x,VR μ (ρ x) (ρ' x)) (hr:HR μ B hh w.heap) (hi:μ nx=none) (hB:B≤w.heap.size)
theorem iM (ps:Array (Nat×Operand)) (hρ: ∀x,VR μ (ρ x) (ρ' x)):PR μ (ps.toList.map fun p=>(p.1,ρ p.2)) (ps.map fun(i,x)=>(i,ρ' x)).toList:=by
 refine⟨by simp,fun k p q a b=>?_⟩
 simp only[List.getElem?_map,Array.toList_map] at a b
 cases e:ps.toList[k]? with
 | none=>simp[e] at a
 | some x=>simp[e] at a b; subst a; subst b; exact⟨rfl,hρ _⟩
theorem lc {p q:Nat→Option (Nat×Nat)} (h: ∀i,p i=q i) (cs:Array Value) (ps:List (Nat×Value)):Instr.fill p cs ps=Instr.fill q cs ps:=by rw[show p=q from funext h]
theorem lg: ∀(fs:List Field) (l:List (Nat×Nat)),cC P fs=some l→(fs.mapM fun f=>(do pure (f.offset,← sizeOf f.type):Sem (Nat×Nat))).run P w= .ok l w:=by
 intro fs
 induction fs with
 | nil=>intro l h; simp only[cC,Option.some.injEq] at h; subst h; simp
 | cons f fs ih =>
  intro l h
  simp only[cC] at h
  cases hn:aU P f.type with
  | none=>simp[hn] at h
  | some n =>
   cases hl:cC P fs with
   | none=>simp[hn,hl] at h
   | some l' =>
    simp only[hn,hl,Option.some.injEq] at h
    subst h
    rw[List.mapM_cons]
    simp only[Sem.run_bind,bi hn,Result.andThen_ok,Sem.run_pure]
    have:=ih l' hl
    rw[this]
    rfl
theorem mM {t:TypeId} {ps:List (Nat×Value)} {ps':Array (Nat×Value)} {v:Value} (h:f6 P t ps=some v) (hp:PR μ ps ps'.toList): ∃v',(Instr.build t ps').run P w= .ok v' w∧VR μ v v':=by
 unfold f6 at h
 cases hz:aS P t with
 | none=>simp[hz] at h
 | some z =>
  obtain⟨i,zv,h1,h2,h3,h4⟩:=cn hz
  have hc:CR μ z zv.cells:=CR.flat h4 h3
  simp only[hz] at h
  cases hu:P.underlying t with
  | none=>simp[hu,bldU] at h
  | some u =>
   cases u<;>simp[hu,bldU] at h
   ·rename_i len e
    cases hn:aU P e with
    | none=>simp[hn,bldA] at h
    | some n =>
     simp only[hn,bldA] at h
     cases hl:dg (fun i=>some (i*n,n)) z ps with
     | none=>simp[hl,iD] at h
     | some l =>
      simp only[hl,iD,Option.some.injEq] at h
      subst h
      obtain⟨cc',h5,h6⟩:=gr _ _ _ _ _ hp hc hl
      refine⟨_,?_,h6.agg⟩
      simp[Instr.build,eN h1 h2,run_underlying hu,bi hn,h5]
   ·rename_i fs
    cases hpl:cC P fs.toList with
    | none=>simp[hpl,bldS] at h
    | some pl =>
     simp only[hpl,bldS] at h
     cases hl:dg (nth pl) z ps with
     | none=>simp[hl,iD] at h
     | some l =>
      simp only[hl,iD,Option.some.injEq] at h
      subst h
      obtain⟨cc',h5,h6⟩:=gr _ _ _ _ _ hp hc hl
      refine⟨_,?_,h6.agg⟩
      have hm:(fs.mapM fun f=>(do pure (f.offset,← sizeOf f.type):Sem (Nat×Nat))).run P w= .ok pl.toArray w:=by
       rw[Array.mapM_eq_mapM_toList,Sem.run_map,lg _ _ hpl]
       rfl
      have hfc:Instr.fill (fun i=>pl.toArray[i]?) zv.cells ps'.toList=some cc':=by
       rw[lc (q:=nth pl) (fun i=>by rw[aO]; simp)]
       exact h5
      simp only[Instr.build,Sem.run_bind,eN h1 h2,Result.andThen_ok,run_underlying hu,hm,hfc,Sem.run_pure]
include hρ hr in
theorem n7 (t:TypeId) (ps:Array (Nat×Operand)) {id:Option Nat} {v:Value} {eff:Eff} {b:Option Blk} (h:kT t ps P nx type ρ b=some (v,eff)):aA P ρ' ⟨dst,.build t ps,type,pos,after,guard⟩ μ B hh w nx id v eff:=by
 unfold kT at h
 have hq:=aN h
 clear h
 obtain⟨h,rfl⟩:=hq
 obtain⟨v',h1,h2⟩:=mM (w:=w) h (iM ps hρ)
 exact aA.stay hr (by simp only[execOp,Sem.run_bind,h1,Result.andThen_ok,Sem.run_pure]) h2
theorem co (z:List Value): ∀n,(iq z n).length=n*z.length:=by
 intro n
 induction n with
 | zero=>simp[iq]
 | succ n ih=>simp[iq,ih,Nat.succ_mul]; omega
theorem gu (z:List Value) (hz:0<z.length): ∀n k,k<n*z.length→(iq z n)[k]? = z[k % z.length]? := by
 intro n
 induction n with
 | zero=>intro k h; simp at h
 | succ n ih =>
  intro k h
  simp only[iq]
  rw[List.getElem?_append]
  split
  ·rename_i hk; rw[Nat.mod_eq_of_lt hk]
  ·rename_i hk
   have hs:=Nat.add_mul n 1 z.length
   rw[ih _ (by omega)]
   congr 1
   exact(Nat.mod_eq_sub_mod (by omega)).symm
theorem l8 {z:List Value} {cc:Array Value} (hf: ∀x∈z,flat x=true) (hc:cc.toList=z) (hz:0<z.length) (n m:Nat) (hm:m=n*z.length) :
  CR μ (iq z n) ((Array.range m).map (cc[· % cc.size]!)):=by
 subst hc
 refine⟨by rw[co]; simp[hm],fun k x hk=>?_⟩
 have hlt:k<n*cc.toList.length:=by have:=(List.getElem?_eq_some_iff.1 hk).1; rwa [co] at this
 rw[gu cc.toList hz n k hlt] at hk
 have hmod:k % cc.size<cc.size:=Nat.mod_lt _ (by simpa using hz)
 have hy:cc[k % cc.size]? = some x:=by simpa using hk
 obtain⟨a,b⟩:=go (μ:=μ) hf rfl _ x x (by simpa using hy) hy
 refine⟨x,?_,a,b⟩
 have hkm:k<m:=by omega
 simp only[Array.getElem?_map,Array.getElem?_range,hkm,if_true,Option.map_some,Option.some.injEq]
 rw[getElem!_pos cc _ hmod]
 exact(Array.getElem?_eq_some_iff.1 hy).2
theorem ew (f:Nat→Value):(Array.range 0).map f= #[]:=Array.eq_empty_of_size_eq_zero (by simp)
include hρ hr hi hB in
theorem iu (t:TypeId) (len:Nat) (ps:Array (Nat×Operand)) {id:Option Nat} {v:Value} {eff:Eff} {b:Option Blk} (h:cj t len ps P nx type ρ b=some (v,eff)):aA P ρ' ⟨dst,.buildSlice t len ps,type,pos,after,guard⟩ μ B hh w nx id v eff:=by
 unfold cj bp at h
 cases hu:P.underlying t with
 | none=>simp[hu] at h
 | some u =>
  cases u<;>simp only[hu] at h
  all_goals try (cases h; done)
  rename_i e
  cases hn:aU P e with
  | none=>simp[hn] at h
  | some n =>
   cases hz:aS P e with
   | none=>simp[hn,hz] at h
   | some z =>
    simp only[hn,hz] at h
    cases hb:Nat.ble 1 n&&Nat.beq z.length n&&Nat.ble (len*n) 16777216
    ·rw[hb] at h; cases h
    ·rw[hb] at h
     simp only[cond_true,Option.map_eq_some_iff,Prod.mk.injEq] at h
     obtain⟨l,hl,rfl,rfl⟩:=h
     simp only[Bool.and_eq_true] at hb
     obtain⟨⟨h1,h2⟩,h3⟩:=hb
     have h1:=Nat.le_of_ble_eq_true h1
     have h2:=nbT h2
     have h3:=Nat.le_of_ble_eq_true h3
     obtain⟨i,zv,k1,k2,k3,k4⟩:=cn hz
     have hc:=l8 (μ:=μ) k4 k3 (by omega) len (len*n) (by rw[h2])
     obtain⟨cc',h5,h6⟩:=gr _ _ _ _ _ (iM ps hρ) hc hl
     have hsz:zv.cells.size=n:=by rw[← h2,← k3]; simp
     refine aA.fresh (L:=⟨w.heap.size,0,cc'.size,n⟩) (v':= .slice (some ⟨w.heap.size,0,none⟩) len len) (w':=w.alloc (.cells cc' e)) hr hi hB ?_ rfl rfl rfl rfl rfl ?_ ?_
     ·have hrun:(Instr.buildSlice t len (ps.map fun(i,x)=>(i,ρ' x))).run P w= .ok (.slice (some ⟨w.heap.size,0,none⟩) len len) (w.alloc (.cells cc' e)):=by
       unfold Instr.buildSlice
       simp only[Sem.run_bind,run_underlying hu,Result.andThen_ok,bi hn]
       rw[if_neg (by omega)]
       by_cases h0:len*n=0
       ·rw[h0,ew] at h5
        simp only[Sem.run_bind,Sem.run_pure,Result.andThen_ok,h0,if_true,ew,h5]
        rfl
       ·simp only[Sem.run_bind,Sem.run_pure,Result.andThen_ok,if_neg h0,eN k1 k2,h5]
        rfl
      simp only[execOp,Sem.run_bind,hrun,Result.andThen_ok,Sem.run_pure]
     ·exact BR.newRow _ hB (by rw[h6.1]; exact Nat.le_refl _) (fun k x y a b=>by obtain⟨z,c,d,f⟩:=h6.2 k x a; rw[b] at c; obtain rfl:=Option.some.inj c; exact⟨d,f⟩) (bn hi) (by simp) (fun hz=>by omega)
     ·have:=VR.slice (μ:=bA μ nx ⟨w.heap.size,0,cc'.size,n⟩) (i:=nx) (o:=0) (n:=len) (z:=n) (c':=len) (aM _ _ _) (Nat.le_refl _) (.inr ⟨rfl,by have:=h6.1; have h7:=jp _ _ _ hl; rw[co,h2] at h7; simp; omega⟩)
      simpa using this
include hρ hr hi hB in
theorem jr (t:TypeId) (l c:Operand) {id:Option Nat} {v:Value} {eff:Eff} {b:Option Blk} (h:cE t l c P nx type ρ b=some (v,eff)):aA P ρ' ⟨dst,.makeSlice t l c,type,pos,after,guard⟩ μ B hh w nx id v eff:=by
 unfold cE cD at h
 cases hl:asI (ρ l) with
 | none=>simp[hl] at h
 | some q =>
  obtain⟨k1,l0⟩:=q
  cases hc:asI (ρ c) with
  | none=>simp[hl,hc] at h
  | some q =>
   obtain⟨k2,c0⟩:=q
   cases k1<;>cases k2<;>simp only[hl,hc] at h
   all_goals try (cases h; done)
   unfold dE at h
   cases hu:P.underlying t with
   | none=>simp[hu] at h
   | some u =>
    cases u<;>simp only[hu] at h
    all_goals try (cases h; done)
    rename_i e
    cases hie:P.info? e with
    | none=>simp[hie] at h
    | some i =>
     cases hz:aS P e with
     | none=>simp[hie,hz] at h
     | some z =>
      simp only[hie,hz] at h
      split at h
      ·rename_i hcond
       obtain⟨c1,c2,c3,c4,c5,c6⟩:=hcond
       simp only[Option.some.injEq,Prod.mk.injEq] at h
       obtain⟨rfl,rfl⟩:=h
       obtain⟨i',zv,j1,j2,j3,j4⟩:=cn hz
       rw[hie] at j1
       obtain rfl:=Option.some.inj j1
       have e1:=hρ l
       rw[cB hl] at e1
       have e1:=e1.int
       have e2:=hρ c
       rw[cB hc] at e2
       have e2:=e2.int
       have w1:IntKind.i64.wrap l0=l0:=by simp[IntKind.wrap,IntKind.bits,IntKind.signed]; omega
       have w2:IntKind.i64.wrap c0=c0:=by simp[IntKind.wrap,IntKind.bits,IntKind.signed]; omega
       have hsz:zv.cells.size=i.size:=by rw[← c6,← j3]; simp
       have hcr:=l8 (μ:=μ) j4 j3 (by omega) c0.toNat (c0.toNat*i.size) (by rw[c6])
       have hlc:l0.toNat≤c0.toNat:=by omega
       refine aA.fresh (L:=⟨w.heap.size,0,((Array.range (c0.toNat*i.size)).map (zv.cells[· % zv.cells.size]!)).size,i.size⟩) (v':= .slice (some ⟨w.heap.size,0,none⟩) l0.toNat c0.toNat) (w':=w.alloc (.cells ((Array.range (c0.toNat*i.size)).map (zv.cells[· % zv.cells.size]!)) e)) hr hi hB ?_ rfl rfl rfl rfl rfl ?_ ?_
       ·have n1: ¬ (c0<0):=by omega
        have n2: ¬ (281474976710656<(i.bytes:Int)*c0):=by rw[Int.mul_comm]; omega
        have n3: ¬ (l0<0):=by omega
        have n4: ¬ (c0<l0):=by omega
        by_cases h0:c0.toNat*i.size=0
        ·have hc0:c0.toNat=0:=(Nat.mul_eq_zero.1 h0).resolve_right (by omega)
         simp[execOp,Instr.makeSlice,run_underlying hu,e1,e2,asInt,asIntOf,typeInfo,hie,w1,w2,n1,n2,n3,n4,sizeOf,hc0,newRow,ew]
        ·simp[execOp,Instr.makeSlice,run_underlying hu,e1,e2,asInt,asIntOf,typeInfo,hie,w1,w2,n1,n2,n3,n4,sizeOf,h0,zeroValue,j2,newRow]
       ·refine BR.newRow _ hB ?_ ?_ (bn hi) (by simp) (fun hz=>by omega)
        ·rw[co]; simp[c6]; exact Nat.mul_le_mul_right _ hlc
        ·intro k x y a b
         have hk:k<l0.toNat*z.length:=by have:=(List.getElem?_eq_some_iff.1 a).1; rwa [co] at this
         have hk':k<c0.toNat*z.length:=Nat.lt_of_lt_of_le hk (Nat.mul_le_mul_right _ hlc)
         rw[gu z (by omega) _ _ hk,← gu z (by omega) c0.toNat k hk'] at a
         obtain⟨z',p,q,r⟩:=hcr.2 k x a
         rw[b] at p
         obtain rfl:=Option.some.inj p
         exact⟨q,r⟩
       ·have:=VR.slice (μ:=bA μ nx ⟨w.heap.size,0,((Array.range (c0.toNat*i.size)).map (zv.cells[· % zv.cells.size]!)).size,i.size⟩) (i:=nx) (o:=0) (n:=l0.toNat) (z:=i.size) (c':=c0.toNat) (aM _ _ _) hlc (.inr ⟨rfl,by simp⟩)
        simpa using this
      ·cases h
end
end Go.Proofs.YtjcbhbncncbdjaaGreatDoorAi
namespace Go.Proofs.YtjcbhbncncbdjaaGreatDoorAi
open Go Go.RowKit
set_option linter.unusedVariables false
set_option linter.unusedSimpArgs false
set_option linter.unnecessarySimpa false
set_option linter.unusedSectionVars false
theorem a8 {o:Option Value} {v:Value} (h:aK o=some v):o=some v∧plain v=true:=by
 cases o with
 | none=>cases h
 | some u =>
  simp only[aK,Option.bind_some] at h
  cases hp:plain u
  ·rw[hp] at h; cases h
  ·rw[hp] at h; simp only[cond_true,Option.some.injEq] at h; subst h; exact⟨rfl,hp⟩
theorem lh: ∀(x y:List UInt8),eqB x y=(x==y):=by
 intro x
 induction x with
 | nil=>intro y; cases y<;>rfl
 | cons a x ih =>
  intro y
  cases y with
  | nil=>rfl
  | cons b y =>
   simp only[eqB,List.cons_beq_cons]
   rw[ih]
   by_cases h:a=b
   ·subst h; simp
   ·have:Nat.beq a.toNat b.toNat=false:=nbF fun e=>h (UInt8.toNat_inj.1 e)
    simp[this,h]
theorem jt {P:Program} {op:BinOp} {t:TypeId} {x y:Operand} {k k':IntKind} {a b:Int} {w:World}:(eqGuard op t x y (.int k a) (.int k' b)).run P w= .ok () w:=by
 unfold eqGuard
 cases op<;>rfl
theorem ju {P:Program} {op:BinOp} {t:TypeId} {x y:Operand} {a b:ByteArray} {w:World}:(eqGuard op t x y (.string a) (.string b)).run P w= .ok () w:=by
 unfold eqGuard
 cases op<;>rfl
theorem aInt_ok {P:Program} {op:BinOp} {t:TypeId} {k k':IntKind} {a b:Int} {v:Value} {w:World} (h:jZ op k a k' b=some v):(binOp op t (.int k a) (.int k' b)).run P w= .ok v w:=by
 have kk: ∀{α:Type} {x:α} {v:α},(bif Nat.beq (kdN k) (kdN k') then some x else none)=some v→k=k'∧x=v:=by
  intro α x v h
  cases hb:Nat.beq (kdN k) (kdN k')
  ·rw[hb] at h; cases h
  ·rw[hb] at h; exact⟨kdN_inj (nbT hb),Option.some.inj h⟩
 cases op<;>simp only[jZ,ga,jY,iF,iQuo,iRem,iShl,iShr] at h
 case add=>obtain⟨rfl,rfl⟩:=kk h; simp[binOp,Op.intArith]<;>rfl
 case sub=>obtain⟨rfl,rfl⟩:=kk h; simp[binOp,Op.intArith]<;>rfl
 case mul=>obtain⟨rfl,rfl⟩:=kk h; simp[binOp,Op.intArith]<;>rfl
 case quo =>
  split at h
  ·cases h
  ·rename_i hb; obtain⟨rfl,rfl⟩:=kk h; simp[binOp,Op.intDiv,hb]
 case rem =>
  split at h
  ·cases h
  ·rename_i hb; obtain⟨rfl,rfl⟩:=kk h; simp[binOp,Op.intDiv,hb]
 case and=>obtain⟨rfl,rfl⟩:=kk h; simp[binOp,Op.intBits]
 case or=>obtain⟨rfl,rfl⟩:=kk h; simp[binOp,Op.intBits]
 case xor=>obtain⟨rfl,rfl⟩:=kk h; simp[binOp,Op.intBits]
 case andNot=>obtain⟨rfl,rfl⟩:=kk h; simp[binOp,Op.intBits]
 case shl =>
  split at h
  ·cases h
  ·rename_i hb; obtain rfl:=Option.some.inj h; simp[binOp,Op.shift,hb]
 case shr =>
  split at h
  ·cases h
  ·rename_i hb; obtain rfl:=Option.some.inj h; simp[binOp,Op.shift,hb]
 all_goals (obtain⟨rfl,rfl⟩:=kk h; simp[binOp,Op.intCmp])
theorem li {P:Program} {op:BinOp} {t:TypeId} {a b:ByteArray} {v:Value} {w:World} (h:dr op a b=some v):(binOp op t (.string a) (.string b)).run P w= .ok v w:=by
 cases op<;>simp only[dr,sAdd,sEq,sNe,sNo,reduceCtorEq] at h
 case add =>
  split at h
  ·rename_i hle
   obtain rfl:=Option.some.inj h
   have hmax:IntKind.i64.max=9223372036854775807:=rfl
   have n1: ¬ ((9223372036854775807:Int)<(a.size:Int)+(b.size:Int)):=by omega
   simp[binOp,Op.stringOp,hmax,n1]
  ·cases h
 all_goals (obtain rfl:=Option.some.inj h; simp[binOp,Op.stringOp,lh,ByteArray.toList_eq])
theorem eP {v:Value} {b:Bool} (h:eg v=some b):(b=true∧v= .nilFunc)∨(b=false∧ ∃f x y,v= .func f x y):=by
 cases v<;>first | (cases h; done) | (obtain rfl:=Option.some.inj h; first | exact .inl ⟨rfl,rfl⟩ | exact .inr ⟨rfl,_,_,_,rfl⟩)
theorem eQ {v:Value} {b:Bool} (h:eh v=some b):(b=true∧v= .nilIface)∨(b=false∧ ∃t x,v= .iface t x):=by
 cases v<;>first | (cases h; done) | (obtain rfl:=Option.some.inj h; first | exact .inl ⟨rfl,rfl⟩ | exact .inr ⟨rfl,_,_,rfl⟩)
theorem eqP_ok {P:Program} {t e:TypeId} {a b:Option Addr} {a' b':Value} {c:Bool} {μ:Mu} {w:World} (d:Nat) (hu:P.underlying t=some (.pointer e)) (h:eqP P e (some a) (some b)=some c) (ha:VR μ (.pointer a) a') (hb:VR μ (.pointer b) b') :
  (Op.equalIn (d+1) t a' b').run P w= .ok c w:=by
 cases a with
 | none =>
  have:=ha.ptrN; subst this
  simp only[eqP,Option.some.injEq] at h
  subst h
  cases b with
  | none=>have:=hb.ptrN; subst this; simp[Op.equalIn,run_underlying hu]
  | some q=>obtain⟨_,L,_,e⟩:=hb.ptrS; subst e; simp[Op.equalIn,run_underlying hu]
 | some p =>
  obtain⟨s1,L,hL,e1⟩:=ha.ptrS
  subst e1
  cases b with
  | none =>
   have:=hb.ptrN; subst this
   simp only[eqP,Option.some.injEq] at h
   subst h
   simp[Op.equalIn,run_underlying hu]
  | some q =>
   obtain⟨s2,M,hM,e2⟩:=hb.ptrS
   subst e2
   simp only[eqP] at h
   cases hn:aU P e with
   | none=>simp[hn] at h
   | some n =>
    simp only[hn] at h
    cases h0:Nat.beq n 0
    ·simp only[h0,cond_false] at h
     cases hbk:Nat.beq p.block q.block&&p.spot.isNone&&q.spot.isNone
     ·rw[hbk] at h; cases h
     ·rw[hbk] at h
      simp only[cond_true,Option.some.injEq] at h
      subst h
      simp only[Bool.and_eq_true] at hbk
      have hpq:=nbT hbk.1.1
      rw[hpq,hM] at hL
      obtain rfl:=Option.some.inj hL
      have hn0:n≠0:=nbN h0
      have ho:((⟨M.blk,M.off+p.off,none⟩:Addr)==⟨M.blk,M.off+q.off,none⟩)=(p.off==q.off):=by
       rw[Bool.eq_iff_iff]; simp
      simp[Op.equalIn,run_underlying hu,bi hn,hn0,sameAddr,ho]
    ·rw[h0] at h; cases h
theorem eqSl_ok {P:Program} {t e:TypeId} {a b:Option Addr} {n m n' m':Nat} {a' b':Value} {c:Bool} {μ:Mu} {w:World} (d:Nat) (hu:P.underlying t=some (.slice e)) (h:fk (some (a,n,m)) (some (b,n',m'))=some c) (ha:VR μ (.slice a n m) a') (hb:VR μ (.slice b n' m') b') :
  (Op.equalIn (d+1) t a' b').run P w= .ok c w:=by
 cases a with
 | none =>
  have:=ha.sliceN; subst this
  simp only[fk,Option.some.injEq] at h
  subst h
  cases b with
  | none=>have:=hb.sliceN; subst this; simp[Op.equalIn,run_underlying hu]
  | some q =>
   obtain⟨_,hc⟩:=hb.sliceS
   rcases hc with⟨L,c',_,_,_,e⟩ | ⟨_,q',e⟩<;>subst e<;>simp[Op.equalIn,run_underlying hu]
 | some p =>
  cases b with
  | none =>
   have:=hb.sliceN; subst this
   simp only[fk,Option.some.injEq] at h
   subst h
   obtain⟨_,hc⟩:=ha.sliceS
   rcases hc with⟨L,c',_,_,_,e⟩ | ⟨_,q',e⟩<;>subst e<;>simp[Op.equalIn,run_underlying hu]
  | some q=>simp[fk] at h
theorem n8 {P:Program} {t:TypeId} {a b a' b':Value} {c:Bool} {μ:Mu} {w:World} (h:cW P t a b=some c) (ha:VR μ a a') (hb:VR μ b b'):(Op.equal t a' b').run P w= .ok c w:=by
 show(Op.equalIn (9999+1) t a' b').run P w= .ok c w
 generalize 9999=d
 unfold cW at h
 cases hu:P.underlying t with
 | none=>simp[hu] at h
 | some u =>
  cases u<;>simp only[hu] at h
  all_goals try (cases h; done)
  ·rename_i e
   cases h1:asP a with
   | none=>simp[h1,eqP] at h
   | some p =>
    cases h2:asP b with
    | none=>rw[h1,h2] at h; cases p<;>simp[eqP] at h
    | some q =>
     rw[h1,h2] at h
     rw[bb h1] at ha
     rw[bb h2] at hb
     exact eqP_ok d hu h ha hb
  ·rename_i e
   cases h1:ci a with
   | none=>simp[h1,fk] at h
   | some p =>
    obtain⟨p,n,m⟩:=p
    cases h2:ci b with
    | none=>rw[h1,h2] at h; cases p<;>simp[fk] at h
    | some q =>
     obtain⟨q,n',m'⟩:=q
     rw[h1,h2] at h
     rw[bx h1] at ha
     rw[bx h2] at hb
     exact eqSl_ok d hu h ha hb
  ·cases h1:eg a with
   | none=>simp[h1,d5] at h
   | some p =>
    cases h2:eg b with
    | none=>rw[h1,h2] at h; cases p<;>simp[d5] at h
    | some q =>
     rw[h1,h2] at h
     rcases eP h1 with⟨rfl,rfl⟩ | ⟨rfl,f,x,y,rfl⟩<;>rcases eP h2 with⟨rfl,rfl⟩ | ⟨rfl,f',x',y',rfl⟩<;>simp[d5] at h<;>subst h
     ·have:=ha.plainI rfl; subst this; have:=hb.plainI rfl; subst this; simp[Op.equalIn,run_underlying hu]
     ·have:=ha.plainI rfl; subst this; obtain⟨_,_,e,_⟩:=hb.funcI; subst e; simp[Op.equalIn,run_underlying hu]
     ·have:=hb.plainI rfl; subst this; obtain⟨_,_,e,_⟩:=ha.funcI; subst e; simp[Op.equalIn,run_underlying hu]
  ·cases h1:eh a with
   | none=>simp[h1,d5] at h
   | some p =>
    cases h2:eh b with
    | none=>rw[h1,h2] at h; cases p<;>simp[d5] at h
    | some q =>
     rw[h1,h2] at h
     rcases eQ h1 with⟨rfl,rfl⟩ | ⟨rfl,f,x,rfl⟩<;>rcases eQ h2 with⟨rfl,rfl⟩ | ⟨rfl,f',x',rfl⟩<;>simp[d5] at h<;>subst h
     ·have:=ha.plainI rfl; subst this; have:=hb.plainI rfl; subst this; simp[Op.equalIn,run_underlying hu]
     ·have:=ha.plainI rfl; subst this; obtain⟨_,e,_⟩:=hb.ifaceI; subst e; simp[Op.equalIn,run_underlying hu]
     ·have:=hb.plainI rfl; subst this; obtain⟨_,e,_⟩:=ha.ifaceI; subst e; simp[Op.equalIn,run_underlying hu]
end Go.Proofs.YtjcbhbncncbdjaaGreatDoorAi
namespace Go.Proofs.YtjcbhbncncbdjaaGreatDoorAi
open Go Go.RowKit
set_option linter.unusedVariables false
set_option linter.unusedSimpArgs false
set_option linter.unnecessarySimpa false
set_option linter.unusedSectionVars false
section
variable {P:Program} {ρ ρ':Operand→Value} {dst:Option Tmp} {type:TypeId} {pos:String} {after:Array Edge} {guard:Option (Nat×Bool)} {μ:Mu} {B:Nat} {hh:Nat→Option Blk} {w:World} {nx:Nat}
variable (hρ: ∀x,VR μ (ρ x) (ρ' x)) (hr:HR μ B hh w.heap) (hi:μ nx=none) (hB:B≤w.heap.size)
theorem iN {op:BinOp} {t:TypeId} {x y:Operand} {a b a' b':Value} {c:Bool} (h:cW P t a b=some c) (ha:VR μ a a') (hb:VR μ b b') (hp:(plain a&&plain b)=false):(eqGuard op t x y a' b').run P w= .ok () w:=by
 have key: ∀a' b':Value,(∀c d,a'= .agg c→b'= .agg d→False)→(a'= .nilIface→b'= .nilIface→False)→(eqGuard op t x y a' b').run P w= .ok () w:=by
  intro a' b' h1 h2
  unfold eqGuard
  cases op<;>first | rfl | (cases a'<;>cases b'<;>first | rfl | exact(h1 _ _ rfl rfl).elim | exact(h2 rfl rfl).elim)
 unfold cW at h
 refine key a' b' (fun c d e1 e2=>?_) (fun e1 e2=>?_)
 ·subst e1; subst e2
  have aggs: ∀{v:Value} {c:Array Value},VR μ v (.agg c)→(∃xs,v= .agg xs)∨ ∃n,v= .map (some n):=by
   intro v c h
   cases h with
   | plain _=>exact .inl ⟨_,rfl⟩
   | some1 h=>simp[Value.oneCell'] at h
   | any=>exact .inr ⟨_,rfl⟩
   | agg _ _=>exact .inl ⟨_,rfl⟩
  rcases aggs ha with⟨xs,rfl⟩ | ⟨n,rfl⟩<;>(cases hu:P.underlying t with
   | none=>simp[hu] at h
   | some u=>cases u<;>simp[hu,asP,ci,eg,eh,eqP,fk,d5] at h)
 ·subst e1; subst e2
  have nils: ∀{v:Value},VR μ v .nilIface→v= .nilIface∨(∃n,v= .chan (some n))∨ ∃n,v= .map (some n):=by
   intro v h
   cases h with
   | plain _=>exact .inl rfl
   | some1 h=>exact .inr (.inl ⟨_,rfl⟩)
   | any=>exact .inr (.inr ⟨_,rfl⟩)
  rcases nils ha with rfl | ⟨n,rfl⟩ | ⟨n,rfl⟩
  ·rcases nils hb with rfl | ⟨n,rfl⟩ | ⟨n,rfl⟩
   ·simp[plain,flat] at hp
   ·cases hu:P.underlying t with
    | none=>simp[hu] at h
    | some u=>cases u<;>simp[hu,asP,ci,eg,eh,eqP,fk,d5] at h
   ·cases hu:P.underlying t with
    | none=>simp[hu] at h
    | some u=>cases u<;>simp[hu,asP,ci,eg,eh,eqP,fk,d5] at h
  all_goals
   cases hu:P.underlying t with
   | none=>simp[hu] at h
   | some u=>cases u<;>simp[hu,asP,ci,eg,eh,eqP,fk,d5] at h
theorem iO {t:TypeId} {a b a' b':Value} {c:Bool} (h:cW P t a b=some c) (ha:VR μ a a') (hb:VR μ b b') :
  (binOp .eql t a' b').run P w= .ok (.bool c) w∧(binOp .neq t a' b').run P w= .ok (.bool (!c)) w:=by
 have he:=n8 (w:=w) h ha hb
 have shape:(∃p q,a'= .pointer p∧b'= .pointer q)∨(∃p n m q n' m',a'= .slice p n m∧b'= .slice q n' m')∨(∃x y,eg x=some y∧a'=x∧(∃z,eg b'=some z))∨(∃x y,eh x=some y∧a'=x∧ ∃z,eh b'=some z):=by
  unfold cW at h
  cases hu:P.underlying t with
  | none=>simp[hu] at h
  | some u =>
   cases u<;>simp only[hu] at h
   all_goals try (cases h; done)
   ·cases h1:asP a with
    | none=>simp[h1,eqP] at h
    | some p =>
     cases h2:asP b with
     | none=>rw[h1,h2] at h; cases p<;>simp[eqP] at h
     | some q =>
      rw[bb h1] at ha
      rw[bb h2] at hb
      left
      cases p<;>cases q
      ·exact⟨_,_,ha.ptrN,hb.ptrN⟩
      ·obtain⟨_,L,_,e⟩:=hb.ptrS; exact⟨_,_,ha.ptrN,e⟩
      ·obtain⟨_,L,_,e⟩:=ha.ptrS; exact⟨_,_,e,hb.ptrN⟩
      ·obtain⟨_,L,_,e⟩:=ha.ptrS; obtain⟨_,L',_,e'⟩:=hb.ptrS; exact⟨_,_,e,e'⟩
   ·cases h1:ci a with
    | none=>simp[h1,fk] at h
    | some p =>
     obtain⟨p,n,m⟩:=p
     cases h2:ci b with
     | none=>rw[h1,h2] at h; cases p<;>simp[fk] at h
     | some q =>
      obtain⟨q,n',m'⟩:=q
      rw[bx h1] at ha
      rw[bx h2] at hb
      right; left
      have sl: ∀{p:Option Addr} {n m:Nat} {v:Value},VR μ (.slice p n m) v→ ∃p n m,v= .slice p n m:=by
       intro p n m v h
       cases p with
       | none=>exact⟨_,_,_,h.sliceN⟩
       | some p=>obtain⟨_,hc⟩:=h.sliceS; rcases hc with⟨L,c',_,_,_,e⟩ | ⟨_,q',e⟩<;>exact⟨_,_,_,e⟩
      obtain⟨x1,x2,x3,e1⟩:=sl ha
      obtain⟨y1,y2,y3,e2⟩:=sl hb
      exact⟨_,_,_,_,_,_,e1,e2⟩
   ·have fn: ∀{v v':Value} {b:Bool},eg v=some b→VR μ v v'→eg v'=some b:=by
     intro v v' b h hv
     rcases eP h with⟨rfl,rfl⟩ | ⟨rfl,f,x,y,rfl⟩
     ·have:=hv.plainI rfl; subst this; rfl
     ·obtain⟨_,_,e,_⟩:=hv.funcI; subst e; rfl
    cases h1:eg a with
    | none=>simp[h1,d5] at h
    | some p =>
     cases h2:eg b with
     | none=>rw[h1,h2] at h; cases p<;>simp[d5] at h
     | some q=>exact .inr (.inr (.inl ⟨a',p,fn h1 ha,rfl,q,fn h2 hb⟩))
   ·have fn: ∀{v v':Value} {b:Bool},eh v=some b→VR μ v v'→eh v'=some b:=by
     intro v v' b h hv
     rcases eQ h with⟨rfl,rfl⟩ | ⟨rfl,f,x,rfl⟩
     ·have:=hv.plainI rfl; subst this; rfl
     ·obtain⟨_,e,_⟩:=hv.ifaceI; subst e; rfl
    cases h1:eh a with
    | none=>simp[h1,d5] at h
    | some p =>
     cases h2:eh b with
     | none=>rw[h1,h2] at h; cases p<;>simp[d5] at h
     | some q=>exact .inr (.inr (.inr ⟨a',p,fn h1 ha,rfl,q,fn h2 hb⟩))
 rcases shape with⟨p,q,rfl,rfl⟩ | ⟨p,n,m,q,n',m',rfl,rfl⟩ | ⟨x,y,hx,rfl,z,hz⟩ | ⟨x,y,hx,rfl,z,hz⟩
 ·exact⟨by simp[binOp,he],by simp[binOp,he]⟩
 ·exact⟨by simp[binOp,he],by simp[binOp,he]⟩
 ·rcases eP hx with⟨_,rfl⟩ | ⟨_,f,x,y,rfl⟩<;>rcases eP hz with⟨_,rfl⟩ | ⟨_,f',x',y',rfl⟩<;>exact⟨by simp[binOp,he],by simp[binOp,he]⟩
 ·rcases eQ hx with⟨_,rfl⟩ | ⟨_,f,x,rfl⟩<;>rcases eQ hz with⟨_,rfl⟩ | ⟨_,f',x',rfl⟩<;>exact⟨by simp[binOp,he],by simp[binOp,he]⟩
include hρ hr in
theorem bin_ok (op:BinOp) (t:TypeId) (x y:Operand) (u:TypeId) {id:Option Nat} {v:Value} {eff:Eff} {b:Option Blk} (h:oBin op t x y u P nx type ρ b=some (v,eff)):aA P ρ' ⟨dst,.binOp op t x y u,type,pos,after,guard⟩ μ B hh w nx id v eff:=by
 unfold oBin at h
 have hq:=aN h
 clear h
 obtain⟨h,rfl⟩:=hq
 have hx:=hρ x
 have hy:=hρ y
 have close: ∀{v':Value},(eqGuard op t x y (ρ' x) (ρ' y)).run P w= .ok () w→(binOp op t (ρ' x) (ρ' y)).run P w= .ok v' w→VR μ v v'→aA P ρ' ⟨dst,.binOp op t x y u,type,pos,after,guard⟩ μ B hh w nx id v .none:=by
  intro v' h1 h2 h3
  exact aA.stay hr (by simp only[execOp,Sem.run_bind,h1,Result.andThen_ok,h2,Sem.run_pure]) h3
 have intPlain: ∀{k k':IntKind} {m n:Int},jZ op k m k' n=some v→plain v=true:=by
  intro k k' m n h
  cases op<;>simp only[jZ,ga,jY,iF,iQuo,iRem,iShl,iShr] at h
  all_goals
   (repeat' split at h)
   all_goals first
    | (cases h; done)
    | (obtain rfl:=Option.some.inj h; rfl)
    | (cases hb:Nat.beq (kdN k) (kdN k')<;>rw[hb] at h<;>first | (cases h; done) | (obtain rfl:=Option.some.inj h; rfl))
 have strPlain: ∀{a b:ByteArray},dr op a b=some v→plain v=true:=by
  intro a b h
  cases op<;>simp only[dr,sAdd,sEq,sNe,sNo,reduceCtorEq] at h
  all_goals
   (repeat' split at h)
   all_goals first
    | (cases h; done)
    | (obtain rfl:=Option.some.inj h; rfl)
 have gen:bGen P op t x y (ρ x) (ρ y)=some v→aA P ρ' ⟨dst,.binOp op t x y u,type,pos,after,guard⟩ μ B hh w nx id v .none:=by
  intro h
  unfold bGen at h
  cases hp:plain (ρ x)&&plain (ρ y)
  ·rw[hp] at h
   simp only[cond_false] at h
   cases op<;>simp only[reduceCtorEq] at h
   ·simp only[Option.map_eq_some_iff] at h
    obtain⟨c,hc,rfl⟩:=h
    exact close (iN hc hx hy hp) (iO hc hx hy).1 (.plain rfl)
   ·simp only[Option.map_eq_some_iff] at h
    obtain⟨c,hc,rfl⟩:=h
    exact close (iN hc hx hy hp) (iO hc hx hy).2 (.plain rfl)
  ·rw[hp] at h
   simp only[cond_true] at h
   obtain⟨h1,h2⟩:=a8 h
   simp only[Bool.and_eq_true] at hp
   have e1:=hx.plainI hp.1
   have e2:=hy.plainI hp.2
   have hrun:=bQ h1 w
   rw[← e1,← e2] at hrun
   refine aA.stay hr ?_ (.plain h2)
   simp only[execOp]
   rw[Sem.run_bind,hrun]
   rfl
 unfold gb at h
 cases h1:asI (ρ x) with
 | some p =>
  obtain⟨k,m⟩:=p
  cases h2:asI (ρ y) with
  | some q =>
   obtain⟨k',n⟩:=q
   simp only[h1,h2] at h
   have e1:=hx
   rw[cB h1] at e1
   have e1:=e1.int
   have e2:=hy
   rw[cB h2] at e2
   have e2:=e2.int
   exact close (by rw[e1,e2]; exact jt) (by rw[e1,e2]; exact aInt_ok h) (.plain (intPlain h))
  | none =>
   simp only[h1,h2] at h
   have hs:asS (ρ x)=none:=by rw[cB h1]; rfl
   simp only[hs] at h
   exact gen h
 | none =>
  simp only[h1] at h
  cases h3:asS (ρ x) with
  | none=>simp only[h3] at h; exact gen h
  | some s =>
   cases h4:asS (ρ y) with
   | none=>simp only[h3,h4] at h; exact gen h
   | some s' =>
    simp only[h3,h4] at h
    have e1:=hx
    rw[ee h3] at e1
    have e1:=e1.string
    have e2:=hy
    rw[ee h4] at e2
    have e2:=e2.string
    exact close (by rw[e1,e2]; exact ju) (by rw[e1,e2]; exact li h) (.plain (strPlain h))
include hρ hr in
theorem un_ok (op:UnOp) (t:TypeId) (x:Operand) {id:Option Nat} {v:Value} {eff:Eff} {b:Option Blk} (h:oUn op t x P nx type ρ b=some (v,eff)):aA P ρ' ⟨dst,.unOp op t x,type,pos,after,guard⟩ μ B hh w nx id v eff:=by
 unfold oUn at h
 have hq:=aN h
 clear h
 obtain⟨h,rfl⟩:=hq
 have hx:=hρ x
 have gen:(bif plain (ρ x) then aK (aF P (Op.unary op (ρ x))) else none)=some v→aA P ρ' ⟨dst,.unOp op t x,type,pos,after,guard⟩ μ B hh w nx id v .none:=by
  intro h
  cases hp:plain (ρ x)
  ·rw[hp] at h; cases h
  ·rw[hp] at h
   obtain⟨h1,h2⟩:=a8 h
   have e1:=hx.plainI hp
   have hrun:=bQ h1 w
   rw[← e1] at hrun
   exact aA.stay hr (by simp only[execOp,Sem.run_bind,hrun,Result.andThen_ok,Sem.run_pure]) (.plain h2)
 unfold unV at h
 cases hb:asB (ρ x) with
 | none=>simp only[hb] at h; exact gen (by cases op<;>exact h)
 | some c =>
  cases op
  case not =>
   simp only[hb,Option.some.injEq] at h
   subst h
   have e1:=hx
   rw[i9 hb] at e1
   have e1:=e1.bool
   exact aA.stay hr (by simp[execOp,e1,Op.unary]) (.plain rfl)
  all_goals
   simp only[hb] at h
   exact gen h
include hρ hr in
theorem n9 (t:TypeId) (x:Operand) (f:Nat) {id:Option Nat} {v:Value} {eff:Eff} {b:Option Blk} (h:fp t x f P nx type ρ b=some (v,eff)):aA P ρ' ⟨dst,.field t x f,type,pos,after,guard⟩ μ B hh w nx id v eff:=by
 unfold fp at h
 have hq:=aN h
 clear h
 obtain⟨h,rfl⟩:=hq
 unfold kR at h
 cases ha:asA (ρ x) with
 | none=>simp[ha] at h
 | some cs =>
  simp only[ha] at h
  cases hf:fieldAt P t f with
  | none=>simp[hf,fdA] at h
  | some q =>
   obtain⟨off,n,ty⟩:=q
   simp only[hf,fdA] at h
   obtain⟨fs,d,h1,h2,h3,rfl,rfl⟩:=eO hf
   have hx:=hρ x
   rw[asA_of ha] at hx
   obtain⟨ys,e,hs,hk⟩:=hx.aggI
   cases hu:P.underlying d.type with
   | none=>simp[hu] at h
   | some u =>
    simp only[hu] at h
    cases hag:df u
    ·simp only[hag,cond_false,aO] at h
     have hv:cs[d.offset]? = some v:=by simpa using h
     have hlt:d.offset<ys.size:=by rw[← hs]; exact(Array.getElem?_eq_some_iff.1 hv).1
     exact aA.stay hr (by simp[execOp,e,Instr.field,run_underlying h1,h2,asAgg,part,jj hu,hag,hlt]) (hk _ v _ hv (Array.getElem?_eq_getElem hlt))
    ·simp only[hag,cond_true] at h
     cases ht:aR cs.toList d.offset n with
     | none=>simp[ht] at h
     | some l =>
      simp only[ht,Option.some.injEq] at h
      subst h
      obtain⟨hle,hl,hln⟩:=bu ht
      refine aA.stay hr (v':= .agg (ys.extract d.offset (d.offset+n))) (by simp[execOp,e,Instr.field,run_underlying h1,h2,asAgg,part,jj hu,hag,bi h3]) (.agg ?_ fun k x y a b=>?_)
      ·simp only[List.size_toArray,Array.size_extract]
       rw[hln,← hs]
       simp at hle
       omega
      ·have hkn:k<n:=by have:=(List.getElem?_eq_some_iff.1 (by simpa using a:l[k]? = some x)).1; omega
       refine hk (d.offset+k) x y ?_ ?_
       ·have:l[k]? = some x:=by simpa using a
        rw[hl,List.getElem?_take,if_pos hkn,List.getElem?_drop] at this
        simpa using this
       ·rw[Array.getElem?_extract] at b
        split at b
        ·exact b
        ·cases b
include hρ hr in
theorem oa (t:TypeId) (x i:Operand) {id:Option Nat} {v:Value} {eff:Eff} {b:Option Blk} (h:kV t x i P nx type ρ b=some (v,eff)):aA P ρ' ⟨dst,.index t x i,type,pos,after,guard⟩ μ B hh w nx id v eff:=by
 unfold kV at h
 have hq:=aN h
 clear h
 obtain⟨h,rfl⟩:=hq
 have hx:=hρ x
 have hy:=hρ i
 have gen:(bif plain (ρ x)&&plain (ρ i) then aK (aF P (Instr.index t (ρ x) (ρ i))) else none)=some v→aA P ρ' ⟨dst,.index t x i,type,pos,after,guard⟩ μ B hh w nx id v .none:=by
  intro h
  cases hp:plain (ρ x)&&plain (ρ i)
  ·rw[hp] at h; cases h
  ·rw[hp] at h
   obtain⟨h1,h2⟩:=a8 h
   simp only[Bool.and_eq_true] at hp
   have hrun:=bQ h1 w
   rw[← hx.plainI hp.1,← hy.plainI hp.2] at hrun
   exact aA.stay hr (by simp only[execOp,Sem.run_bind,hrun,Result.andThen_ok,Sem.run_pure]) (.plain h2)
 unfold ge at h
 cases hs:asS (ρ x) with
 | none=>simp only[hs] at h; exact gen h
 | some s =>
  cases hn:asI (ρ i) with
  | none=>simp only[hs,hn] at h; exact gen h
  | some q =>
   obtain⟨k,n⟩:=q
   simp only[hs,hn] at h
   cases hst:bq P t
   ·rw[hst] at h; cases h
   ·rw[hst] at h
    simp only[cond_true,gd] at h
    have hu:P.underlying t=some .string:=by
     unfold bq at hst
     cases hu:P.underlying t with
     | none=>simp[hu] at hst
     | some u=>cases u<;>simp[hu] at hst; rfl
    split at h
    ·rename_i h0
     rw[aO] at h
     cases hc:s.data.toList[n.toNat]? with
     | none=>simp[hc] at h
     | some c =>
      simp only[hc,Option.some.injEq] at h
      subst h
      have e1:=hx
      rw[ee hs] at e1
      have e1:=e1.string
      have e2:=hy
      rw[cB hn] at e2
      have e2:=e2.int
      have hc':s[n.toNat]? = some c:=by
       obtain⟨hlt,he⟩:=List.getElem?_eq_some_iff.1 hc
       have hlt':n.toNat<s.size:=by simpa using hlt
       rw[getElem?_pos s n.toNat hlt']
       rw[← he]
       rfl
      exact aA.stay hr (by simp[execOp,e1,e2,Instr.index,asIntOf,run_underlying hu,h0,hc']) (.plain rfl)
    ·cases h
end
end Go.Proofs.YtjcbhbncncbdjaaGreatDoorAi
namespace Go.Proofs.YtjcbhbncncbdjaaGreatDoorAi
open Go Go.RowKit
set_option linter.unusedVariables false
set_option linter.unusedSimpArgs false
set_option linter.unnecessarySimpa false
set_option linter.unusedSectionVars false
theorem kh {α:Type} (a:Array α) (x:α) (f:α→α):(a.push x).modify a.size f=a.push (f x):=by
 apply Array.ext_getElem?
 intro i
 rw[Array.getElem?_modify,Array.getElem?_push,Array.getElem?_push]
 by_cases h:i=a.size
 ·subst h; simp
 ·have:a.size≠i:=fun e=>h e.symm
  simp[h,this]
section
variable {P:Program} {ρ ρ':Operand→Value} {dst:Option Tmp} {type:TypeId} {pos:String} {after:Array Edge} {guard:Option (Nat×Bool)} {μ:Mu} {B:Nat} {hh:Nat→Option Blk} {w:World} {nx:Nat}
variable (hρ: ∀x,VR μ (ρ x) (ρ' x)) (hr:HR μ B hh w.heap) (hi:μ nx=none) (hB:B≤w.heap.size)
theorem eR {e:TypeId} (h:cV P e=true):P.underlying e=some (.int .u8)∧aU P e=some 1:=by
 unfold cV at h
 rw[Bool.and_eq_true] at h
 obtain⟨h1,h2⟩:=h
 constructor
 ·cases hu:P.underlying e with
  | none=>simp[hu] at h1
  | some u =>
   cases u<;>simp[hu] at h1
   rename_i k
   cases k<;>simp at h1
   rfl
 ·cases hn:aU P e with
  | none=>simp[hn] at h2
  | some n=>simp only[hn] at h2; rw[nbT h2]
theorem eS (s:ByteArray) (k:Nat) (x:Value) (h:(bH s)[k]? = some x):flat x=true∧ ∃b:UInt8,s.data[k]? = some b∧x= .int .u8 b.toNat:=by
 unfold bH at h
 rw[List.getElem?_map] at h
 cases e:s.data.toList[k]? with
 | none=>simp[e] at h
 | some b=>simp[e] at h; subst h; exact⟨rfl,b,by simpa using e,rfl⟩
theorem jv: ∀(l:List Value) (r:List UInt8),bf l=some r→ ∃ns:List Int,l=ns.map (Value.int .u8)∧r=ns.map fun n=>UInt8.ofNat n.toNat:=by
 intro l
 induction l with
 | nil=>intro r h; simp only[bf,Option.some.injEq] at h; subst h; exact⟨[],rfl,rfl⟩
 | cons v l ih =>
  intro r h
  simp only[bf] at h
  cases hb:lS v with
  | none=>simp[hb] at h
  | some b =>
   cases hl:bf l with
   | none=>simp[hb,hl] at h
   | some r' =>
    simp only[hb,hl,Option.some.injEq] at h
    subst h
    obtain⟨ns,h1,h2⟩:=ih r' hl
    unfold lS at hb
    cases ha:asI v with
    | none=>simp[ha] at hb
    | some q =>
     obtain⟨k,n⟩:=q
     cases k<;>simp only[ha,reduceCtorEq,Option.some.injEq] at hb
     refine⟨n::ns,by rw[h1,cB ha]; rfl,by rw[h2,← hb]; rfl⟩
theorem lj (ns:List Int): ∀(acc:ByteArray),ns.foldl (fun r n=>r.push (UInt8.ofNat n.toNat)) acc=⟨acc.data++(ns.map fun n=>UInt8.ofNat n.toNat).toArray⟩:=by
 induction ns with
 | nil=>intro acc; simp
 | cons n ns ih =>
  intro acc
  simp only[List.foldl_cons,ih,List.map_cons]
  congr 1
  apply Array.ext'
  simp[ByteArray.push]
theorem ki {L:Loc} {cs l:List Value} {r:List UInt8} {e:TypeId} {z off n:Nat} {own:Bool} (hb:BR μ B L w.heap (.row cs e z own)) (hl:aR cs off n=some l) (hx:bf l=some r) :
  ∃ns:List Int,ns.length=n∧r=(ns.map fun n=>UInt8.ofNat n.toNat)∧w.rangeAt L.blk (L.off+off) (ns.map (Value.int .u8)):=by
 obtain⟨l',h1,h2,h3,h4⟩:=eM hb hl
 obtain⟨ns,k1,k2⟩:=jv l r hx
 have hln:=(bu hl).2.2
 subst k1
 have hns:ns.length=n:=by simpa using hln
 refine⟨ns,hns,k2,?_⟩
 have:l'=ns.map (Value.int .u8):=by
  apply List.ext_getElem?
  intro k
  by_cases hk:k<n
  ·have a:(ns.map (Value.int .u8))[k]? = some (.int .u8 (ns[k]'(by omega))):=by rw[List.getElem?_map,List.getElem?_eq_getElem (by omega)]; rfl
   have b:l'[k]? = some (l'[k]'(by omega)):=List.getElem?_eq_getElem (by omega)
   have hv:=h3 k _ _ a b
   rw[a,b,hv.int]
  ·rw[List.getElem?_eq_none (by omega),List.getElem?_eq_none (by rw[List.length_map]; omega)]
 rw[← this]
 exact h2
theorem fJ {nx:Nat} {s d:TypeId} {x:Value} {b:Option Blk} {r:Value×Eff} (hp:plain x=false) (h:aZ P nx s d x b=some r):cx P nx s d x b=some r:=by
 unfold aZ at h
 split at h
 ·rename_i e; rw[e]; exact h
 ·simp[cvG,hp] at h
include hρ hr hB in
theorem ll (s d:TypeId) (x:Operand) {v:Value} {eff:Eff} {b:Option Blk} (hnew: ∀b',eff= .new b'→μ nx=none) (h:gc s d x P nx type ρ b=some (v,eff)) (hb: ∀i,bh (ρ x)=some i→b=hh i) :
  aA P ρ' ⟨dst,.convert s d x,type,pos,after,guard⟩ μ B hh w nx (bh (ρ x)) v eff:=by
 unfold gc aZ at h
 have hx:=hρ x
 cases h0:cx P nx s d (ρ x) b with
 | none =>
  simp only[h0,cvG] at h
  cases hp:plain (ρ x)
  ·simp[hp] at h
  ·rw[hp,cond_true] at h
   cases hq:aK (aF P (convert s d (ρ x))) with
   | none=>simp[hq] at h
   | some u =>
    simp only[hq,Option.some.injEq,Prod.mk.injEq] at h
    obtain⟨rfl,rfl⟩:=h
    obtain⟨h1,h2⟩:=a8 hq
    have e1:=hx.plainI hp
    have hrun:=bQ h1 w
    rw[← e1] at hrun
    exact aA.stay hr (by simp only[execOp,Sem.run_bind,hrun,Result.andThen_ok,Sem.run_pure]) (.plain h2)
 | some r0 =>
 simp only[h0,Option.some.injEq] at h
 subst h
 have h:=h0
 clear h0
 unfold cx at h
 have close: ∀{v v':Value},(convert s d (ρ' x)).run P w= .ok v' w→VR μ v v'→aA P ρ' ⟨dst,.convert s d x,type,pos,after,guard⟩ μ B hh w nx (bh (ρ x)) v .none:=fun h1 h2 =>
  aA.stay hr (by simp only[execOp,Sem.run_bind,h1,Result.andThen_ok,Sem.run_pure]) h2
 cases h1:asI (ρ x) with
 | some q =>
  obtain⟨k,n⟩:=q
  simp only[h1,cvI] at h
  have e:=hx
  rw[cB h1] at e
  have e:=e.int
  cases hs:P.underlying s with
  | none=>simp[hs] at h
  | some us =>
   cases us<;>simp only[hs,reduceCtorEq] at h
   cases hd:P.underlying d with
   | none=>simp[hd] at h
   | some ud =>
    cases ud<;>simp only[hd,reduceCtorEq,Option.some.injEq,Prod.mk.injEq] at h
    obtain⟨rfl,rfl⟩:=h
    refine close ?_ (.plain rfl)
    rw[e]
    simp[convert,run_underlying hs,run_underlying hd,Conv.intToInt]
 | none =>
  simp only[h1] at h
  cases h2:asS (ρ x) with
  | some str =>
   simp only[h2,cvS] at h
   have e:=hx
   rw[ee h2] at e
   have e:=e.string
   cases hs:P.underlying s with
   | none=>simp[hs] at h
   | some us =>
    cases us<;>simp only[hs,reduceCtorEq] at h
    cases hd:P.underlying d with
    | none=>simp[hd] at h
    | some ud =>
     cases ud<;>simp only[hd,reduceCtorEq] at h
     ·simp only[Option.some.injEq,Prod.mk.injEq] at h
      obtain⟨rfl,rfl⟩:=h
      refine close ?_ (.plain rfl)
      rw[e]
      simp[convert,run_underlying hs,run_underlying hd]
     ·rename_i el
      cases hbt:cV P el
      ·rw[hbt] at h; cases h
      ·rw[hbt] at h
       simp only[cond_true,Option.some.injEq,Prod.mk.injEq] at h
       obtain⟨rfl,rfl⟩:=h
       have hi:=hnew _ rfl
       obtain⟨hue,hse⟩:=eR hbt
       generalize hcap:(Question.appendCap str.size 0 el).cut (w.tape w.drawn (Question.appendCap str.size 0 el))=cap
       have hle:str.size≤cap:=by rw[← hcap]; simp only[Question.cut]; omega
       generalize hcc:(str.data.map fun b=>Value.int .u8 b.toNat)++Array.replicate (cap-str.size) (Value.int .u8 0)=cc
       have hccs:cc.size=cap:=by rw[← hcc]; simp; have:str.data.size=str.size:=rfl; omega
       refine aA.fresh (L:=⟨w.heap.size,0,cc.size,1⟩) (v':= .slice (some ⟨w.heap.size,0,none⟩) str.size cap) (ob:= .cells cc el (cap,cap+1))
        (w':=(w.drew.alloc (.cells cc el)).freeze ⟨w.heap.size,cap,none⟩ 1) hr hi hB ?_ ?_ rfl rfl rfl rfl ?_ ?_
       ·rw[show execOp ρ' ⟨dst,.convert s d x,type,pos,after,guard⟩=(do pure (.value (← convert s d (ρ' x)))) from rfl,e]
        have hshape:(w.drew.alloc (.cells cc el)).shape? w.heap.size=some (el,cap):=by
         unfold World.shape?
         have:(w.drew.alloc (.cells cc el)).heap[w.heap.size]? = some (.cells cc el (0,0)):=by
          show(w.heap.push (.cells cc el))[w.heap.size]? = _
          simp
         rw[this]
         simp[hccs]
        have hrun:(Conv.stringToBytes el str).run P w= .ok (.slice (some ⟨w.heap.size,0,none⟩) str.size cap) ((w.drew.alloc (.cells cc el)).freeze ⟨w.heap.size,cap,none⟩ 1):=by
         unfold Conv.stringToBytes
         simp only[Sem.run_bind,run_choose,Question.forced,Bool.false_eq_true,if_false,hcap,Result.andThen_ok,hcc,newRow,run_newObj,Sem.run_pure,markStringish,run_shape]
         have:({ heap:=w.heap.push (.cells cc el),tape:=w.tape,drawn:=w.drawn+1,os:=w.os,output:=w.output }:World)=w.drew.alloc (.cells cc el):=rfl
         rw[this,hshape]
         simp only[run_freeze,Result.andThen_ok,Sem.run_pure]
        simp only[convert,Sem.run_bind,run_underlying hs,run_underlying hd,Result.andThen_ok,run_underlying hue,hrun,Sem.run_pure]
       ·unfold World.freeze
        rw[if_neg (by decide)]
        have hm:=kh w.heap (Obj.cells cc el) (fun | .cells c elem (lo,hi)=> .cells c elem (if lo==hi then(cap,cap+1) else(min lo cap,max hi (cap+1))) | o=>o)
        simp only at hm
        exact hm.trans (by simp)
       ·refine BR.newRow _ hB ?_ ?_ (bn hi) (by intro o ho; rw[hccs] at ho; simp; omega) (by simp)
        ·rw[hccs]; simp[bH]; exact hle
        ·intro k a c p q
         obtain⟨hf,b',hb',rfl⟩:=eS str k a p
         have hk:k<str.data.size:=(Array.getElem?_eq_some_iff.1 hb').1
         rw[← hcc,Array.getElem?_append_left (by simpa using hk),Array.getElem?_map,hb'] at q
         obtain rfl:=Option.some.inj q
         exact⟨.plain rfl,rfl⟩
       ·have:=VR.slice (μ:=bA μ nx ⟨w.heap.size,0,cc.size,1⟩) (i:=nx) (o:=0) (n:=str.size) (z:=1) (c':=cap) (aM _ _ _) hle (.inr ⟨rfl,by simp[hccs]⟩)
        simpa using this
  | none =>
   simp only[h2] at h
   cases h3:ci (ρ x) with
   | some q =>
    obtain⟨a,n,c⟩:=q
    simp only[h3,cvSl] at h
    cases hs:P.underlying s with
    | none=>simp[hs] at h
    | some us =>
     cases us<;>simp only[hs,reduceCtorEq] at h
     rename_i el
     cases hd:P.underlying d with
     | none=>simp[hd] at h
     | some ud =>
      cases ud<;>simp only[hd,reduceCtorEq] at h
      cases hbt:cV P el
      ·rw[hbt] at h; cases h
      ·rw[hbt] at h
       simp only[cond_true] at h
       obtain⟨hue,hse⟩:=eR hbt
       have e:=hx
       rw[bx h3] at e
       cases a with
       | none =>
        simp only[Option.some.injEq,Prod.mk.injEq] at h
        obtain⟨rfl,rfl⟩:=h
        have e:=e.sliceN
        refine close ?_ (.plain rfl)
        rw[e]
        simp[convert,run_underlying hs,run_underlying hd,run_underlying hue,Conv.bytesToString]
       | some ad =>
        cases b with
        | none=>simp at h
        | some bl =>
         cases bl with
         | iter _ _=>simp at h
         | row cs el' z own =>
          simp only at h
          cases ht:aR cs ad.off n with
          | none=>simp[ht,nH] at h
          | some l =>
           simp only[ht,nH] at h
           cases hbs:bf l with
           | none=>simp[hbs] at h
           | some r =>
            simp only[hbs,Option.some.injEq,Prod.mk.injEq] at h
            obtain⟨rfl,rfl⟩:=h
            have htg:bh (ρ x)=some ad.block:=by rw[bx h3]; rfl
            have hblk:=hb ad.block htg
            obtain⟨L,hL,hbr⟩:=hr.blk _ _ hblk.symm
            obtain⟨ns,n1,n2,n3⟩:=ki hbr ht hbs
            obtain⟨hsp,hc⟩:=e.sliceS
            refine close (v':= .string ⟨r.toArray⟩) ?_ (.plain rfl)
            have hstr: ∀(bk:Addr) (c':Nat),(loadCells bk n).run P w= .ok (ns.map (Value.int .u8)).toArray w→(convert s d (.slice (some bk) n c')).run P w= .ok (.string ⟨r.toArray⟩) w:=by
             intro bk c' hld
             have:=run_bytesToString (P:=P) w bk n c' ns hld
             rw[lj] at this
             simp only[convert,Sem.run_bind,run_underlying hs,run_underlying hd,Result.andThen_ok,run_underlying hue,this,n2]
             simp
            rcases hc with⟨L',c',hL',hle,hcap,e'⟩ | ⟨h0,bk,e'⟩
            ·rw[hL] at hL'
             obtain rfl:=Option.some.inj hL'
             rw[e']
             refine hstr _ _ ?_
             have:=run_loadCells_list (P:=P) w ⟨L.blk,L.off+ad.off,none⟩ (ns.map (Value.int .u8)) (fun j v hv=>by rw[Addr.add_mid]; exact n3 j v hv)
             simpa[n1] using this
            ·subst h0
             rw[e']
             refine hstr _ _ ?_
             have hns:ns= []:=List.eq_nil_of_length_eq_zero n1
             subst hns
             rfl
   | none =>
    simp only[h3] at h
    cases h4:asP (ρ x) with
    | none=>simp[h4] at h
    | some a =>
     simp only[h4,cvP] at h
     have e:=hx
     rw[bb h4] at e
     have hxe:=bb h4
     split at h
     ·rename_i hs hd
      obtain⟨rfl,rfl⟩:(Value.pointer none=v)∧(Eff.none=eff):=by simpa using h
      refine close ?_ (.plain rfl)
      rw[e.ptrN]
      simp[convert,run_underlying hs,run_underlying hd,Conv.unsafePointer]
     ·rename_i hs hd
      obtain⟨rfl,rfl⟩:(Value.pointer none=v)∧(Eff.none=eff):=by simpa using h
      refine close ?_ (.plain rfl)
      rw[e.ptrN]
      simp[convert,run_underlying hs,run_underlying hd,Conv.unsafePointer]
     ·rename_i t ad cs el z hs hd
      obtain⟨hsp,L,hL,e'⟩:=e.ptrS
      simp only[hsp] at h
      cases hn:aU P t with
      | none=>simp[hn] at h
      | some n =>
       simp only[hn] at h
       cases hc:Nat.ble 1 n&&Nat.blt ad.off cs.length
       ·rw[hc] at h; cases h
       ·rw[hc] at h
        simp only[cond_true,Option.some.injEq,Prod.mk.injEq] at h
        obtain⟨rfl,rfl⟩:=h
        rw[Bool.and_eq_true] at hc
        have hn1:=Nat.le_of_ble_eq_true hc.1
        have hlt:ad.off<cs.length:=Nat.le_of_ble_eq_true hc.2
        have hblk:=hb ad.block (by rw[hxe]; rfl)
        obtain⟨L',hL',hbr⟩:=hr.blk _ _ hblk.symm
        rw[hL] at hL'
        obtain rfl:=Option.some.inj hL'
        obtain⟨cc,fz,e0,k1,k2,k3,k4,k5,k6,k7,k8⟩:=hbr
        rw[k8 rfl] at k1
        have hsh:w.shape? L.blk=some (el,cc.size):=by unfold World.shape?; rw[k1]
        refine close ?_ hx
        rw[e']
        have n0:n≠0:=by omega
        have nge: ¬ (cc.size≤L.off+ad.off):=by omega
        simp[convert,run_underlying hs,run_underlying hd,Conv.unsafePointer,Conv.seenAt,viewAt,hsh,cellsIn,bi hn,n0,nge]
     ·rename_i u ad cs el z hs hd
      obtain⟨hsp,L,hL,e'⟩:=e.ptrS
      cases hc:ad.spot.isNone&&Nat.beq z 0&&(aU P u).isSome&&liesAt P P.depth el (cs.length/P.cellsOf el) ad.off u 1
      ·rw[hc] at h; cases h
      ·rw[hc] at h
       simp only[cond_true,Option.some.injEq,Prod.mk.injEq] at h
       obtain⟨rfl,rfl⟩:=h
       simp only[Bool.and_eq_true] at hc
       have hz:=nbT hc.1.1.2
       obtain⟨nu,hnu⟩:=Option.isSome_iff_exists.1 hc.1.2
       have hblk:=hb ad.block (by rw[hxe]; rfl)
       obtain⟨L',hL',hbr⟩:=hr.blk _ _ hblk.symm
       rw[hL] at hL'
       obtain rfl:=Option.some.inj hL'
       obtain⟨cc,fz,e0,k1,k2,k3,k4,k5,k6,k7,k8⟩:=hbr
       rw[k8 rfl] at k1
       obtain⟨q1,q2⟩:=k7 hz
       have hsh:w.shape? L.blk=some (el,cc.size):=by unfold World.shape?; rw[k1]
       refine close ?_ hx
       rw[e']
       have hlies:liesAt P P.depth el (cc.size/P.cellsOf el) (L.off+ad.off) u 1=true:=by
        have:=hc.2
        rw[q1,Nat.zero_add]
        rw[q2,← k2] at this
        exact this
       simp[convert,run_underlying hs,run_underlying hd,Conv.unsafePointer,Conv.seenAt,viewAt,hsh,variablesAt,hlies,bi hnu]
     ·cases h
theorem dY {x:Value} {i:Int} {y:Nat} {c:BoundsCode} (hx: ∃k,x= .int k i) (h0:0≤i) (h1:i≤(y:Int)):(Instr.sliceBound x y c).run P w= .ok i.toNat w:=by
 obtain⟨k,rfl⟩:=hx
 simp[Instr.sliceBound,asIntOf,h0,h1]
theorem cJ {lo:Option Operand} (hρ: ∀x,VR μ (ρ x) (ρ' x)) {len cap:Nat} {isS:Bool} {l h:Int} {hi:Option Operand} (hl:bF (lo.map ρ) 0=some l) (hh:bF (hi.map ρ) len=some h) (h0:0≤l) (h1:l≤h) (h2:h≤(len:Int)) (hc:len≤cap) :
  (Instr.sliceBounds isS len cap (lo.map ρ') (hi.map ρ') none).run P w= .ok (l.toNat,h.toNat,cap) w:=by
 have ev: ∀{o:Option Operand} {d:Nat} {i:Int},bF (o.map ρ) d=some i→(o=none∧i=d)∨ ∃x k,o=some x∧ρ' x= .int k i:=by
  intro o d i hb
  cases o with
  | none=>simp[bF] at hb; exact .inl ⟨rfl,hb.symm⟩
  | some x =>
   simp only[Option.map_some,bF] at hb
   cases ha:asI (ρ x) with
   | none=>simp[ha] at hb
   | some q =>
    obtain⟨k,n⟩:=q
    simp only[ha,Option.some.injEq] at hb
    subst hb
    have:=hρ x
    rw[cB ha] at this
    exact .inr ⟨x,k,rfl,this.int⟩
 have hH:(Instr.sliceBounds isS len cap (lo.map ρ') (hi.map ρ') none)=(do
   let m ← pure cap
   let h ← match hi.map ρ' with
    | some v=>Instr.sliceBound v m (if isS then .sliceAcap else .sliceAlen)
    | none=>pure len
   let l ← match lo.map ρ' with
    | some v=>Instr.sliceBound v h .sliceB
    | none=>pure 0
   pure (l,h,m)):=by
  cases hi<;>cases lo<;>rfl
 rw[hH]
 rcases ev hl with⟨rfl,rfl⟩ | ⟨x,k,rfl,hx⟩<;>rcases ev hh with⟨rfl,rfl⟩ | ⟨x',k',rfl,hx'⟩
 ·simp
 ·simp[dY (P:=P) (w:=w) ⟨k',hx'⟩ (by omega) (show h≤(cap:Int) by omega)]
 ·simp[dY (P:=P) (w:=w) (c:= .sliceB) ⟨k,hx⟩ h0 h1]
 ·have e:((h.toNat:Nat):Int)=h:=by omega
  simp[dY (P:=P) (w:=w) ⟨k',hx'⟩ (by omega) (show h≤(cap:Int) by omega),dY (P:=P) (w:=w) (c:= .sliceB) (y:=h.toNat) ⟨k,hx⟩ h0 (by omega)]
include hρ hr in
theorem oc (t:TypeId) (x:Operand) (lo hi mx:Option Operand) {id:Option Nat} {v:Value} {eff:Eff} {b:Option Blk} (h:fo t x lo hi mx P nx type ρ b=some (v,eff)):aA P ρ' ⟨dst,.slice t x lo hi mx,type,pos,after,guard⟩ μ B hh w nx id v eff:=by
 unfold fo at h
 cases mx with
 | some _=>cases h
 | none =>
  simp only at h
  have hq:=aN h
  clear h
  obtain⟨h,rfl⟩:=hq
  have hx:=hρ x
  have close: ∀{v':Value},(Instr.sliceAt t (ρ' x) (lo.map ρ') (hi.map ρ') none).run P w= .ok v' w→VR μ v v'→aA P ρ' ⟨dst,.slice t x lo hi none,type,pos,after,guard⟩ μ B hh w nx id v .none:=fun h1 h2 =>
   aA.stay hr (by simp only[execOp,Option.map_none,Sem.run_bind,h1,Result.andThen_ok,Sem.run_pure]) h2
  unfold kQ at h
  cases hs:asS (ρ x) with
  | some s =>
   simp only[hs] at h
   have e:=hx
   rw[ee hs] at e
   have e:=e.string
   cases hst:bq P t
   ·rw[hst] at h; cases h
   ·rw[hst] at h
    simp only[cond_true] at h
    have hu:P.underlying t=some .string:=by
     unfold bq at hst
     cases hu:P.underlying t with
     | none=>simp[hu] at hst
     | some u=>cases u<;>simp[hu] at hst; rfl
    cases hl:bF (lo.map ρ) 0 with
    | none=>simp[hl,jW] at h
    | some l =>
     cases hh':bF (hi.map ρ) s.size with
     | none=>simp[hl,hh',jW] at h
     | some hv =>
      simp only[hl,hh',jW,slB] at h
      split at h
      ·rename_i hc
       obtain rfl:=Option.some.inj h
       refine close (v':= .string (s.extract l.toNat hv.toNat)) ?_ (.plain rfl)
       have hb:=cJ (P:=P) (w:=w) (isS:=false) hρ hl hh' hc.1 hc.2.1 hc.2.2 (Nat.le_refl _)
       unfold Instr.sliceAt
       simp only[Sem.run_bind,run_underlying hu,Result.andThen_ok]
       unfold Instr.slice
       simp only[Sem.run_bind,run_underlying hu,Result.andThen_ok,e,hb,Option.isSome_none,Bool.false_eq_true,if_false,Sem.run_pure]
      ·cases h
  | none =>
   simp only[hs] at h
   cases h3:ci (ρ x) with
   | some q =>
    obtain⟨a,len,c⟩:=q
    simp only[h3] at h
    have e:=hx
    rw[bx h3] at e
    cases hl:bF (lo.map ρ) 0 with
    | none=>simp[hl,jX] at h
    | some l =>
     cases hh':bF (hi.map ρ) len with
     | none=>simp[hl,hh',jX] at h
     | some hv =>
      cases hel:dB P t with
      | none=>simp[hl,hh',hel,jX] at h
      | some n =>
       simp only[hl,hh',hel,jX] at h
       obtain⟨el,hu,hsz⟩:=gp hel
       cases a with
       | none =>
        simp only[slA] at h
        split at h
        ·rename_i hc
         obtain rfl:=Option.some.inj h
         have e:=e.sliceN
         obtain⟨rfl,rfl,rfl,rfl⟩:=hc
         have hb:=cJ (P:=P) (w:=w) (isS:=true) (len:=0) (cap:=0) hρ hl hh' (by omega) (by omega) (by omega) (Nat.le_refl _)
         refine close (v':= .slice none 0 0) ?_ (.plain rfl)
         unfold Instr.sliceAt
         simp only[Sem.run_bind,run_underlying hu,Result.andThen_ok]
         unfold Instr.slice
         simp only[Sem.run_bind,run_underlying hu,Result.andThen_ok,e,hb,Sem.run_pure,bi hsz]
         simp
        ·cases h
       | some ad =>
        simp only[slA] at h
        split at h
        ·rename_i hc
         obtain rfl:=Option.some.inj h
         obtain⟨hsp,hcc⟩:=e.sliceS
         rcases hcc with⟨L,c',hL,hle,hcap,e'⟩ | ⟨h0,bk,e'⟩
         ·have hb:=cJ (P:=P) (w:=w) (isS:=true) hρ hl hh' hc.1 hc.2.1 hc.2.2.1 hle
          refine close (v':= .slice (if c'=l.toNat then some ⟨L.blk,L.off+ad.off,none⟩ else some (Addr.add ⟨L.blk,L.off+ad.off,none⟩ (l.toNat*n))) (hv.toNat-l.toNat) (c'-l.toNat)) ?_ ?_
          ·unfold Instr.sliceAt
           simp only[Sem.run_bind,run_underlying hu,Result.andThen_ok]
           unfold Instr.slice
           simp only[Sem.run_bind,run_underlying hu,Result.andThen_ok,e',hb,Sem.run_pure,bi hsz,Option.map_some]
          ·have hd:(hv-l).toNat=hv.toNat-l.toNat:=by omega
           rw[hd]
           by_cases hcl:c'=l.toNat
           ·have hz:hv.toNat-l.toNat=0:=by omega
            have hz':c'-l.toNat=0:=by omega
            rw[if_pos hcl,hz,hz']
            exact .slice0
           ·rw[if_neg hcl,dX]
            have:=VR.slice (μ:=μ) (i:=ad.block) (o:=ad.off+l.toNat*n) (n:=hv.toNat-l.toNat) (z:=c) (c':=c'-l.toNat) (L:=L) hL (by omega) (by
             rcases hc.2.2.2 with h | h
             ·exact .inl h
             ·rcases hcap with h' | ⟨h',h''⟩
              ·exact .inl h'
              ·refine .inr ⟨h',?_⟩
               subst h
               have hlc:l.toNat≤c':=by omega
               have:=Nat.sub_mul c' l.toNat c
               have:=Nat.mul_le_mul_right c hlc
               omega)
            rw[Nat.add_assoc]; exact this
         ·subst h0
          have l0:l=0:=by have:=hc.2.2.1; omega
          have h00:hv=0:=by have:=hc.2.2.1; omega
          subst l0; subst h00
          have hb:=cJ (P:=P) (w:=w) (isS:=true) (len:=0) (cap:=0) hρ hl hh' (by omega) (by omega) (by omega) (Nat.le_refl _)
          refine close (v':= .slice (some bk) 0 0) ?_ .slice0
          unfold Instr.sliceAt
          simp only[Sem.run_bind,run_underlying hu,Result.andThen_ok]
          unfold Instr.slice
          simp only[Sem.run_bind,run_underlying hu,Result.andThen_ok,e',hb,Sem.run_pure,bi hsz]
          simp
        ·cases h
   | none =>
    simp only[h3] at h
    cases h4:asP (ρ x) with
    | none=>simp[h4] at h
    | some a =>
     cases a with
     | none=>simp[h4] at h
     | some ad =>
      simp only[h4] at h
      have e:=hx
      rw[bb h4] at e
      obtain⟨hsp,L,hL,e'⟩:=e.ptrS
      cases hl:bF (lo.map ρ) 0 with
      | none=>simp[hl,lR] at h
      | some l =>
       cases hea:iE P t with
       | none=>simp[hl,hea,lR] at h
       | some q =>
        obtain⟨len,n⟩:=q
        simp only[hl,hea,lR,hsp] at h
        obtain⟨el,hu,hsz⟩:=gq hea
        cases hh':bF (hi.map ρ) len with
        | none=>simp[hh'] at h
        | some hv =>
         simp only[hh'] at h
         split at h
         ·rename_i hc
          obtain rfl:=Option.some.inj h
          have hb:=cJ (P:=P) (w:=w) (isS:=false) hρ hl hh' hc.1 hc.2.1 hc.2.2 (Nat.le_refl _)
          refine close (v':= .slice (some (if len=l.toNat then⟨L.blk,L.off+ad.off,none⟩ else(Addr.add ⟨L.blk,L.off+ad.off,none⟩ (l.toNat*n)))) (hv.toNat-l.toNat) (len-l.toNat)) ?_ ?_
          ·unfold Instr.sliceAt
           simp only[Sem.run_bind,run_underlying hu,Result.andThen_ok,e',Instr.sureAddr,hb,Sem.run_pure,bi hsz]
          ·have hd:(hv-l).toNat=hv.toNat-l.toNat:=by omega
           rw[hd]
           by_cases hcl:len=l.toNat
           ·rw[if_pos hcl]
            have hz:len-l.toNat=0:=by omega
            have hz':hv.toNat-l.toNat=0:=by omega
            rw[hz,hz']
            exact .slice0
           ·rw[if_neg hcl,dX]
            have:=VR.slice (μ:=μ) (i:=ad.block) (o:=ad.off+l.toNat*n) (n:=hv.toNat-l.toNat) (z:=0) (c':=len-l.toNat) (L:=L) hL (by omega) (.inl rfl)
            rw[Nat.add_assoc]; exact this
         ·cases h
end
end Go.Proofs.YtjcbhbncncbdjaaGreatDoorAi
namespace Go.Proofs.YtjcbhbncncbdjaaGreatDoorAi
open Go Go.RowKit
set_option linter.unusedVariables false
set_option linter.unusedSimpArgs false
set_option linter.unnecessarySimpa false
set_option linter.unusedSectionVars false
section
variable {P:Program} {ρ ρ':Operand→Value} {dst:Option Tmp} {type:TypeId} {pos:String} {after:Array Edge} {guard:Option (Nat×Bool)} {μ:Mu} {B:Nat} {hh:Nat→Option Blk} {w:World} {nx:Nat}
variable (hρ: ∀x,VR μ (ρ x) (ρ' x)) (hr:HR μ B hh w.heap) (hi:μ nx=none) (hB:B≤w.heap.size)
theorem kj {t:TypeId} (h:bq P t=true):P.underlying t=some .string:=by
 unfold bq at h
 cases hu:P.underlying t with
 | none=>simp[hu] at h
 | some u=>cases u<;>simp[hu] at h; rfl
include hρ hr hi hB in
theorem od (t:TypeId) (x:Operand) {id:Option Nat} {v:Value} {eff:Eff} {b:Option Blk} (h:gh t x P nx type ρ b=some (v,eff)):aA P ρ' ⟨dst,.range t x,type,pos,after,guard⟩ μ B hh w nx id v eff:=by
 unfold gh fq at h
 cases hs:asS (ρ x) with
 | none=>simp[hs] at h
 | some s =>
  simp only[hs] at h
  cases hst:bq P t
  ·rw[hst] at h; cases h
  ·rw[hst] at h
   simp only[cond_true,Option.some.injEq,Prod.mk.injEq] at h
   obtain⟨rfl,rfl⟩:=h
   have hx:=hρ x
   rw[ee hs] at hx
   have e:=hx.string
   refine aA.fresh (L:=⟨w.heap.size,0,0,0⟩) (v':= .pointer (some ⟨w.heap.size,0,none⟩)) (w':=w.alloc (.stringIter s 0)) hr hi hB ?_ rfl rfl rfl rfl rfl ?_ (VR.ptr' (aM _ _ _) rfl rfl)
   ·simp[execOp,Instr.range,run_underlying (kj hst),e]
   ·exact⟨by simp,hB,rfl⟩
theorem lm {r:Nat} {o o':Obj} (h:w.heap[r]? = some o) (hn: ∀a b c,o≠ .cells a b c):(setObj r o').run P w= .ok () { w with heap:=w.heap.setIfInBounds r o' }:=by
 simp only[setObj,Sem.run,h]
 try (cases o<;>first | rfl | exact absurd rfl (hn _ _ _))
theorem gv {r:Nat} {o:Obj} (h:w.heap[r]? = some o) (hn: ∀a b c,o≠ .cells a b c):(getObj r).run P w= .ok o w:=by
 simp only[getObj,Sem.run,h]
 try (cases o<;>first | rfl | exact absurd rfl (hn _ _ _))
include hρ hr in
theorem next_ok (it:Operand) (str:Bool) {v:Value} {eff:Eff} {b:Option Blk} (h:fH it str P nx type ρ b=some (v,eff)) (hb: ∀i,bh (ρ it)=some i→b=hh i):aA P ρ' ⟨dst,.next it str,type,pos,after,guard⟩ μ B hh w nx (bh (ρ it)) v eff:=by
 unfold fH at h
 cases str
 ·cases h
 ·simp only[cond_true] at h
  unfold j5 at h
  cases hp:asP (ρ it) with
  | none=>simp[hp] at h
  | some o =>
   cases o with
   | none=>simp[hp] at h
   | some a =>
    cases b with
    | none=>simp[hp] at h
    | some bl =>
     cases bl with
     | row _ _ _ _=>simp[hp] at h
     | iter s p =>
      simp only[hp] at h
      cases h0:Nat.beq a.off 0
      ·rw[h0] at h; cases h
      ·rw[h0] at h
       simp only[cond_true,iH] at h
       have e:=bb hp
       have htg:bh (ρ it)=some a.block:=by rw[e]; rfl
       have hblk:=hb a.block htg
       obtain⟨L,hL,hbr⟩:=hr.blk _ _ hblk.symm
       obtain⟨k1,k2,k3⟩:=hbr
       have hx:=hρ it
       rw[e] at hx
       obtain⟨hsp,L',hL',e'⟩:=hx.ptrS
       rw[hL] at hL'
       obtain rfl:=Option.some.inj hL'
       have hoff:L.off+a.off=0:=by rw[k3,nbT h0]
       rw[hoff] at e'
       have hlt:L.blk<w.heap.size:=(Array.getElem?_eq_some_iff.1 k1).1
       split at h
       ·rename_i hps
        simp only[Option.some.injEq,Prod.mk.injEq] at h
        obtain⟨rfl,rfl⟩:=h
        refine⟨.tuple #[.bool true,goInt p,.int .i32 (Utf8.decode s p).1],{ w with heap:=w.heap.setIfInBounds L.blk (.stringIter s (p+(Utf8.decode s p).2)) },μ,.inl ?_,.plain rfl,?_,aX.refl _,fun _ _=>rfl,⟨rfl,rfl,rfl,by simp,fun k hk=>?_⟩⟩
        ·simp only[execOp,e',Sem.run_bind]
         unfold Instr.next
         simp only[Sem.run_bind,gv k1 (by simp),Result.andThen_ok,hps,if_true,lm k1 (by simp),Sem.run_pure]
        ·rw[htg]
         refine hr.put hblk.symm hL rfl (fun k hk=>?_) ⟨by simp[hlt],k2,k3⟩
         rw[Array.getElem?_setIfInBounds_ne (fun e=>hk e.symm)]
        ·exact Array.getElem?_setIfInBounds_ne (by omega)
       ·rename_i hps
        simp only[Option.some.injEq,Prod.mk.injEq] at h
        obtain⟨rfl,rfl⟩:=h
        refine aA.stay hr ?_ (.plain rfl)
        simp only[execOp,e',Sem.run_bind]
        unfold Instr.next
        simp only[Sem.run_bind,gv k1 (by simp),Result.andThen_ok,hps,if_false,Sem.run_pure]
theorem eT {l:List Operand} (hρ: ∀x,VR μ (ρ x) (ρ' x)) (h:aV (l.map ρ)=true):l.map ρ'=l.map ρ:=by
 apply List.map_congr_left
 intro x hx
 unfold aV at h
 rw[List.all_eq_true] at h
 exact(hρ x).plainI (h _ (List.mem_map.2 ⟨x,hx,rfl⟩))
theorem dJ: ∀(ns:List Int) (a:Addr) (acc:ByteArray),(∀j n,ns[j]? = some n→w.cell? (a.add j)=some (.int .u8 n)) →
  (loadBytes a acc ns.length).run P w= .ok ⟨acc.data++(ns.map fun n=>n.toNat.toUInt8).toArray⟩ w
 | [],a,acc,_=>by simp[loadBytes]
 | n::ns,a,acc,h=>by
  have h0:w.cell? a=some (.int .u8 n):=by
   have:=h 0 n rfl
   simpa[Addr.add] using this
  have ih:=dJ ns (a.add 1) (acc.push n.toNat.toUInt8) (fun j y hy=>by
   have:=h (j+1) y (by simpa using hy)
   have e:(a.add 1).add j=a.add (j+1):=by
    unfold Addr.add
    by_cases hj:j=0
    ·subst hj; simp
    ·simp[hj]; omega
   rw[e]; exact this)
  simp only[List.length_cons,loadBytes,Sem.run_bind,run_load,h0,Result.andThen_ok,ih,List.map_cons]
  congr 2
  simp[ByteArray.push]
include hρ hr hB in
theorem ln (c:Call) (hcb: ∃f,c.callee= .builtin f∧f≠ .append∧f≠ .copy) {v:Value} {eff:Eff} {b:Option Blk} (h:nM c P nx type ρ b=some (v,eff)) (hb: ∀i,tgt ρ (.call c)=some i→b=hh i) :
  aA P ρ' ⟨dst,.call c,type,pos,after,guard⟩ μ B hh w nx (tgt ρ (.call c)) v eff:=by
 obtain⟨callee,args,ats⟩:=c
 obtain⟨f,rfl,hna,hnc⟩:=hcb
 unfold nM j6 at h
 simp only at h
 have hexec:execOp ρ' ⟨dst,.call ⟨.builtin f,args,ats⟩,type,pos,after,guard⟩=(do let d ← (pure { target:= .builtin f ats type (args.map fun | .const _=>true | _=>false),args:=args.map ρ' }:Sem Deferred); invoke d.target d.args):=rfl
 have close: ∀{s:Sem Value} {v v':Value},(builtin f ats type (args.map fun | .const _=>true | _=>false) (args.map ρ')=do pure (.value (← s)))→s.run P w= .ok v' w→VR μ v v'→aA P ρ' ⟨dst,.call ⟨.builtin f,args,ats⟩,type,pos,after,guard⟩ μ B hh w nx (tgt ρ (.call ⟨.builtin f,args,ats⟩)) v .none:=by
  intro s v v' h1 h2 h3
  refine aA.stay hr ?_ h3
  rw[hexec]
  show(builtin f ats type _ (args.map ρ')).run P w=_
  rw[h1]
  simp only[Sem.run_bind,h2,Result.andThen_ok,Sem.run_pure]
 have argsL:(args.map ρ').toList=args.toList.map ρ':=by simp
 cases f<;>simp only[eJ,bNo,reduceCtorEq] at h
 case len =>
  unfold bLen at h
  cases ha:args.toList with
  | nil=>simp[ha] at h
  | cons x r =>
   cases r with
   | cons _ _=>simp[ha] at h
   | nil =>
    simp only[ha,List.map_cons,List.map_nil] at h
    have hargs:args.map ρ'= #[ρ' x]:=by apply Array.ext'; rw[argsL,ha]; rfl
    unfold iG at h
    cases ht:ats[0]? with
    | none=>simp[ht] at h
    | some t =>
     simp only[ht,Option.bind_some] at h
     have hx:=hρ x
     cases hu:P.underlying t with
     | none=>simp[hu] at h
     | some u =>
      cases u<;>simp only[hu,reduceCtorEq] at h
      ·cases hs:asS (ρ x) with
       | none=>simp[hs] at h
       | some s =>
        simp only[hs,Option.some.injEq,Prod.mk.injEq] at h
        obtain⟨rfl,rfl⟩:=h
        rw[ee hs] at hx
        have e:=hx.string
        exact close (s:=Builtin.len_ ats type (args.map ρ')) rfl (by rw[hargs,e]; simp[Builtin.len_,ht,run_underlying hu]) (.plain rfl)
      ·cases hs:ci (ρ x) with
       | none=>simp[hs] at h
       | some q =>
        obtain⟨a,n,c⟩:=q
        simp only[hs,Option.some.injEq,Prod.mk.injEq] at h
        obtain⟨rfl,rfl⟩:=h
        rw[bx hs] at hx
        have hsl: ∃a' c',ρ' x= .slice a' n c':=by
         cases a with
         | none=>exact⟨_,_,hx.sliceN⟩
         | some a =>
          obtain⟨_,hc⟩:=hx.sliceS
          rcases hc with⟨L,c',_,_,_,e⟩ | ⟨h0,bk,e⟩
          ·exact⟨_,_,e⟩
          ·subst h0; exact⟨_,_,e⟩
        obtain⟨a',c',e⟩:=hsl
        exact close (s:=Builtin.len_ ats type (args.map ρ')) rfl (by rw[hargs,e]; simp[Builtin.len_,ht,run_underlying hu]) (.plain rfl)
      ·simp only[Option.some.injEq,Prod.mk.injEq] at h
       obtain⟨rfl,rfl⟩:=h
       exact close (s:=Builtin.len_ ats type (args.map ρ')) rfl (by rw[hargs]; simp[Builtin.len_,ht,run_underlying hu]) (.plain rfl)
 case cap =>
  unfold bCap at h
  split at h
  ·rename_i n ha
   cases hal:args.toList with
   | nil=>simp[hal] at ha
   | cons x r =>
    cases r with
    | cons _ _=>simp[hal] at ha
    | nil =>
     simp only[hal,List.map_cons,List.map_nil,List.cons.injEq,and_true] at ha
     have hargs:args.map ρ'= #[ρ' x]:=by apply Array.ext'; rw[argsL,hal]; rfl
     cases ht:ats[0]? with
     | none=>simp[ht] at h
     | some t =>
      simp only[ht,Option.bind_some] at h
      cases hu:P.underlying t with
      | none=>simp[hu] at h
      | some u =>
       cases u<;>simp only[hu,reduceCtorEq,Option.some.injEq,Prod.mk.injEq] at h
       obtain⟨rfl,rfl⟩:=h
       have hx:=hρ x
       rw[ha] at hx
       have e:=hx.sliceN
       exact close (s:=Builtin.cap_ ats type (args.map ρ')) rfl (by rw[hargs,e]; simp[Builtin.cap_,ht,run_underlying hu]) (.plain rfl)
  ·cases h
 case max =>
  unfold bMax at h
  cases hp:aV (args.toList.map ρ)
  ·rw[hp] at h; cases h
  ·rw[hp] at h
   have hq:=aN h
   clear h
   obtain⟨h,rfl⟩:=hq
   obtain⟨h1,h2⟩:=a8 h
   have hrun:=bQ h1 w
   rw[← eT hρ hp] at hrun
   have hargs:(args.toList.map ρ').toArray=args.map ρ':=by apply Array.ext'; simp
   rw[hargs] at hrun
   exact close (s:=Builtin.max_ ats type (args.map ρ')) rfl hrun (.plain h2)
 case min =>
  unfold bMin at h
  cases hp:aV (args.toList.map ρ)
  ·rw[hp] at h; cases h
  ·rw[hp] at h
   have hq:=aN h
   clear h
   obtain⟨h,rfl⟩:=hq
   obtain⟨h1,h2⟩:=a8 h
   have hrun:=bQ h1 w
   rw[← eT hρ hp] at hrun
   have hargs:(args.toList.map ρ').toArray=args.map ρ':=by apply Array.ext'; simp
   rw[hargs] at hrun
   exact close (s:=Builtin.min_ ats type (args.map ρ')) rfl hrun (.plain h2)
 case unsafeSliceData =>
  unfold bUsd at h
  cases hal:args.toList with
  | nil=>simp[hal] at h
  | cons x r =>
   cases r with
   | cons _ _=>simp[hal] at h
   | nil =>
    simp only[hal,List.map_cons,List.map_nil] at h
    have hargs:args.map ρ'= #[ρ' x]:=by apply Array.ext'; rw[argsL,hal]; rfl
    have hx:=hρ x
    split at h
    ·rename_i a n c ha
     simp only[List.cons.injEq,and_true] at ha
     cases hn:Nat.ble 1 n
     ·rw[hn] at h; cases h
     ·rw[hn] at h
      simp only[cond_true,Option.some.injEq,Prod.mk.injEq] at h
      obtain⟨rfl,rfl⟩:=h
      have hn1:=Nat.le_of_ble_eq_true hn
      rw[ha] at hx
      obtain⟨hsp,hc⟩:=hx.sliceS
      rcases hc with⟨L,c',hL,hle,hcap,e⟩ | ⟨h0,bk,e⟩
      ·obtain⟨ab,ao,asp⟩:=a
       simp only at hsp hL e
       subst hsp
       have nz:c'≠0:=by omega
       refine close (s:=Builtin.unsafeSliceData_ ats type (args.map ρ')) rfl ?_ (.ptr hL)
       rw[hargs,e]
       have hdef:Builtin.unsafeSliceData_ ats type #[.slice (some ⟨L.blk,L.off+ao,none⟩) n c'] =
         (do
          if c'≠0 then pure (.pointer (some ⟨L.blk,L.off+ao,none⟩))
          else if(← viewAt (⟨L.blk,L.off+ao,none⟩:Addr).block).isSome then pure (.pointer (some ⟨L.blk,L.off+ao,none⟩))
          else pure (.pointer (some ⟨← newObj (.view ⟨L.blk,L.off+ao,none⟩ (← elemOf type)),0,none⟩))):=rfl
       rw[hdef]
       simp[nz]
      ·omega
    ·rename_i n c ha
     simp only[List.cons.injEq,and_true] at ha
     simp only[Option.some.injEq,Prod.mk.injEq] at h
     obtain⟨rfl,rfl⟩:=h
     rw[ha] at hx
     have e:=hx.sliceN
     exact close (s:=Builtin.unsafeSliceData_ ats type (args.map ρ')) rfl (by rw[hargs,e]; rfl) (.plain rfl)
    ·cases h
 case unsafeString =>
  unfold bUs at h
  cases hal:args.toList with
  | nil=>simp[hal] at h
  | cons x r =>
   cases r with
   | nil=>simp[hal] at h
   | cons y r =>
    cases r with
    | cons _ _=>simp[hal] at h
    | nil =>
     simp only[hal,List.map_cons,List.map_nil] at h
     have hargs:args.map ρ'= #[ρ' x,ρ' y]:=by apply Array.ext'; rw[argsL,hal]; rfl
     have hx:=hρ x
     have hy:=hρ y
     have hx0:args[0]? = some x:=by
      rw[← Array.getElem?_toList,hal]; rfl
     unfold nI at h
     cases hp:asP (ρ x) with
     | none=>simp[hp] at h
     | some o =>
      cases hn:asI (ρ y) with
      | none=>cases o<;>simp[hp,hn] at h
      | some q =>
       obtain⟨k,n⟩:=q
       have e2:=hy
       rw[cB hn] at e2
       have e2:=e2.int
       cases o with
       | none =>
        simp only[hp,hn] at h
        split at h
        ·rename_i h0
         simp only[Option.some.injEq,Prod.mk.injEq] at h
         obtain⟨rfl,rfl⟩:=h
         obtain⟨h0,h0'⟩:=h0
         subst h0
         have e1:=hx
         rw[bb hp] at e1
         have e1:=e1.ptrN
         cases ht:ats[0]? with
         | none=>rw[ht] at h0'; cases h0'
         | some pt =>
          refine close (s:=Builtin.unsafeString_ ats type (args.map ρ')) rfl ?_ (.plain rfl)
          rw[hargs,e1,e2]
          have hdef:Builtin.unsafeString_ ats type #[.pointer none,.int k 0] =
            (do
             let n ← asInt (.int k 0)
             let some pt:=ats[0]? | stuck "unsafe.String: no argument types"
             if n<0 then runtimePanic (.error "unsafe.String: len out of range")
             if n>IntKind.i64.max then unsupported (.unsafePointer "String: a length above the largest int")
             if n=0 then pure (.string .empty)
             else runtimePanic (.error "unsafe.String: ptr is nil and len is not zero")):=rfl
          rw[hdef]
          have hmax:IntKind.i64.max=9223372036854775807:=rfl
          simp[asInt,asIntOf,hmax,ht]
        ·cases h
       | some a =>
        cases k<;>simp only[hp,hn,reduceCtorEq] at h
        unfold usP at h
        cases b with
        | none=>simp at h
        | some bl =>
         cases bl with
         | iter _ _=>simp at h
         | row cs e z own =>
          cases ht:ats[0]? with
          | none=>simp[ht] at h
          | some pt =>
           simp only[ht,Option.bind_some] at h
           cases hu:P.underlying pt with
           | none=>simp[hu] at h
           | some up =>
            cases up<;>simp only[hu,reduceCtorEq] at h
            rename_i u
            unfold lT at h
            cases hc:own&&Nat.beq (P.cellsOf e) 1&&P.underlyingId u==P.underlyingId e
            ·rw[hc] at h; cases h
            ·rw[hc] at h
             simp only[cond_true] at h
             split at h
             ·rename_i hrange
              cases htk:aR cs a.off n.toNat with
              | none=>simp[htk] at h
              | some l =>
               simp only[htk] at h
               cases hbs:bf l with
               | none=>simp[hbs] at h
               | some r =>
                simp only[hbs,Option.some.injEq,Prod.mk.injEq] at h
                obtain⟨rfl,rfl⟩:=h
                simp only[Bool.and_eq_true] at hc
                obtain⟨⟨hown,hce⟩,hlay⟩:=hc
                have hce:=nbT hce
                have htg:tgt ρ (.call ⟨.builtin .unsafeString,args,ats⟩)=some a.block:=by
                 show(args[0]?).bind (fun x=>bh (ρ x))=_
                 rw[hx0,Option.bind_some,bb hp]; rfl
                have hblk:=hb a.block htg
                obtain⟨L,hL,hbr⟩:=hr.blk _ _ hblk.symm
                have e1:=hx
                rw[bb hp] at e1
                obtain⟨hsp,L',hL',e1⟩:=e1.ptrS
                rw[hL] at hL'
                obtain rfl:=Option.some.inj hL'
                obtain⟨ns,n1,n2,n3⟩:=ki hbr htk hbs
                obtain⟨hle,_,_⟩:=bu htk
                have hbr':=hbr
                obtain⟨cc,fz,e0,k1,k2,k3,k4,k5,k6,k7,k8⟩:=hbr'
                rw[k8 hown] at k1
                have hsh:w.shape? L.blk=some (e,cc.size):=by unfold World.shape?; rw[k1]
                have hlies:liesAt P P.depth e (cc.size/P.cellsOf e) (L.off+a.off) u n.toNat=true:=by
                 have hd:P.depth=(2*(P.types.size+Made.depth)+1)+1:=rfl
                 rw[hd]
                 simp only[liesAt,Bool.or_eq_true]
                 left
                 rw[hd]
                 have hcs:L.off+a.off+n.toNat≤cc.size:=by omega
                 have hlay':(P.underlyingId e==P.underlyingId u)=true:=by
                  have:=hlay
                  simp only[beq_iff_eq] at this ⊢
                  exact this.symm
                 simp[rowAt,hce,hcs,sameLayout,hlay',hlay,Nat.mod_one]
                have hlb:=dJ (P:=P) (w:=w) ns ⟨L.blk,L.off+a.off,none⟩ .empty (fun j m hj=>by
                 rw[Addr.add_mid]
                 exact n3 j _ (by rw[List.getElem?_map,hj]; rfl))
                refine⟨.string ⟨r.toArray⟩,w.freeze ⟨L.blk,L.off+a.off,none⟩ n.toNat,μ,.inl ?_,.plain rfl,?_,aX.refl _,fun _ _=>rfl,?_⟩
                ·rw[hexec]
                 show(do pure (.value (← Builtin.unsafeString_ ats type (args.map ρ'))):Sem Next).run P w=_
                 rw[hargs,e1,e2]
                 have hdef:Builtin.unsafeString_ ats type #[.pointer (some ⟨L.blk,L.off+a.off,none⟩),.int .i64 n] =
                   (do
                    let n ← asInt (.int .i64 n)
                    let some pt:=ats[0]? | stuck "unsafe.String: no argument types"
                    if n<0 then runtimePanic (.error "unsafe.String: len out of range")
                    if n>IntKind.i64.max then unsupported (.unsafePointer "String: a length above the largest int")
                    if n=0 then pure (.string .empty)
                    else if ← variablesAt ⟨L.blk,L.off+a.off,none⟩ (← elemOf pt) n.toNat then do
                     let s ← loadBytes ⟨L.blk,L.off+a.off,none⟩ .empty n.toNat
                     freeze ⟨L.blk,L.off+a.off,none⟩ n.toNat
                     pure (.string s)
                    else unsupported (.unsafePointer "String: not so many bytes at ptr")):=rfl
                 rw[hdef]
                 have hmax:IntKind.i64.max=9223372036854775807:=rfl
                 have hneg: ¬ n<0:=by omega
                 have hbig: ¬ (9223372036854775807:Int)<n:=by omega
                 have hn0: ¬ n=0:=by omega
                 rw[n1] at hlb
                 simp[asInt,asIntOf,hmax,ht,hneg,hbig,hn0,variablesAt,hsh,elemOf,run_underlying hu,hlies,hlb,n2]
                ·rw[htg]
                 have hlt:L.blk<w.heap.size:=(Array.getElem?_eq_some_iff.1 k1).1
                 have hn0:n.toNat≠0:=by omega
                 refine hr.put hblk.symm hL hown (fun k hk=>?_) ?_
                 ·unfold World.freeze
                  rw[if_neg hn0]
                  simp only[Array.getElem?_modify]
                  rw[if_neg (fun e=>hk e.symm)]
                 ·refine⟨cc,(if fz.1==fz.2 then(L.off+a.off,L.off+a.off+n.toNat) else(min fz.1 (L.off+a.off),max fz.2 (L.off+a.off+n.toNat))),e,?_,k2,k3,k4,k5,(fun h=>by cases h),k7,(fun _=>rfl)⟩
                  unfold World.freeze
                  rw[if_neg hn0]
                  simp only[Array.getElem?_modify,if_true,k1,Option.map_some]
                ·have hn0:n.toNat≠0:=by omega
                 unfold World.freeze
                 rw[if_neg hn0]
                 refine⟨rfl,rfl,rfl,by simp,fun k hk=>?_⟩
                 simp only[Array.getElem?_modify]
                 rw[if_neg (by have:=(k6 hown).1; omega)]
             ·cases h
theorem mN {t:TypeId} {v:Value} {eff:Eff} {b:Option Blk} (h:ej t P nx type ρ b=some (v,eff)): ∃b',eff= .new b':=by
 unfold ej at h
 repeat' split at h
 all_goals first | (cases h; done) | (simp only[Option.some.injEq,Prod.mk.injEq] at h; exact⟨_,h.2.symm⟩)
theorem box_new {t:TypeId} {x:Operand} {v:Value} {eff:Eff} {b:Option Blk} (h:nJ t x P nx type ρ b=some (v,eff)): ∃b',eff= .new b':=by
 unfold nJ kS at h
 cases e:(ρ x).cells.toList.all one<;>rw[e] at h
 ·cases h
 ·simp only[cond_true,Option.some.injEq,Prod.mk.injEq] at h; exact⟨_,h.2.symm⟩
theorem mO {t:TypeId} {x:Operand} {v:Value} {eff:Eff} {b:Option Blk} (h:gh t x P nx type ρ b=some (v,eff)): ∃b',eff= .new b':=by
 unfold gh fq at h
 split at h
 ·cases e:bq P t<;>rw[e] at h
  ·cases h
  ·simp only[cond_true,Option.some.injEq,Prod.mk.injEq] at h; exact⟨_,h.2.symm⟩
 ·cases h
theorem gw {t:TypeId} {n:Nat} {ps:Array (Nat×Operand)} {v:Value} {eff:Eff} {b:Option Blk} (h:cj t n ps P nx type ρ b=some (v,eff)): ∃b',eff= .new b':=by
 unfold cj bp at h
 split at h
 case h_2=>cases h
 split at h
 case h_2=>cases h
 rename_i e _ _ _ n' z _ _
 cases e1:Nat.ble 1 n'&&Nat.beq z.length n'&&Nat.ble (n*n') 16777216<;>rw[e1] at h
 ·cases h
 ·simp only[cond_true,Option.map_eq_some_iff,Prod.mk.injEq] at h
  obtain⟨l,_,_,h3⟩:=h
  exact⟨_,h3.symm⟩
theorem iv {t:TypeId} {l c:Operand} {v:Value} {eff:Eff} {b:Option Blk} (h:cE t l c P nx type ρ b=some (v,eff)): ∃b',eff= .new b':=by
 unfold cE cD dE at h
 repeat' split at h
 all_goals first | (cases h; done) | (simp only[Option.some.injEq,Prod.mk.injEq] at h; exact⟨_,h.2.symm⟩)
include hρ hr hB in
theorem aop_ok (op:Op) {v:Value} {eff:Eff} {b:Option Blk} (hn: ∀b',eff= .new b'→μ nx=none) (hc:aw op=false) (h:ai op P nx type ρ b=some (v,eff)) (hb: ∀i,tgt ρ op=some i→b=hh i) :
  aA P ρ' ⟨dst,op,type,pos,after,guard⟩ μ B hh w nx (tgt ρ op) v eff:=by
 cases op with
 | move x =>
  obtain⟨rfl,rfl⟩:(ρ x=v)∧(Eff.none=eff):=by simpa[ai,lU] using h
  exact move_ok hρ hr x
 | assign x =>
  obtain⟨rfl,rfl⟩:(ρ x=v)∧(Eff.none=eff):=by simpa[ai,lU] using h
  exact mJ hρ hr x
 | pick c x y=>exact pick_ok (b:=b) hρ hr c x y h
 | alloc t=>obtain⟨b',hb'⟩:=mN (P:=P) (ρ:=ρ) (type:=type) (b:=b) h; exact nX (ρ:=ρ) (b:=b) hr (hn b' hb') hB t h
 | box t x=>obtain⟨b',hb'⟩:=box_new (P:=P) (ρ:=ρ) (type:=type) (b:=b) h; exact box_ok (ρ:=ρ) (b:=b) hρ hr (hn b' hb') hB t x h
 | build t ps=>exact n7 (ρ:=ρ) (b:=b) hρ hr t ps h
 | buildSlice t n ps=>obtain⟨b',hb'⟩:=gw (P:=P) (ρ:=ρ) (type:=type) (b:=b) h; exact iu (ρ:=ρ) (b:=b) hρ hr (hn b' hb') hB t n ps h
 | makeSlice t l c=>obtain⟨b',hb'⟩:=iv (P:=P) (ρ:=ρ) (type:=type) (b:=b) h; exact jr (ρ:=ρ) (b:=b) hρ hr (hn b' hb') hB t l c h
 | load t a=>exact nY hρ hr t a h hb
 | store t a x=>exact mK hρ hr t a x h hb
 | nilCheck x=>exact nil_ok (ρ:=ρ) (b:=b) hρ hr x h
 | binOp op t x y u=>exact bin_ok (ρ:=ρ) (b:=b) hρ hr op t x y u h
 | unOp op t x=>exact un_ok (ρ:=ρ) (b:=b) hρ hr op t x h
 | convert s d x=>exact ll hρ hr hB s d x hn h hb
 | makeInterface t x=>exact nZ (ρ:=ρ) (b:=b) hρ hr t x h
 | makeFunc f a c =>
  obtain⟨rfl,rfl⟩:(_=v)∧(Eff.none=eff):=by
   have h':fm f a c P nx type ρ b=some (v,eff):=h
   unfold fm at h'
   simpa only[Option.some.injEq,Prod.mk.injEq] using h'
  exact func_ok hρ hr f a c
 | slice t x lo hi mx=>exact oc (ρ:=ρ) (b:=b) hρ hr t x lo hi mx h
 | fieldAddr s x f=>exact jm (ρ:=ρ) (b:=b) hρ hr s x f h
 | field t x f=>exact n9 (ρ:=ρ) (b:=b) hρ hr t x f h
 | indexAddr t x i=>exact jo (ρ:=ρ) (b:=b) hρ hr t x i h
 | index t x i=>exact oa (ρ:=ρ) (b:=b) hρ hr t x i h
 | extract t i=>exact la (ρ:=ρ) (b:=b) hρ hr t i h
 | range t x=>obtain⟨b',hb'⟩:=mO (P:=P) (ρ:=ρ) (type:=type) (b:=b) h; exact od (ρ:=ρ) (b:=b) hρ hr (hn b' hb') hB t x h
 | next it str=>exact next_ok hρ hr it str h hb
 | call c =>
  refine ln hρ hr hB c ?_ h hb
  obtain⟨callee,args,ats⟩:=c
  cases callee with
  | value f=>cases h
  | invoke r m=>cases h
  | builtin f=>exact⟨f,rfl,(fun e=>by subst e; cases hc),(fun e=>by subst e; cases hc)⟩
 | _=>cases h
end
end Go.Proofs.YtjcbhbncncbdjaaGreatDoorAi
