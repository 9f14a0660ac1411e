/-
ApW, ApS, ApO, ApP
-/
import Derived.Test.YtjcbhbncncbdjaaGreatDoorAiD
namespace Go.Proofs.YtjcbhbncncbdjaaGreatDoorAi
open Go Go.RowKit
set_option linter.unusedVariables false
set_option linter.unusedSimpArgs false
set_option linter.unusedSectionVars false
def WW (E:Env) (c:Code) (s:St) (Q:Exit→St→Prop):Prop:= ∃e s' n0,(∀n,n0≤n→ ∀k:K,evC c E (run E n) n s k=k e s')∧Q e s'
def LW (E:Env) (c:Code) (s:St) (Q:Exit→St→Prop):Prop:= ∃e s' n0,(∀n,n0≤n→ ∀f,n0≤f→ ∀k:K,gl (evC c E (run E n) n) f s k=k e s')∧Q e s'
def SW (E:Env) (l:List Oper) (ops:Array Oper) (s:St) (Q:St→Prop):Prop:= ∃s' n0,(∀n,n0≤n→cG l ops E (run E n) s=some s')∧Q s'
def DW (E:Env) (l:List Oper) (inf:List (List Nat)) (ops:Array Oper) (rs:List Rec) (s:St) (Q:St→Prop):Prop:= ∃s' n0,(∀n,n0≤n→cH l inf ops E (run E n) rs s=some s')∧Q s'
section
variable {E:Env} {s:St} {Q:Exit→St→Prop}
theorem WW.mono {c:Code} {Q':Exit→St→Prop} (h:WW E c s Q) (hq: ∀e s,Q e s→Q' e s):WW E c s Q':=let ⟨e,s',n,a,b⟩:=h; ⟨e,s',n,a,hq _ _ b⟩
theorem WW.skip (h:Q .normal s):WW E .skip s Q:=⟨_,s,0,fun _ _ _=>rfl,h⟩
theorem WW.label {l:Nat} (h:Q .normal s):WW E (.label l) s Q:=⟨_,s,0,fun _ _ _=>rfl,h⟩
theorem WW.exit {i:Nat} (h:Q (.exit i) s):WW E (.exit i) s Q:=⟨_,s,0,fun _ _ _=>rfl,h⟩
theorem WW.ret (h:Q .ret s):WW E .ret s Q:=⟨_,s,0,fun _ _ _=>rfl,h⟩
theorem WW.scope {c:Code} (h:WW E c s Q):WW E (.scope c) s Q:=h
theorem WW.seq {a b:Code} (h:WW E a s (eX (fun s'=>WW E b s' Q) Q)):WW E (.seq a b) s Q:=by
 obtain⟨e,s1,n1,h1,h2⟩:=h
 cases e with
 | normal =>
  obtain⟨e2,s2,n2,h3,h4⟩:=h2
  exact⟨e2,s2,max n1 n2,fun n hn k=>(h1 n (by omega) _).trans (h3 n (by omega) k),h4⟩
 | exit i=>exact⟨_,s1,n1,fun n hn k=>h1 n hn _,h2⟩
 | ret=>exact⟨_,s1,n1,fun n hn k=>h1 n hn _,h2⟩
 | _=>exact h2.elim
theorem WW.seqJ {a b:Code} (J:St→Prop) (h:WW E a s (eX J Q)) (hb: ∀s',J s'→WW E b s' Q):WW E (.seq a b) s Q :=
 WW.seq (h.mono fun e s' q=>by cases e<;>first | exact hb _ q | exact q)
theorem WW.condB {c:Operand} {a b:Code} {t:Bool} (hc:asB (opv E.NG s.fr c)=some t) (h:WW E (bif t then a else b) s Q):WW E (.cond c a b) s Q:=by
 obtain⟨e,s',n0,h1,h2⟩:=h
 refine⟨e,s',n0,fun n hn k=>?_,h2⟩
 show gm (evC a) (evC b) E (run E n) n s k (asB (opv E.NG s.fr c))=_
 rw[hc]
 cases t<;>exact h1 n hn k
theorem WW.block {id:Nat} {c:Code} (h:WW E c s (dO id Q)):WW E (.block id c) s Q:=by
 obtain⟨e,s1,n0,h1,h2⟩:=h
 cases e with
 | normal=>exact⟨_,s1,n0,fun n hn k=>h1 n hn _,h2⟩
 | exit j =>
  by_cases hj:j=id
  ·subst hj
   have h2':Q .normal s1:=by simpa[dO] using h2
   refine⟨.normal,s1,n0,fun n hn k=>(h1 n hn _).trans ?_,h2'⟩
   show(bif Nat.beq j j then k .normal s1 else k (.exit j) s1)=_
   rw[Nat.beq_refl]; rfl
  ·have h2':Q (.exit j) s1:=by simpa[dO,hj] using h2
   refine⟨.exit j,s1,n0,fun n hn k=>(h1 n hn _).trans ?_,h2'⟩
   show(bif Nat.beq j id then k .normal s1 else k (.exit j) s1)=_
   rw[nbF hj]; rfl
 | ret=>exact⟨_,s1,n0,fun n hn k=>h1 n hn _,h2⟩
 | _=>exact h2.elim
theorem au {id:Nat} (h:Q .normal s):dO id Q (.exit id) s:=by simpa[dO] using h
theorem WW.loop {c:Code} (h:LW E c s Q):WW E (.loop c) s Q:=by
 obtain⟨e,s',n0,h1,h2⟩:=h
 exact⟨e,s',n0,fun n hn k=>h1 n hn n hn k,h2⟩
theorem LW.round {c:Code} (h:WW E c s (eX (fun s'=>LW E c s' Q) Q)):LW E c s Q:=by
 obtain⟨e,s1,n1,h1,h2⟩:=h
 have key: ∀n,n1≤n→ ∀f,∀k:K,gl (evC c E (run E n) n) (f+1) s k=nT (fun s'=>gl (evC c E (run E n) n) f s' k) k e s1:=fun n hn f k=>h1 n hn _
 cases e with
 | normal =>
  obtain⟨e2,s2,n2,h3,h4⟩:=h2
  refine⟨e2,s2,max n1 n2+1,fun n hn f hf k=>?_,h4⟩
  obtain⟨f,rfl⟩: ∃g,f=g+1:=⟨f-1,by omega⟩
  exact(key n (by omega) f k).trans (h3 n (by omega) f (by omega) k)
 | exit i =>
  refine⟨.exit i,s1,n1+1,fun n hn f hf k=>?_,h2⟩
  obtain⟨f,rfl⟩: ∃g,f=g+1:=⟨f-1,by omega⟩
  exact key n (by omega) f k
 | ret =>
  refine⟨.ret,s1,n1+1,fun n hn f hf k=>?_,h2⟩
  obtain⟨f,rfl⟩: ∃g,f=g+1:=⟨f-1,by omega⟩
  exact key n (by omega) f k
 | _=>exact h2.elim
end
def cY {X R:Type} (body:X→Option (X⊕R)):Nat→X→Option R
 | 0,_=>none
 | n+1,x=>match body x with | some (.inl y)=>cY body n y | some (.inr r)=>some r | none=>none
theorem gU {X R:Type} {body:X→Option (X⊕R)}: ∀{n m:Nat} {x:X} {r:R},cY body n x=some r→n≤m→cY body m x=some r
 | 0,_,_,_,h,_=>by cases h
 | n+1,0,_,_,_,hm=>by omega
 | n+1,m+1,x,r,h,hm=>by
  unfold cY at h ⊢
  split<;>simp_all
  exact gU h hm
open Classical in
noncomputable def mh {X R:Type} (body:X→Option (X⊕R)) (x:X):Option R:=if h: ∃r n,cY body n x=some r then some h.choose else none
theorem gV {X R:Type} {body:X→Option (X⊕R)} {x:X} {r:R}:mh body x=some r↔ ∃n,cY body n x=some r:=by
 unfold mh
 constructor
 ·intro h
  split at h
  ·rename_i hx
   obtain rfl:=Option.some.inj h
   exact hx.choose_spec
  ·cases h
 ·rintro⟨n,hn⟩
  have hx: ∃r n,cY body n x=some r:=⟨r,n,hn⟩
  rw[dif_pos hx]
  obtain⟨m,hm⟩:=hx.choose_spec
  have a:=gU hn (Nat.le_max_left n m)
  have b:=gU hm (Nat.le_max_right n m)
  rw[a] at b
  exact b.symm
noncomputable def iter {X R:Type} (body:X→Option (X⊕R)) (x:X):Option R:=match cY body 100000 x with | some r=>some r | none=>mh body x
theorem cy {X R:Type} {body:X→Option (X⊕R)} {x:X} {r:R}:iter body x=some r↔ ∃n,cY body n x=some r:=by
 rw[← gV]
 unfold iter
 cases h:cY body 100000 x with
 | none=>exact Iff.rfl
 | some q =>
  have hq:mh body x=some q:=gV.2 ⟨_,h⟩
  rw[hq]
theorem al {X R:Type} {body:X→Option (X⊕R)} {x:X} {r:R} (h:body x=some (.inr r)):iter body x=some r:=cy.2 ⟨1,by unfold cY; rw[h]⟩
theorem av {X R:Type} {body:X→Option (X⊕R)} {x y:X} (h:body x=some (.inl y)):iter body x=iter body y:=by
 have key: ∀r,iter body x=some r↔iter body y=some r:=by
  intro r
  rw[cy,cy]
  constructor
  ·rintro⟨n,hn⟩
   cases n with
   | zero=>cases hn
   | succ n=>unfold cY at hn; rw[h] at hn; exact⟨n,hn⟩
  ·rintro⟨n,hn⟩
   exact⟨n+1,by unfold cY; rw[h]; exact hn⟩
 cases ha:iter body y with
 | some r=>exact(key r).2 ha
 | none =>
  cases hb:iter body x with
  | none=>rfl
  | some r=>rw[(key r).1 hb] at ha; cases ha
theorem oG {X R:Type} {body:X→Option (X⊕R)} {motive:X→R→Prop} (next: ∀x y r,body x=some (.inl y)→iter body y=some r→motive y r→motive x r) (stop: ∀x r,body x=some (.inr r)→motive x r) {x:X} {r:R} (h:iter body x=some r):motive x r:=by
 obtain⟨n,hn⟩:=cy.1 h
 induction n generalizing x with
 | zero=>cases hn
 | succ n ih =>
  unfold cY at hn
  split at hn
  ·rename_i y hy
   exact next x y r hy (cy.2 ⟨n,hn⟩) (ih (cy.2 ⟨n,hn⟩) hn)
  ·rename_i r' hr
   obtain rfl:=Option.some.inj hn
   exact stop x _ hr
  ·cases hn
theorem LW.iter {E:Env} {c:Code} {X R:Type} {body:X→Option (X⊕R)} {x:X} {r:R} (ho:iter body x=some r) (I:X→St→Prop) (Qr:R→Exit→St→Prop) {s:St} (hI:I x s)
  (round: ∀x s,I x s→ ∀o,body x=some o→WW E c s (eX (fun s'=> ∃y,o= .inl y∧I y s') (fun e s'=> ∃r,o= .inr r∧Qr r e s'))) {Q:Exit→St→Prop} (fin: ∀e s',Qr r e s'→Q e s'):LW E c s Q:=by
 have key:LW E c s (Qr r):=by
  refine oG (motive:=fun x r=> ∀s,I x s→LW E c s (Qr r)) ?_ ?_ ho s hI
  ·intro x y r hb hy ih s hI
   refine LW.round ((round x s hI _ hb).mono fun e s' q=>?_)
   cases e with
   | normal=>obtain⟨z,hz,h⟩:=q; cases hz; exact ih _ h
   | exit i=>obtain⟨z,hz,h⟩:=q; cases hz
   | ret=>obtain⟨z,hz,h⟩:=q; cases hz
   | _=>exact q.elim
  ·intro x r hb s hI
   refine LW.round ((round x s hI _ hb).mono fun e s' q=>?_)
   cases e with
   | normal=>obtain⟨z,hz,h⟩:=q; cases hz
   | exit i=>obtain⟨z,hz,h⟩:=q; cases hz; exact h
   | ret=>obtain⟨z,hz,h⟩:=q; cases hz; exact h
   | _=>exact q.elim
 obtain⟨e,s',n0,h1,h2⟩:=key
 exact⟨e,s',n0,h1,fin _ _ h2⟩
abbrev Seg:=List (Nat×Blk)
abbrev FZ:=Nat→Option Blk
def ah (S:List Seg):List Nat:=S.flatten.map Prod.fst
structure Mem (H:T) (nx:Nat) (S:List Seg) (F:FZ):Prop where
 own: ∀p∈S.flatten,H.get p.1=some p.2∧p.1<nx
 nd:(ah S).Nodup
 frz: ∀i b,F i=some b→H.get i=some b∧i<nx∧i∉ah S
 wf:Wf H nx
def FLe (F F':FZ):Prop:= ∀i b,F i=some b→F' i=some b
theorem FLe.refl (F:FZ):FLe F F:=fun _ _ h=>h
theorem FLe.trans {a b c:FZ} (h:FLe a b) (k:FLe b c):FLe a c:=fun i x e=>k i x (h i x e)
def Dj (ms:List Nat) (L:List Seg) (F:FZ):Prop:= ∀i∈ms,i∉ah L∧F i=none
theorem Mem.perm {H:T} {nx:Nat} {S S':List Seg} {F:FZ} (h:Mem H nx S F) (hp:S.flatten.Perm S'.flatten):Mem H nx S' F :=
 ⟨fun p hp'=>h.own p (hp.mem_iff.2 hp'),(hp.map Prod.fst).nodup_iff.1 h.nd,fun i b e=>⟨(h.frz i b e).1,(h.frz i b e).2.1,fun hm=>(h.frz i b e).2.2 ((hp.map Prod.fst).mem_iff.2 hm)⟩,h.wf⟩
def mi:Nat→List Seg→List Seg
 | 0,S=>S
 | k+1,a::S=>(match mi k S with | b::R=>b::a::R | []=>[a])
 | _+1,[]=>[]
theorem gW: ∀(k:Nat) (S:List Seg),(mi k S).flatten.Perm S.flatten
 | 0,S=> .refl _
 | k+1,[]=> .refl _
 | k+1,a::S=>by
  have ih:=gW k S
  unfold mi
  split
  ·rename_i b R hb
   rw[hb] at ih
   simp only[List.flatten_cons] at ih ⊢
   refine List.Perm.trans ?_ (ih.append_left a)
   rw[← List.append_assoc,← List.append_assoc]
   exact List.perm_append_comm.append_right _
  ·rename_i hb
   rw[hb] at ih
   simp only[List.flatten_cons,List.flatten_nil,List.append_nil] at ih ⊢
   have:S.flatten= []:=by simpa using ih
   rw[this,List.append_nil]
def ce:List Seg→Nat→Seg
 | a::_,0=>a
 | _::S,k+1=>ce S k
 | [],_=>[]
def fD:List Seg→Nat→Seg→List Seg
 | _::S,0,b=>b::S
 | a::S,k+1,b=>a::fD S k b
 | [],_,_=>[]
def cZ:List Seg→Nat→List Seg
 | _::S,0=>S
 | a::S,k+1=>a::cZ S k
 | [],_=>[]
theorem gX: ∀(S:List Seg) (k:Nat) (p:Nat×Blk),p∈ce S k→p∈S.flatten
 | a::S,0,p,h=>by simp only[List.flatten_cons,List.mem_append]; exact .inl h
 | a::S,k+1,p,h=>by simp only[List.flatten_cons,List.mem_append]; exact .inr (gX S k p h)
 | [],_,p,h=>by cases h
theorem gY: ∀(S:List Seg) (k:Nat),(ce S k++(cZ S k).flatten).Perm S.flatten
 | a::S,0=> .refl _
 | a::S,k+1=>by
  have ih:=gY S k
  simp only[ce,cZ,List.flatten_cons]
  refine List.Perm.trans ?_ (ih.append_left a)
  rw[← List.append_assoc,← List.append_assoc]
  exact List.perm_append_comm.append_right _
 | [],k=>by simp[ce,cZ]
theorem d3: ∀(S:List Seg) (k:Nat) (b:Seg),ce S k≠ []→(b++(cZ S k).flatten).Perm (fD S k b).flatten
 | a::S,0,b,_=> .refl _
 | a::S,k+1,b,h=>by
  have ih:=d3 S k b h
  simp only[fD,cZ,List.flatten_cons]
  refine List.Perm.trans ?_ (ih.append_left a)
  rw[← List.append_assoc,← List.append_assoc]
  exact List.perm_append_comm.append_right _
 | [],k,b,h=>absurd rfl h
section
variable {H:T} {nx:Nat} {S:List Seg} {F:FZ} {i k:Nat} {b b':Blk}
theorem Mem.at (h:Mem H nx S F) (hk:ce S k= [(i,b)]):H.get i=some b:=(h.own (i,b) (gX S k _ (by rw[hk]; exact List.mem_singleton.2 rfl))).1
theorem Mem.lt (h:Mem H nx S F) (hk:ce S k= [(i,b)]):i<nx:=(h.own (i,b) (gX S k _ (by rw[hk]; exact List.mem_singleton.2 rfl))).2
theorem Mem.front (h:Mem H nx S F) (hk:ce S k= [(i,b)]):Mem H nx ([(i,b)]::cZ S k) F:=h.perm (by
 have:=(gY S k).symm
 rw[hk] at this
 simpa using this)
theorem Mem.drop1 {a:Seg} (h:Mem H nx (a::S) F):Mem H nx S F :=
 ⟨fun p hp=>h.own p (by simp[hp]),by have:=h.nd; simp only[ah,List.flatten_cons,List.map_append] at this; exact(List.nodup_append.1 this).2.1,fun j c e=>⟨(h.frz j c e).1,(h.frz j c e).2.1,fun hm=>(h.frz j c e).2.2 (by simp only[ah,List.flatten_cons,List.map_append,List.mem_append]; exact .inr hm)⟩,h.wf⟩
theorem Mem.notin {a:Blk} (h:Mem H nx ([(i,a)]::S) F):i∉ah S:=by
 have:=h.nd
 simp only[ah,List.flatten_cons,List.map_append,List.map_cons,List.map_nil,List.cons_append,List.nil_append,List.nodup_cons] at this
 exact this.1
theorem Mem.setH (h:Mem H nx ([(i,b)]::S) F):Mem (H.set i (some b')) nx ([(i,b')]::S) F:=by
 have hn:=h.notin
 have hi:=h.own (i,b) (by simp)
 refine⟨fun p hp=>?_,by simpa[ah] using h.nd,fun j c e=>?_,fun j hj=>?_⟩
 ·simp only[List.flatten_cons,List.cons_append,List.nil_append,List.mem_cons] at hp
  rcases hp with rfl | hp
  ·exact⟨Tr.get_set_same _ _ _,hi.2⟩
  ·have hne:p.1≠i:=fun e=>hn (by rw[← e]; exact List.mem_map_of_mem hp)
   rw[Tr.get_set_ne _ _ _ _ hne]
   exact h.own p (by simp[hp])
 ·have hf:=h.frz j c e
  have hne:j≠i:=fun e=>hf.2.2 (by rw[e]; simp[ah])
  rw[Tr.get_set_ne _ _ _ _ hne]
  exact⟨hf.1,hf.2.1,by simpa[ah] using hf.2.2⟩
 ·have:j≠i:=by have:=hi.2; omega
  rw[Tr.get_set_ne _ _ _ _ this]
  exact h.wf j hj
theorem Mem.kill (h:Mem H nx ([(i,b)]::S) F):Mem (H.set i none) nx S F:=by
 have hn:=h.notin
 have hi:=h.own (i,b) (by simp)
 refine⟨fun p hp=>?_,h.drop1.nd,fun j c e=>?_,fun j hj=>?_⟩
 ·have hne:p.1≠i:=fun e=>hn (by rw[← e]; exact List.mem_map_of_mem hp)
  rw[Tr.get_set_ne _ _ _ _ hne]
  exact h.own p (by simp[hp])
 ·have hf:=h.frz j c e
  have hne:j≠i:=fun e=>hf.2.2 (by rw[e]; simp[ah])
  rw[Tr.get_set_ne _ _ _ _ hne]
  exact⟨hf.1,hf.2.1,(h.drop1.frz j c e).2.2⟩
 ·have:j≠i:=by have:=hi.2; omega
  rw[Tr.get_set_ne _ _ _ _ this]
  exact h.wf j hj
theorem Mem.new (h:Mem H nx S F):Mem (H.set nx (some b)) (nx+1) ([(nx,b)]::S) F:=by
 refine⟨fun p hp=>?_,?_,fun j c e=>?_,fun j hj=>?_⟩
 ·simp only[List.flatten_cons,List.cons_append,List.nil_append,List.mem_cons] at hp
  rcases hp with rfl | hp
  ·exact⟨Tr.get_set_same _ _ _,Nat.lt_succ_self _⟩
  ·have hp':=h.own p hp
   rw[Tr.get_set_ne _ _ _ _ (by omega)]
   exact⟨hp'.1,by omega⟩
 ·simp only[ah,List.flatten_cons,List.map_append,List.map_cons,List.map_nil,List.cons_append,List.nil_append,List.nodup_cons]
  refine⟨fun hm=>?_,h.nd⟩
  obtain⟨p,hp,he⟩:=List.mem_map.1 hm
  have:=(h.own p hp).2
  omega
 ·have hf:=h.frz j c e
  rw[Tr.get_set_ne _ _ _ _ (by omega)]
  refine⟨hf.1,by omega,fun hm=>?_⟩
  simp only[ah,List.flatten_cons,List.map_append,List.map_cons,List.map_nil,List.cons_append,List.nil_append,List.mem_cons] at hm
  rcases hm with hm | hm
  ·omega
  ·exact hf.2.2 hm
 ·rw[Tr.get_set_ne _ _ _ _ (by omega)]
  exact h.wf j (by omega)
theorem Mem.freeze (h:Mem H nx ([(i,b)]::S) F):Mem H nx S (fun j=>if j=i then some b else F j)∧FLe F (fun j=>if j=i then some b else F j):=by
 have hi:=h.own (i,b) (by simp)
 refine⟨⟨h.drop1.own,h.drop1.nd,fun j c e=>?_,h.wf⟩,fun j c e=>?_⟩
 ·by_cases hj:j=i
  ·subst hj
   rw[if_pos rfl] at e
   obtain rfl:=Option.some.inj e
   exact⟨hi.1,hi.2,h.notin⟩
  ·rw[if_neg hj] at e
   exact h.drop1.frz j c e
 ·show(if j=i then some b else F j)=some c
  by_cases hj:j=i
  ·subst hj
   exact absurd (by simp[ah]) (h.frz j c e).2.2
  ·rw[if_neg hj]; exact e
end
end Go.Proofs.YtjcbhbncncbdjaaGreatDoorAi
namespace Go.Proofs.YtjcbhbncncbdjaaGreatDoorAi
open Go Go.RowKit
set_option linter.unusedVariables false
set_option linter.unusedSimpArgs false
set_option linter.unusedSectionVars false
abbrev Kn:=List (Nat×Value)
def lkT:Kn→Nat→Option Value
 | [],_=>none
 | (k,v)::l,t=>bif Nat.beq k t then some v else lkT l t
noncomputable def lkO (NG:Nat) (l:Kn):Operand→Option Value
 | .tmp t=>lkT l t
 | x=>some (opv NG .e x)
def Fx (fr:Fr) (l:Kn):Prop:= ∀t v,lkT l t=some v→Fr.get fr t=v
theorem Fx.put {fr:Fr} {l:Kn} (h:Fx fr l) (d:Nat) (v:Value):Fx (bz fr (some d) v) ((d,v)::l):=by
 intro t u hu
 rw[get_put]
 unfold lkT at hu
 by_cases hd:d=t
 ·subst hd
  rw[Nat.beq_refl,cond_true] at hu
  rw[if_pos rfl]
  exact Option.some.inj hu
 ·rw[nbF hd,cond_false] at hu
  rw[if_neg hd]
  exact h t u hu
structure Stt (E:Env) (s:St) (l:Kn) (S:List Seg) (F:FZ) (L:List Seg) (F0:FZ) (nx0:Nat):Prop where
 fx:Fx s.fr l
 mem:Mem s.H s.nx (S++L) F
 le:FLe F0 F
 nx:nx0≤s.nx
 ms:Dj s.ms L F0
section
variable {E:Env} {s:St} {l:Kn} {S:List Seg} {F:FZ} {L:List Seg} {F0:FZ} {nx0:Nat}
theorem Stt.lk (h:Stt E s l S F L F0 nx0) {x:Operand} {v:Value} (e:lkO E.NG l x=some v):opv E.NG s.fr x=v:=by
 cases x with
 | tmp t=>exact h.fx t v e
 | const c=>exact Option.some.inj e
 | global g=>exact Option.some.inj e
 | func f=>exact Option.some.inj e
def Sub (l:Kn):Kn→Prop
 | []=>True
 | (k,v)::r=>lkT l k=some v∧Sub l r
theorem Sub.lk {l:Kn}: ∀{m:Kn},Sub l m→ ∀t v,lkT m t=some v→lkT l t=some v
 | [],_,t,v,h=>by cases h
 | (k,u)::r,hs,t,v,h=>by
  unfold lkT at h
  by_cases hk:k=t
  ·subst hk
   rw[Nat.beq_refl,cond_true] at h
   obtain rfl:=Option.some.inj h
   exact hs.1
  ·rw[nbF hk,cond_false] at h
   exact hs.2.lk t v h
theorem Stt.sub (h:Stt E s l S F L F0 nx0) {m:Kn} (hs:Sub l m):Stt E s m S F L F0 nx0:=⟨fun t v e=>h.fx t v (hs.lk t v e),h.mem,h.le,h.nx,h.ms⟩
theorem bJ (S L:List Seg):(S++L).flatten=S.flatten++L.flatten:=List.flatten_append
theorem Stt.pull (h:Stt E s l S F L F0 nx0) (k:Nat):Stt E s l (mi k S) F L F0 nx0 :=
 ⟨h.fx,h.mem.perm (by rw[bJ,bJ]; exact(gW k S).symm.append_right _),h.le,h.nx,h.ms⟩
theorem Stt.drop {a:Seg} (h:Stt E s l (a::S) F L F0 nx0):Stt E s l S F L F0 nx0:=⟨h.fx,h.mem.drop1,h.le,h.nx,h.ms⟩
theorem Stt.frz {i:Nat} {b:Blk} (h:Stt E s l ([(i,b)]::S) F L F0 nx0):Stt E s l S (fun j=>if j=i then some b else F j) L F0 nx0∧FLe F (fun j=>if j=i then some b else F j) :=
 have hm:Mem s.H s.nx ([(i,b)]::(S++L)) F:=h.mem
 ⟨⟨h.fx,hm.freeze.1,h.le.trans hm.freeze.2,h.nx,h.ms⟩,hm.freeze.2⟩
end
structure Quiet (r:Rec):Prop where
 rd:r.rd=none
 ms:r.ms= []
 hi:r.hi≤r.lo
 call:r.call=false
structure kw (r:Rec):Prop where
 ms:r.ms= []
 hi:r.hi≤r.lo
 call:r.call=false
structure RS (zs:List Nat) (rs:List Rec) (n:Nat) (qs ls:List Nat) (as ns ds:List (Nat×Nat)):Prop where
 len:rs.length=n
 q: ∀k∈qs,k<n∧ ∀r,nth rs k=some r→Quiet r
 l: ∀k∈ls,k<n∧ ∀r,nth rs k=some r→kw r
 a: ∀p∈as,p.1<n∧ ∀r i,nth rs p.1=some r→nth zs p.2=some i→r.has i=false
 nw: ∀p∈ns,p.1<n∧ ∀r i,nth rs p.1=some r→nth zs p.2=some i→r.ms= []∧r.lo=i∧r.hi=i+1∧r.call=false∧r.rd=none
 rd: ∀p∈ds,p.1<n∧ ∀r i,nth rs p.1=some r→nth zs p.2=some i→r.rd=some i
theorem RS.start (zs:List Nat):RS zs [] 0 [] [] [] [] []:=⟨rfl,fun k hk=>(by cases hk),fun k hk=>(by cases hk),fun k hk=>(by cases hk),fun k hk=>(by cases hk),fun k hk=>(by cases hk)⟩
theorem d4 {rs:List Rec} {k:Nat} (r:Rec) (hk:k<rs.length):nth (rs++ [r]) k=nth rs k:=by
 rw[aO,aO,List.getElem?_append_left hk]
theorem cO (rs:List Rec) (r:Rec):nth (rs++ [r]) rs.length=some r:=by
 rw[aO,List.getElem?_append_right (Nat.le_refl _)]; simp
section
variable {zs:List Nat} {rs:List Rec} {n:Nat} {qs ls:List Nat} {as ns ds:List (Nat×Nat)} {r:Rec}
theorem RS.any (h:RS zs rs n qs ls as ns ds) (r:Rec):RS zs (rs++ [r]) (n+1) qs ls as ns ds :=
 ⟨by simp[h.len],fun k hk=>⟨by have:=(h.q k hk).1; omega,fun r' hr=>(h.q k hk).2 r' (by rwa [d4 r (by rw[h.len]; exact(h.q k hk).1)] at hr)⟩,
  fun k hk=>⟨by have:=(h.l k hk).1; omega,fun r' hr=>(h.l k hk).2 r' (by rwa [d4 r (by rw[h.len]; exact(h.l k hk).1)] at hr)⟩,
  fun k hk=>⟨by have:=(h.a k hk).1; omega,fun r' i hr=>(h.a k hk).2 r' i (by rwa [d4 r (by rw[h.len]; exact(h.a k hk).1)] at hr)⟩,
  fun k hk=>⟨by have:=(h.nw k hk).1; omega,fun r' i hr=>(h.nw k hk).2 r' i (by rwa [d4 r (by rw[h.len]; exact(h.nw k hk).1)] at hr)⟩,
  fun k hk=>⟨by have:=(h.rd k hk).1; omega,fun r' i hr=>(h.rd k hk).2 r' i (by rwa [d4 r (by rw[h.len]; exact(h.rd k hk).1)] at hr)⟩⟩
theorem RS.away (h:RS zs rs n qs ls as ns ds) (r:Rec) (js:List Nat) (hj: ∀j∈js,∀i,nth zs j=some i→r.has i=false):RS zs (rs++ [r]) (n+1) qs ls (js.map (fun j=>(n,j))++as) ns ds :=
 ⟨(h.any r).len,(h.any r).q,(h.any r).l,fun p hp=>by
  rcases List.mem_append.1 hp with hp | hp
  ·obtain⟨j,hj',rfl⟩:=List.mem_map.1 hp
   refine⟨by simp,fun r' i e hi=>?_⟩
   have:=cO rs r
   rw[h.len] at this
   rw[this] at e
   obtain rfl:=Option.some.inj e
   exact hj j hj' i hi
  ·exact(h.any r).a p hp,(h.any r).nw,(h.any r).rd⟩
theorem RS.quiet (h:RS zs rs n qs ls as ns ds) (hr:Quiet r):RS zs (rs++ [r]) (n+1) (n::qs) ls as ns ds :=
 ⟨(h.any r).len,fun k hk=>by
  rcases List.mem_cons.1 hk with rfl | hk
  ·refine⟨by omega,fun r' e=>?_⟩
   have:=cO rs r
   rw[h.len] at this
   rw[this] at e
   obtain rfl:=Option.some.inj e
   exact hr
  ·exact(h.any r).q k hk,(h.any r).l,(h.any r).a,(h.any r).nw,(h.any r).rd⟩
theorem RS.look {zs:List Nat} {rs:List Rec} {n m:Nat} {qs ls:List Nat} {as ns ds:List (Nat×Nat)} (h:RS zs rs m qs ls as ns ds) (hn:n<m) {j i:Nat} (hz:nth zs j=some i) (hr: ∀r,nth rs n=some r→r.rd=some i):RS zs rs m qs ls as ns ((n,j)::ds) :=
 ⟨h.len,h.q,h.l,h.a,h.nw,fun p hp=>by
  rcases List.mem_cons.1 hp with rfl | hp
  ·exact⟨hn,fun r x e hx=>by rw[hz] at hx; obtain rfl:=Option.some.inj hx; exact hr r e⟩
  ·exact h.rd p hp⟩
theorem RS.still (h:RS zs rs n qs ls as ns ds) (hr:kw r):RS zs (rs++ [r]) (n+1) qs (n::ls) as ns ds :=
 ⟨(h.any r).len,(h.any r).q,fun k hk=>by
  rcases List.mem_cons.1 hk with rfl | hk
  ·refine⟨by omega,fun r' e=>?_⟩
   have:=cO rs r
   rw[h.len] at this
   rw[this] at e
   obtain rfl:=Option.some.inj e
   exact hr
  ·exact(h.any r).l k hk,(h.any r).a,(h.any r).nw,(h.any r).rd⟩
end
theorem RS.more {zs:List Nat} {rs:List Rec} {n:Nat} {qs ls:List Nat} {as ns ds:List (Nat×Nat)} (h:RS zs rs n qs ls as ns ds) (i:Nat) (hz:as.all (fun p=>Nat.blt p.2 zs.length)=true) (hz2:ns.all (fun p=>Nat.blt p.2 zs.length)=true) (hz3:ds.all (fun p=>Nat.blt p.2 zs.length)=true):RS (zs++ [i]) rs n qs ls as ns ds :=
 ⟨h.len,h.q,h.l,fun p hp=>⟨(h.a p hp).1,fun r j e hj=>(h.a p hp).2 r j e (by
  rw[List.all_eq_true] at hz
  have h1:=hz p hp
  rw[Nat.blt_eq] at h1
  rw[aO] at hj ⊢
  rwa [List.getElem?_append_left h1] at hj)⟩,fun p hp=>⟨(h.nw p hp).1,fun r j e hj=>(h.nw p hp).2 r j e (by
  rw[List.all_eq_true] at hz2
  have h1:=hz2 p hp
  rw[Nat.blt_eq] at h1
  rw[aO] at hj ⊢
  rwa [List.getElem?_append_left h1] at hj)⟩,fun p hp=>⟨(h.rd p hp).1,fun r j e hj=>(h.rd p hp).2 r j e (by
  rw[List.all_eq_true] at hz3
  have h1:=hz3 p hp
  rw[Nat.blt_eq] at h1
  rw[aO] at hj ⊢
  rwa [List.getElem?_append_left h1] at hj)⟩⟩
theorem RS.born {zs:List Nat} {rs:List Rec} {n m:Nat} {qs ls:List Nat} {as ns ds:List (Nat×Nat)} (h:RS zs rs m qs ls as ns ds) {i:Nat} (hn:n<m) (hz:as.all (fun p=>Nat.blt p.2 zs.length)=true) (hz2:ns.all (fun p=>Nat.blt p.2 zs.length)=true) (hz3:ds.all (fun p=>Nat.blt p.2 zs.length)=true) (hr: ∀r,nth rs n=some r→r.ms= []∧r.lo=i∧r.hi=i+1∧r.call=false∧r.rd=none):RS (zs++ [i]) rs m qs ls as ((n,zs.length)::ns) ds :=
 have h1:=h.more i hz hz2 hz3
 ⟨h1.len,h1.q,h1.l,h1.a,fun p hp=>by
  rcases List.mem_cons.1 hp with rfl | hp
  ·refine⟨hn,fun r j e hj=>?_⟩
   have:nth (zs++ [i]) zs.length=some i:=by rw[aO,List.getElem?_append_right (Nat.le_refl _)]; simp
   rw[this] at hj
   obtain rfl:=Option.some.inj hj
   exact hr r e
  ·exact h1.nw p hp,h1.rd⟩
noncomputable def mbN (ns:List (Nat×Nat)) (zs:List Nat):List Nat→List Nat
 | []=>[]
 | k::l=>match ns.find? (fun p=>Nat.beq p.1 k) with
  | some p=>(match nth zs p.2 with | some i=>i::mbN ns zs l | none=>mbN ns zs l)
  | none=>mbN ns zs l
def okU (zs:List Nat) (qs ls:List Nat) (ds ns:List (Nat×Nat)) (js:List Nat):List Nat→Bool
 | []=>true
 | k::l=>(match ns.find? (fun p=>Nat.beq p.1 k) with
  | some p=>js.contains p.2&&Nat.blt p.2 zs.length
  | none=>qs.contains k||(ls.contains k&&ds.any (fun p=>Nat.beq p.1 k&&js.contains p.2&&Nat.blt p.2 zs.length)))&&okU zs qs ls ds ns js l
theorem okU_ok {P:Program} {H':T} {ms:List Nat} {zs:List Nat} {rs:List Rec} {n:Nat} {qs ls:List Nat} {as ns ds:List (Nat×Nat)} {js:List Nat} (hq:RS zs rs n qs ls as ns ds) (hj: ∀j∈js,∀i,nth zs j=some i→i∉ms): ∀{un:List Nat},okU zs qs ls ds ns js un=true →
  aL (ay rs un)=mbN ns zs un∧ ∀r∈ay rs un,(r.call=false∧r.ms= [])∧dc P H' ms r=true:=by
 intro un
 induction un with
 | nil=>intro _; exact⟨rfl,fun r hr=>by cases hr⟩
 | cons k l ih =>
  intro h
  unfold okU at h
  rw[Bool.and_eq_true] at h
  obtain⟨i1,i2⟩:=ih h.2
  have h1:=h.1
  have hnz: ∀j,Nat.blt j zs.length=true→ ∃i,nth zs j=some i:=fun j hb=>by
   rw[Nat.blt_eq] at hb
   exact⟨zs[j],by rw[aO,List.getElem?_eq_getElem hb]⟩
  cases hf:ns.find? (fun p=>Nat.beq p.1 k) with
  | some p =>
   rw[hf] at h1
   simp only[Bool.and_eq_true] at h1
   have hp:=List.find?_some hf
   have hm:=List.mem_of_find?_eq_some hf
   have hk:p.1=k:=Nat.eq_of_beq_eq_true hp
   obtain⟨i,hi⟩:=hnz p.2 h1.2
   obtain⟨hlt,hnw⟩:=hq.nw p hm
   have hr: ∃r,nth rs k=some r:=⟨rs[k]'(by rw[hq.len,← hk]; exact hlt),by rw[aO,List.getElem?_eq_getElem]⟩
   obtain⟨r,hr⟩:=hr
   obtain⟨q1,q2,q3,q4,q5⟩:=hnw r i (by rw[hk]; exact hr) hi
   have hnm:i∉ms:=hj p.2 (by simpa using h1.1) i hi
   have e1:ay rs (k::l)=r::ay rs l:=by show(match nth rs k with | some r=>r::ay rs l | Option.none=>ay rs l)=_; rw[hr]
   have e2:mbN ns zs (k::l)=i::mbN ns zs l:=by
    show(match ns.find? (fun p=>Nat.beq p.1 k) with | some p=>(match nth zs p.2 with | some i=>i::mbN ns zs l | none=>mbN ns zs l) | none=>mbN ns zs l)=_
    rw[hf]; simp only[hi]
   rw[e1,e2]
   refine⟨?_,fun r' hr'=>?_⟩
   ·show aL (r::ay rs l)=_
    unfold aL
    rw[q2,q3,show Nat.blt i (i+1)=true from by rw[Nat.blt_eq]; omega,cond_true,i1]
   ·rcases List.mem_cons.1 hr' with rfl | hr'
    ·refine⟨⟨q4,q1⟩,?_⟩
     unfold dc okRd
     rw[q5,q2]
     simp[hnm]
    ·exact i2 r' hr'
  | none =>
   rw[hf] at h1
   simp only[Bool.or_eq_true,Bool.and_eq_true] at h1
   have hst: ∀r,nth rs k=some r→kw r:=fun r e=>by
    rcases h1 with h1 | h1
    ·have:=(hq.q k (by simpa using h1)).2 r e
     exact⟨this.ms,this.hi,this.call⟩
    ·exact(hq.l k (by simpa using h1.1)).2 r e
   have e2:mbN ns zs (k::l)=mbN ns zs l:=by
    show(match ns.find? (fun p=>Nat.beq p.1 k) with | some p=>(match nth zs p.2 with | some i=>i::mbN ns zs l | none=>mbN ns zs l) | none=>mbN ns zs l)=_
    rw[hf]
   rw[e2]
   cases hr:nth rs k with
   | none =>
    have e1:ay rs (k::l)=ay rs l:=by show(match nth rs k with | some r=>r::ay rs l | Option.none=>ay rs l)=_; rw[hr]
    rw[e1]; exact⟨i1,i2⟩
   | some r =>
    have e1:ay rs (k::l)=r::ay rs l:=by show(match nth rs k with | some r=>r::ay rs l | Option.none=>ay rs l)=_; rw[hr]
    rw[e1]
    have hs:=hst r hr
    refine⟨?_,fun r' hr'=>?_⟩
    ·show aL (r::ay rs l)=_
     unfold aL
     have hb:Nat.blt r.lo r.hi=false:=by
      cases hh:Nat.blt r.lo r.hi with
      | false=>rfl
      | true=>rw[Nat.blt_eq] at hh; have:=hs.hi; omega
     rw[hb,cond_false,i1]
    ·rcases List.mem_cons.1 hr' with rfl | hr'
     ·refine⟨⟨hs.call,hs.ms⟩,?_⟩
      unfold dc
      rw[Nat.ble_eq_true_of_le hs.hi,Bool.true_or,Bool.and_true]
      rcases h1 with h1 | h1
      ·have:=(hq.q k (by simpa using h1)).2 r' hr
       rw[this.rd]; rfl
      ·obtain⟨p,hp,hpp⟩:=List.any_eq_true.1 h1.2
       simp only[Bool.and_eq_true] at hpp
       have hk:p.1=k:=Nat.eq_of_beq_eq_true hpp.1.1
       obtain⟨i,hi⟩:=hnz p.2 hpp.2
       have hrd:=(hq.rd p hp).2 r' i (by rw[hk]; exact hr) hi
       have hnm:i∉ms:=hj p.2 (by simpa using hpp.1.2) i hi
       rw[hrd]
       unfold okRd
       simp[hnm]
     ·exact i2 r' hr'
def lD:List Nat→List Nat→List (Nat×Nat)→Nat→Bool
 | [],_,_,_=>true
 | k::l,q,as,j=>(q.contains k||as.contains (k,j))&&lD l q as j
theorem oH {l q:List Nat} {as:List (Nat×Nat)} {j:Nat} (h:lD l q as j=true): ∀k∈l,k∈q∨(k,j)∈as:=by
 induction l with
 | nil=>intro k hk; cases hk
 | cons a l ih =>
  unfold lD at h
  rw[Bool.and_eq_true,Bool.or_eq_true] at h
  intro k hk
  rcases List.mem_cons.1 hk with rfl | hk
  ·exact h.1.imp (by simp) (by simp)
  ·exact ih h.2 k hk
theorem gZ {rs:List Rec} {r:Rec}: ∀{un:List Nat},r∈ay rs un→ ∃k∈un,nth rs k=some r
 | [],h=>by cases h
 | k::l,h=>by
  unfold ay at h
  split at h
  ·rename_i r' hr
   rcases List.mem_cons.1 h with rfl | h
   ·exact⟨k,List.mem_cons_self,hr⟩
   ·obtain⟨j,hj,e⟩:=gZ h
    exact⟨j,List.mem_cons_of_mem _ hj,e⟩
  ·obtain⟨j,hj,e⟩:=gZ h
   exact⟨j,List.mem_cons_of_mem _ hj,e⟩
theorem okU_upd {P:Program} {i:Nat} {b:Blk} {zs:List Nat} {rs:List Rec} {n:Nat} {qs ls:List Nat} {as ns ds:List (Nat×Nat)} {js:List Nat} (hq:RS zs rs n qs ls as ns ds) (hj: ∀j∈js,∀i',nth zs j=some i'→i'≠i): ∀{un:List Nat},okU zs qs ls ds ns js un=true→ ∀r∈ay rs un,dh P (some i) (.upd b) r=true:=by
 intro un
 induction un with
 | nil=>intro _ r hr; cases hr
 | cons k l ih =>
  intro h r hr
  unfold okU at h
  rw[Bool.and_eq_true] at h
  have hnz: ∀j,Nat.blt j zs.length=true→ ∃i,nth zs j=some i:=fun j hb=>by
   rw[Nat.blt_eq] at hb
   exact⟨zs[j],by rw[aO,List.getElem?_eq_getElem hb]⟩
  have hsplit:r∈ay rs l∨nth rs k=some r:=by
   have hr':r∈(match nth rs k with | some r=>r::ay rs l | Option.none=>ay rs l):=hr
   cases hk:nth rs k with
   | none=>rw[hk] at hr'; exact .inl hr'
   | some r' =>
    rw[hk] at hr'
    rcases List.mem_cons.1 hr' with rfl | hr'
    ·exact .inr rfl
    ·exact .inl hr'
  rcases hsplit with hr | hr
  ·exact ih h.2 r hr
  have h1:=h.1
  have key:r.ms= []→r.call=false→(∀x,r.rd=some x→x≠i)→(Nat.ble r.lo i&&Nat.blt i r.hi)=false→dh P (some i) (.upd b) r=true:=fun a1 a2 a3 a4=>by
   have hrd:(r.rd != some i)=true:=by
    cases e:r.rd with
    | none=>rfl
    | some x=>have:=a3 x e; simp[this]
   unfold dh Rec.has
   simp only[a1,a2,a4,hrd]; rfl
  cases hf:ns.find? (fun p=>Nat.beq p.1 k) with
  | some p =>
   rw[hf] at h1
   simp only[Bool.and_eq_true] at h1
   have hm:=List.mem_of_find?_eq_some hf
   have hk:p.1=k:=Nat.eq_of_beq_eq_true (by simpa using List.find?_some hf)
   obtain⟨x,hx⟩:=hnz p.2 h1.2
   obtain⟨q1,q2,q3,q4,q5⟩:=(hq.nw p hm).2 r x (by rw[hk]; exact hr) hx
   have hne:=hj p.2 (by simpa using h1.1) x hx
   refine key q1 q4 (fun y hy=>by rw[q5] at hy; cases hy) ?_
   rw[q2,q3]
   cases hb:Nat.ble x i&&Nat.blt i (x+1) with
   | false=>rfl
   | true=>rw[Bool.and_eq_true,Nat.blt_eq] at hb; have:=Nat.le_of_ble_eq_true hb.1; omega
  | none =>
   rw[hf] at h1
   simp only[Bool.or_eq_true,Bool.and_eq_true] at h1
   have hlo: ∀(hi:r.hi≤r.lo),(Nat.ble r.lo i&&Nat.blt i r.hi)=false:=fun hi=>by
    cases hb:Nat.ble r.lo i&&Nat.blt i r.hi with
    | false=>rfl
    | true=>rw[Bool.and_eq_true,Nat.blt_eq] at hb; have:=Nat.le_of_ble_eq_true hb.1; omega
   rcases h1 with h1 | h1
   ·have hQ:=(hq.q k (by simpa using h1)).2 r hr
    exact key hQ.ms hQ.call (fun y hy=>by rw[hQ.rd] at hy; cases hy) (hlo hQ.hi)
   ·have hS:=(hq.l k (by simpa using h1.1)).2 r hr
    obtain⟨p,hp,hpp⟩:=List.any_eq_true.1 h1.2
    simp only[Bool.and_eq_true] at hpp
    have hk:p.1=k:=Nat.eq_of_beq_eq_true hpp.1.1
    obtain⟨x,hx⟩:=hnz p.2 hpp.2
    have hrd:=(hq.rd p hp).2 r x (by rw[hk]; exact hr) hx
    exact key hS.ms hS.call (fun y hy=>by rw[hrd] at hy; obtain rfl:=Option.some.inj hy; exact hj p.2 (by simpa using hpp.1.2) _ hx) (hlo hS.hi)
theorem m9 {r:Rec} {j:Nat} (hst:kw r):r.has j=false:=by
 unfold Rec.has
 have:(Nat.ble r.lo j&&Nat.blt j r.hi)=false:=by
  have:=hst.hi
  cases hb:Nat.ble r.lo j&&Nat.blt j r.hi with
  | false=>rfl
  | true=>rw[Bool.and_eq_true,Nat.blt_eq] at hb; have:=Nat.le_of_ble_eq_true hb.1; omega
 simp only[hst.ms,this]; rfl
theorem RS.has {zs:List Nat} {rs:List Rec} {n:Nat} {qs ls:List Nat} {as ns ds:List (Nat×Nat)} {un:List Nat} {i j:Nat} (hq:RS zs rs n qs ls as ns ds) (hjj:nth zs j=some i) (hsub:lD un (qs++ls) as j=true): ∀k∈un,∀r,nth rs k=some r→r.has i=false:=fun k hk r e=>by
 rcases oH hsub k hk with hk2 | hk2
 ·refine m9 ?_
  rcases List.mem_append.1 hk2 with hk2 | hk2
  ·have:=(hq.q k hk2).2 r e
   exact⟨this.ms,this.hi,this.call⟩
  ·exact(hq.l k hk2).2 r e
 ·exact(hq.a _ hk2).2 r i e hjj
def cb:Option (List (List Nat))→List Nat
 | some (u::_)=>u
 | _=>[]
def bK:Option (List (List Nat))→Option (List (List Nat))
 | some (_::i)=>some i
 | _=>none
def KW (E:Env) (l:List Oper) (ops:Array Oper) (inf:Option (List (List Nat))) (rs:List Rec) (s:St) (Q:St→Prop):Prop :=
 match inf with
 | none=>SW E l ops s Q
 | some i=>DW E l i ops rs s Q
def okI:Option (List (List Nat))→Bool
 | some []=>false
 | _=>true
section
variable {E:Env} {s:St} {l:List Oper} {ops:Array Oper} {o:Oper} {inf:Option (List (List Nat))} {zs:List Nat} {rs:List Rec} {n:Nat} {qs ls:List Nat} {as ns ds:List (Nat×Nat)} {Q:St→Prop} {Qe:Exit→St→Prop}
theorem WW.region {id:Nat} {ops:Array Oper} (h:KW E ops.toList ops none [] s (Qe .normal)):WW E (.region id ops false) s Qe:=by
 obtain⟨s',n0,h1,h2⟩:=h
 refine⟨.normal,s',n0,fun n hn k=>?_,h2⟩
 show bI k (cG ops.toList ops E (run E n) s)=_
 rw[h1 n hn]; rfl
theorem WW.regionD {id:Nat} {ops:Array Oper} {i:List (List Nat)} (hi:ir ops ops.toList [] []=some i) (h:KW E ops.toList ops (some i) [] s (Qe .normal)):WW E (.region id ops true) s Qe:=by
 obtain⟨s',n0,h1,h2⟩:=h
 refine⟨.normal,s',n0,fun n hn k=>?_,h2⟩
 show bI k (lY ops E (run E n) s (ir ops ops.toList [] []))=_
 rw[hi]
 show bI k (cH ops.toList i ops E (run E n) [] s)=_
 rw[h1 n hn]; rfl
theorem KW.nil (h:Q s):KW E [] ops inf rs s Q:=by
 cases inf with
 | none=>exact⟨s,0,fun _ _=>rfl,h⟩
 | some i=>exact⟨s,0,fun _ _=>rfl,h⟩
theorem bO {α:Type} {b:Bool} {x y:α} (h:b=true):(bif b then x else y)=x:=by subst h; rfl
theorem KW.step {s':St} (hi:okI inf=true) (hw:ae ops s.fr o=some true) (hs: ∃n0,∀n,n0≤n→bm E (run E n) o s=some s')
  (hd: ∀un i,inf=some (un::i)→ ∃r n0,(∀n,n0≤n→bN E (run E n) o s (ay rs un)=some (s',r))∧DW E l i ops (rs++ [r]) s' Q)
  (hn:inf=none→SW E l ops s' Q):KW E (o::l) ops inf rs s Q:=by
 match inf with
 | none =>
  obtain⟨s2,n2,h3,h4⟩:=hn rfl
  obtain⟨n0,h1⟩:=hs
  refine⟨s2,max n0 n2,fun n hk=>?_,h4⟩
  rw[bg,hw]
  show cg (cG l) ops E (run E n) (bm E (run E n) o s)=_
  rw[h1 n (by omega)]
  exact h3 n (by omega)
 | some []=>cases hi
 | some (un::i) =>
  obtain⟨r,n0,h1,s2,n2,h3,h4⟩:=hd un i rfl
  refine⟨s2,max n0 n2,fun n hk=>?_,h4⟩
  show bU (cH l) i ops E (run E n) rs (di E (run E n) o s (ay rs un) (ae ops s.fr o))=_
  rw[hw]
  show bU (cH l) i ops E (run E n) rs (bN E (run E n) o s (ay rs un))=_
  rw[h1 n (by omega)]
  exact h3 n (by omega)
theorem KW.op {v:Value} (hi:okI inf=true) (hw:ae ops s.fr o=some true) (hc:aw o.op=false) (hq:RS zs rs n qs ls as ns ds) (id:Option Nat) (ht:aq o.op (opv E.NG s.fr)=id) (hv:ai o.op E.P s.nx o.type (opv E.NG s.fr) (id.bind s.H.get)=some (v,.none))
  (hu: ∀i,id=some i→ ∀k∈cb inf,∀r,nth rs k=some r→r.has i=false) (h: ∀rs',(id=none→RS zs rs' (n+1) (n::qs) ls as ns ds)→RS zs rs' (n+1) qs (n::ls) as ns ds→(∀r,nth rs' n=some r→r.rd=id)→KW E l ops (bK inf) rs' ⟨bz s.fr o.dst v,s.H,s.nx,s.ms⟩ Q):KW E (o::l) ops inf rs s Q:=by
 refine KW.step hi hw ⟨0,fun n _=>?_⟩ (fun un i hinf=>?_) (fun hinf=>?_) (s':=⟨bz s.fr o.dst v,s.H,s.nx,s.ms⟩)
 ·unfold bm
  rw[hc,cond_false]
  unfold du dt
  rw[ht,hv]; rfl
 ·subst hinf
  let r:Rec:=⟨id,[],s.nx,s.nx,false,fu (opv E.NG s.fr) o v⟩
  have hst:kw r:=⟨rfl,Nat.le_refl _,rfl⟩
  refine⟨r,0,fun n _=>?_,h (rs++ [r]) (fun e=>hq.quiet ⟨e,rfl,Nat.le_refl _,rfl⟩) (hq.still hst) (fun r' e=>by rw[← hq.len,cO] at e; obtain rfl:=Option.some.inj e; rfl)⟩
  unfold bN
  rw[hc,cond_false]
  unfold et
  rw[ht,hv]
  show(bif (ay rs un).all (dh E.P id .none) then _ else _)=_
  refine bO ?_
  rw[List.all_eq_true]
  intro r' hr'
  cases id with
  | none=>rfl
  | some j =>
   obtain⟨k,hk,e⟩:=gZ hr'
   have hhas:r'.has j=false:=hu j rfl k hk r' e
   unfold dh
   simp only[hhas]; rfl
 ·subst hinf
  exact h (rs++ [⟨id,[],s.nx,s.nx,false,fu (opv E.NG s.fr) o v⟩]) (fun e=>hq.quiet ⟨e,rfl,Nat.le_refl _,rfl⟩) (hq.still ⟨rfl,Nat.le_refl _,rfl⟩) (fun r' e=>by rw[← hq.len,cO] at e; obtain rfl:=Option.some.inj e; rfl)
theorem KW.new {v:Value} {b:Blk} (hi:okI inf=true) (hw:ae ops s.fr o=some true) (hc:aw o.op=false) (hq:RS zs rs n qs ls as ns ds) (ht:aq o.op (opv E.NG s.fr)=none) (hv:ai o.op E.P s.nx o.type (opv E.NG s.fr) none=some (v,.new b))
  (js:List Nat) (hj: ∀j∈js,∀i',nth zs j=some i'→(⟨none,[],s.nx,s.nx+1,false,fu (opv E.NG s.fr) o v⟩:Rec).has i'=false) (h: ∀rs',RS zs rs' (n+1) qs ls (js.map (fun j=>(n,j))++as) ns ds→(∀r,nth rs' n=some r→r.ms= []∧r.lo=s.nx∧r.hi=s.nx+1∧r.call=false∧r.rd=none)→KW E l ops (bK inf) rs' ⟨bz s.fr o.dst v,s.H.set s.nx (some b),s.nx+1,s.ms⟩ Q):KW E (o::l) ops inf rs s Q:=by
 refine KW.step hi hw ⟨0,fun n _=>?_⟩ (fun un i hinf=>?_) (fun hinf=>?_) (s':=⟨bz s.fr o.dst v,s.H.set s.nx (some b),s.nx+1,s.ms⟩)
 ·unfold bm
  rw[hc,cond_false]
  unfold du dt
  rw[ht]
  show iJ o s none (ai o.op E.P s.nx o.type (opv E.NG s.fr) none)=_
  rw[hv]; rfl
 ·subst hinf
  let r:Rec:=⟨none,[],s.nx,s.nx+1,false,fu (opv E.NG s.fr) o v⟩
  refine⟨r,0,fun n _=>?_,h (rs++ [r]) (hq.away r js hj) (fun r' e=>by rw[← hq.len,cO] at e; obtain rfl:=Option.some.inj e; exact⟨rfl,rfl,rfl,rfl,rfl⟩)⟩
  unfold bN
  rw[hc,cond_false]
  unfold et
  rw[ht]
  show dv o (ay rs un) E s (opv E.NG s.fr) none (ai o.op E.P s.nx o.type (opv E.NG s.fr) none)=_
  rw[hv]
  show(bif (ay rs un).all (dh E.P none (.new b)) then _ else _)=_
  exact bO (by rw[List.all_eq_true]; intro r' hr'; rfl)
 ·subst hinf
  exact h (rs++ [⟨none,[],s.nx,s.nx+1,false,fu (opv E.NG s.fr) o v⟩]) (hq.away _ js hj) (fun r' e=>by rw[← hq.len,cO] at e; obtain rfl:=Option.some.inj e; exact⟨rfl,rfl,rfl,rfl,rfl⟩)
theorem KW.upd {v:Value} {b:Blk} {i:Nat} (hi:okI inf=true) (hw:ae ops s.fr o=some true) (hc:aw o.op=false) (hq:RS zs rs n qs ls as ns ds) (ht:aq o.op (opv E.NG s.fr)=some i) (hv:ai o.op E.P s.nx o.type (opv E.NG s.fr) (s.H.get i)=some (v,.upd b))
  (js:List Nat) (hu:okU zs qs ls ds ns js (cb inf)=true) (hj: ∀j∈js,∀i',nth zs j=some i'→i'<s.nx∧i'≠i) (h: ∀rs',RS zs rs' (n+1) qs ls (js.map (fun j=>(n,j))++as) ns ds→KW E l ops (bK inf) rs' ⟨bz s.fr o.dst v,s.H.set i (some b),s.nx,ck [i] s.ms⟩ Q):KW E (o::l) ops inf rs s Q:=by
 have hj0: ∀j∈js,∀i',nth zs j=some i'→(⟨some i,[i],s.nx,s.nx,false,fu (opv E.NG s.fr) o v⟩:Rec).has i'=false:=fun j hjj i' e=>by
  obtain⟨h1,h2⟩:=hj j hjj i' e
  unfold Rec.has
  have:Nat.ble s.nx i'=false:=by
   cases hb:Nat.ble s.nx i' with
   | false=>rfl
   | true=>have:=Nat.le_of_ble_eq_true hb; omega
  simp[this,h2]
 refine KW.step hi hw ⟨0,fun n _=>?_⟩ (fun un inf' hinf=>?_) (fun hinf=>?_) (s':=⟨bz s.fr o.dst v,s.H.set i (some b),s.nx,ck [i] s.ms⟩)
 ·unfold bm
  rw[hc,cond_false]
  unfold du dt
  rw[ht]
  show iJ o s (some i) (ai o.op E.P s.nx o.type (opv E.NG s.fr) (s.H.get i))=_
  rw[hv]; rfl
 ·subst hinf
  let r:Rec:=⟨some i,[i],s.nx,s.nx,false,fu (opv E.NG s.fr) o v⟩
  refine⟨r,0,fun n _=>?_,h (rs++ [r]) (hq.away r js hj0)⟩
  unfold bN
  rw[hc,cond_false]
  unfold et
  rw[ht]
  show dv o (ay rs un) E s (opv E.NG s.fr) (some i) (ai o.op E.P s.nx o.type (opv E.NG s.fr) (s.H.get i))=_
  rw[hv]
  show(bif (ay rs un).all (dh E.P (some i) (.upd b)) then _ else _)=_
  refine bO ?_
  rw[List.all_eq_true]
  intro r' hr'
  exact okU_upd hq (fun j hjj i' e=>(hj j hjj i' e).2) hu r' hr'
 ·subst hinf
  exact h (rs++ [⟨some i,[i],s.nx,s.nx,false,fu (opv E.NG s.fr) o v⟩]) (hq.away _ js hj0)
theorem KW.call {v:Value} {H:T} {nx:Nat} {ms:List Nat} (hs:List Nat) (hi:okI inf=true) (hw:ae ops s.fr o=some true) (hc:aw o.op=true) (hq:RS zs rs n qs ls as ns ds) (hv: ∃n0,∀n,n0≤n→bj o.op E (run E n) (opv E.NG s.fr) (hide s.H hs) s.nx=some (v,H,nx,ms))
  (js:List Nat) (hu:okU zs qs ls ds ns js (cb inf)=true) (hm:mbN ns zs (cb inf)=hs) (hj: ∀j∈js,∀i',nth zs j=some i'→i'<s.nx∧i'∉ms) (h: ∀rs',RS zs rs' (n+1) qs ls (js.map (fun j=>(n,j))++as) ns ds→KW E l ops (bK inf) rs' ⟨bz s.fr o.dst v,bring s.H H hs,nx,ck ms s.ms⟩ Q):KW E (o::l) ops inf rs s Q:=by
 obtain⟨n0,hv⟩:=hv
 have haw: ∀j∈js,∀i',nth zs j=some i'→(⟨none,ms,s.nx,nx,true,none⟩:Rec).has i'=false:=fun j hjj i' e=>by
  obtain⟨h1,h2⟩:=hj j hjj i' e
  unfold Rec.has
  have:Nat.ble s.nx i'=false:=by
   cases hb:Nat.ble s.nx i' with
   | false=>rfl
   | true=>have:=Nat.le_of_ble_eq_true hb; omega
  simp[this,h2]
 match inf with
 | none =>
  have hs0:hs= []:=hm.symm
  subst hs0
  refine KW.step rfl hw ⟨n0,fun n hn=>?_⟩ (fun un inf' hinf=>by cases hinf) (fun hinf=>?_) (s':=⟨bz s.fr o.dst v,bring s.H H [],nx,ck ms s.ms⟩)
  ·unfold bm
   rw[hc,cond_true]
   unfold jg
   rw[show s.H=hide s.H [] from rfl,hv n hn]; rfl
  ·exact h (rs++ [⟨none,ms,s.nx,nx,true,none⟩]) (hq.away _ js haw)
 | some []=>cases hi
 | some (un::i) =>
  obtain⟨hmb,hall⟩:=okU_ok (P:=E.P) (H':=H) (ms:=ms) hq (fun j hjj i' e=>(hj j hjj i' e).2) hu
  have hmb:aL (ay rs un)=hs:=hmb.trans hm
  obtain⟨s2,n2,h3,h4⟩:=h (rs++ [⟨none,ms,s.nx,nx,true,none⟩]) (hq.away _ js haw)
  refine⟨s2,max n0 n2,fun n hk=>?_,h4⟩
  show bU (cH l) i ops E (run E n) rs (di E (run E n) o s (ay rs un) (ae ops s.fr o))=_
  rw[hw]
  show bU (cH l) i ops E (run E n) rs (bN E (run E n) o s (ay rs un))=_
  unfold bN
  rw[hc,cond_true]
  unfold eq
  rw[bO (b:=(ay rs un).all fun r=> !r.call&&r.ms.isEmpty) (by
   rw[List.all_eq_true]; intro r' hr'; have:=(hall r' hr').1; simp only[this.1,this.2]; rfl),hmb]
  unfold ep
  rw[hv n (by omega)]
  show bU (cH l) i ops E (run E n) rs (bif (ay rs un).all (dc E.P H ms) then _ else _)=_
  rw[bO (by rw[List.all_eq_true]; exact fun r' hr'=>(hall r' hr').2),hmb]
  exact h3 n (by omega)
theorem KW.not (hi:okI inf=true) (hw:ae ops s.fr o=some false) (hq:RS zs rs n qs ls as ns ds) (h: ∀rs',RS zs rs' (n+1) (n::qs) ls as ns ds→KW E l ops (bK inf) rs' ⟨bz s.fr o.dst undef,s.H,s.nx,s.ms⟩ Q):KW E (o::l) ops inf rs s Q:=by
 match inf with
 | none =>
  obtain⟨s2,n2,h3,h4⟩:=h (rs++ [⟨none,[],s.nx,s.nx,false,none⟩]) (hq.quiet ⟨rfl,rfl,Nat.le_refl _,rfl⟩)
  refine⟨s2,n2,fun n hk=>?_,h4⟩
  rw[bg,hw]
  exact h3 n hk
 | some []=>cases hi
 | some (un::i) =>
  obtain⟨s2,n2,h3,h4⟩:=h (rs++ [⟨none,[],s.nx,s.nx,false,none⟩]) (hq.quiet ⟨rfl,rfl,Nat.le_refl _,rfl⟩)
  refine⟨s2,n2,fun n hk=>?_,h4⟩
  show bU (cH l) i ops E (run E n) rs (di E (run E n) o s (ay rs un) (ae ops s.fr o))=_
  rw[hw]
  exact h3 n hk
end
end Go.Proofs.YtjcbhbncncbdjaaGreatDoorAi
namespace Go.Proofs.YtjcbhbncncbdjaaGreatDoorAi
open Go Go.RowKit
set_option linter.unusedVariables false
set_option linter.unusedSimpArgs false
set_option linter.unusedSectionVars false
structure El (α:Type) where
 sz:Nat
 e:TypeId
 R:FZ→α→List Value→Prop
 len: ∀{F x c},R F x c→c.length=sz
 pos:0<sz
 mono: ∀{F F' x c},FLe F F'→R F x c→R F' x c
def af {α:Type} (d:El α) (F:FZ):List α→List Value→Prop
 | [],cs=>cs= []
 | x::l,cs=> ∃c r,cs=c++r∧d.R F x c∧af d F l r
noncomputable def gt {α:Type} [Inhabited α] (l:List α) (j:Int):α:=l.getD j.toNat default
section
variable {α:Type} {d:El α} {F F':FZ} {l m:List α} {cs ds:List Value}
theorem af.len: ∀{l:List α} {cs:List Value},af d F l cs→cs.length=l.length*d.sz
 | [],cs,h=>by rw[h]; simp
 | x::l,cs,⟨c,r,e,h1,h2⟩=>by rw[e,List.length_append,d.len h1,h2.len,List.length_cons,Nat.succ_mul,Nat.add_comm]
theorem af.mono (hf:FLe F F'): ∀{l:List α} {cs:List Value},af d F l cs→af d F' l cs
 | [],cs,h=>h
 | x::l,cs,⟨c,r,e,h1,h2⟩=>⟨c,r,e,d.mono hf h1,h2.mono hf⟩
theorem af.append: ∀{l:List α} {cs:List Value},af d F l cs→af d F m ds→af d F (l++m) (cs++ds)
 | [],cs,h,k=>by rw[h]; exact k
 | x::l,cs,⟨c,r,e,h1,h2⟩,k=>⟨c,r++ds,by rw[e,List.append_assoc],h1,h2.append k⟩
theorem af.one {x:α} {c:List Value} (h:d.R F x c):af d F [x] c:=⟨c,[],by simp,h,rfl⟩
theorem af.take: ∀{l:List α} {cs:List Value} (k:Nat),af d F l cs→af d F (l.take k) (cs.take (k*d.sz))
 | l,cs,0,h=>by simp[af]
 | [],cs,k+1,h=>by rw[h]; simp[af]
 | x::l,cs,k+1,⟨c,r,e,h1,h2⟩=>by
  refine⟨c,r.take (k*d.sz),?_,h1,h2.take k⟩
  have hl:=d.len h1
  rw[e,List.take_append,hl,Nat.succ_mul,Nat.add_sub_cancel,List.take_of_length_le (by omega)]
theorem af.drop: ∀{l:List α} {cs:List Value} (k:Nat),af d F l cs→af d F (l.drop k) (cs.drop (k*d.sz))
 | l,cs,0,h=>by simpa using h
 | [],cs,k+1,h=>by rw[h]; simp[af]
 | x::l,cs,k+1,⟨c,r,e,h1,h2⟩=>by
  have hl:=d.len h1
  have h0:c.drop (k*d.sz+d.sz)= []:=List.drop_of_length_le (by rw[hl]; exact Nat.le_add_left _ _)
  rw[e,List.drop_succ_cons,Nat.succ_mul,List.drop_append,hl,Nat.add_sub_cancel,h0,List.nil_append]
  exact h2.drop k
theorem af.get [Inhabited α]: ∀{l:List α} {cs:List Value} {j:Nat},af d F l cs→j<l.length→ ∃c,d.R F (l.getD j default) c∧(cs.drop (j*d.sz)).take d.sz=c∧j*d.sz+d.sz≤cs.length
 | [],cs,j,h,hj=>absurd hj (by simp)
 | x::l,cs,0,⟨c,r,e,h1,h2⟩,hj=>⟨c,h1,by rw[e,Nat.zero_mul,List.drop_zero,← d.len h1,List.take_left],by rw[e,List.length_append,d.len h1]; omega⟩
 | x::l,cs,j+1,⟨c,r,e,h1,h2⟩,hj=>by
  obtain⟨c',k1,k2,k3⟩:=h2.get (j:=j) (by simp at hj; omega)
  have hl:=d.len h1
  refine⟨c',by simpa using k1,?_,by rw[e,List.length_append,hl,Nat.succ_mul]; omega⟩
  rw[e,Nat.succ_mul,List.drop_append,hl,Nat.add_sub_cancel,List.drop_of_length_le (by omega),List.nil_append]
  exact k2
theorem af.elem [Inhabited α] (h:af d F l cs) (ex:List Value) {j:Int} (h0:0≤j) (h1:j<(l.length:Int)): ∃c,d.R F (gt l j) c∧aR (cs++ex) (j.toNat*d.sz) d.sz=some c∧ ∀k,k<d.sz→nth (cs++ex) (j.toNat*d.sz+k)=c[k]? := by
 obtain⟨c,k1,k2,k3⟩:=h.get (j:=j.toNat) (by omega)
 refine⟨c,k1,?_,fun k hk=>?_⟩
 ·unfold aR
  rw[bO (Nat.ble_eq_true_of_le (by rw[List.length_append]; omega))]
  rw[List.drop_append,List.take_append,List.length_drop]
  have:d.sz-(cs.length-j.toNat*d.sz)=0:=by omega
  rw[this,List.take_zero,List.append_nil,k2]
 ·rw[aO,List.getElem?_append_left (by omega),← k2,List.getElem?_take_of_lt hk,List.getElem?_drop]
end
def Own {α:Type} (d:El α) (F:FZ) (a:Option Addr) (z:Nat) (l:List α) (B:Seg):Prop :=
 (a=none∧z=0∧l= []∧B= [])∨ ∃i cs ex,a=some ⟨i,0,none⟩∧z=d.sz∧B= [(i,.row (cs++ex) d.e d.sz true)]∧af d F l cs
def Frz {α:Type} (d:El α) (F:FZ) (a:Option Addr) (z:Nat) (l:List α):Prop :=
 (a=none∧z=0∧l= [])∨ ∃i off cs e ez own,a=some ⟨i,off,none⟩∧(z=0∨z=d.sz)∧F i=some (.row cs e ez own)∧af d F l ((cs.drop off).take (l.length*d.sz))∧off+l.length*d.sz≤cs.length
section
variable {α:Type} {d:El α} {F F':FZ} {a:Option Addr} {z:Nat} {l:List α} {B:Seg}
theorem Own.mono (hf:FLe F F') (h:Own d F a z l B):Own d F' a z l B:=by
 rcases h with h | ⟨i,cs,ex,h1,h2,h3,h4⟩
 ·exact .inl h
 ·exact .inr ⟨i,cs,ex,h1,h2,h3,h4.mono hf⟩
theorem Frz.mono (hf:FLe F F') (h:Frz d F a z l):Frz d F' a z l:=by
 rcases h with h | ⟨i,off,cs,e,ez,own,h1,h2,h3,h4,h5⟩
 ·exact .inl h
 ·exact .inr ⟨i,off,cs,e,ez,own,h1,h2,hf _ _ h3,h4.mono hf,h5⟩
theorem Own.nil:Own d F none 0 ([]:List α) []:= .inl ⟨rfl,rfl,rfl,rfl⟩
theorem Frz.nil:Frz d F none 0 ([]:List α):= .inl ⟨rfl,rfl,rfl⟩
theorem Own.blk {i:Nat} {cs:List Value} (ex:List Value) (h:af d F l cs):Own d F (some ⟨i,0,none⟩) d.sz l [(i,.row (cs++ex) d.e d.sz true)]:= .inr ⟨i,cs,ex,rfl,rfl,rfl,h⟩
theorem Own.blk0 {i:Nat} {cs:List Value} (h:af d F l cs):Own d F (some ⟨i,0,none⟩) d.sz l [(i,.row cs d.e d.sz true)]:= .inr ⟨i,cs,[],rfl,rfl,by rw[List.append_nil],h⟩
theorem Own.some_ (h:Own d F a z l B) (hl:0<l.length): ∃i cs ex,a=some ⟨i,0,none⟩∧z=d.sz∧B= [(i,.row (cs++ex) d.e d.sz true)]∧af d F l cs:=by
 rcases h with⟨_,_,rfl,_⟩ | h
 ·simp at hl
 ·exact h
theorem Frz.some_ (h:Frz d F a z l) (hl:0<l.length): ∃i off cs e ez own,a=some ⟨i,off,none⟩∧(z=0∨z=d.sz)∧F i=some (.row cs e ez own)∧af d F l ((cs.drop off).take (l.length*d.sz))∧off+l.length*d.sz≤cs.length:=by
 rcases h with⟨_,_,rfl⟩ | h
 ·simp at hl
 ·exact h
end
def elI (k:IntKind) (e:TypeId):El Int:=⟨1,e,fun _ x c=>c= [.int k x],fun h=>by rw[h]; rfl,by decide,fun _ h=>h⟩
abbrev vB (b:UInt8):Value:= .int .u8 (b.toNat:Int)
def elB (e:TypeId):El UInt8:=⟨1,e,fun _ x c=>c= [vB x],fun h=>by rw[h]; rfl,by decide,fun _ h=>h⟩
abbrev aa (l:List UInt8):Value:= .string ⟨l.toArray⟩
def elS (e:TypeId):El (List UInt8):=⟨1,e,fun _ x c=>c= [aa x],fun h=>by rw[h]; rfl,by decide,fun _ h=>h⟩
section
variable {E:Env} {s:St} {kn:Kn} {S:List Seg} {F:FZ} {L:List Seg} {F0:FZ} {nx0:Nat} {l:List Oper} {ops:Array Oper} {o:Oper} {inf:Option (List (List Nat))} {zs:List Nat} {rs:List Rec} {n:Nat} {qs ls:List Nat} {as ns ds:List (Nat×Nat)} {Q:St→Prop} {d:Nat} {v:Value}
theorem wn (h:o.guard=none):ae ops s.fr o=some true:=m8 h
theorem wt (hS:Stt E s kn S F L F0 nx0) {j:Nat} {w c:Bool} {t:Tmp} (h:o.guard=some (j,w)) (hj:(ops[j]?).bind (·.dst)=some t) (hk:lkT kn t=some (.bool c)) (hc:c=w):ae ops s.fr o=some true:=by
 rw[iV h hj (hS.fx t _ hk),hc]; simp
theorem wf (hS:Stt E s kn S F L F0 nx0) {j:Nat} {w c:Bool} {t:Tmp} (h:o.guard=some (j,w)) (hj:(ops[j]?).bind (·.dst)=some t) (hk:lkT kn t=some (.bool c)) (hc:c= !w):ae ops s.fr o=some false:=by
 rw[iV h hj (hS.fx t _ hk),hc]; cases w<;>rfl
theorem wu (hS:Stt E s kn S F L F0 nx0) {j:Nat} {w:Bool} {t:Tmp} (h:o.guard=some (j,w)) (hj:(ops[j]?).bind (·.dst)=some t) (hk:lkT kn t=some undef):ae ops s.fr o=some false:=by
 unfold ae
 rw[h]
 show iK ops s.fr j w=_
 unfold iK
 rw[hj]
 show lX w (Fr.get s.fr t)=_
 rw[hS.fx t _ hk]; rfl
theorem Stt.put (hS:Stt E s kn S F L F0 nx0) (d:Nat) (v:Value):Stt E ⟨bz s.fr (some d) v,s.H,s.nx,s.ms⟩ ((d,v)::kn) S F L F0 nx0:=⟨hS.fx.put d v,hS.mem,hS.le,hS.nx,hS.ms⟩
theorem K.pu (hS:Stt E s kn S F L F0 nx0) (hq:RS zs rs n qs ls as ns ds) (hi:okI inf=true) (hw:ae ops s.fr o=some true) (hc:aw o.op=false) (hd:o.dst=some d) (ht:aq o.op (opv E.NG s.fr)=none) (hv:ai o.op E.P s.nx o.type (opv E.NG s.fr) none=some (v,.none))
  (k: ∀s' rs',Stt E s' ((d,v)::kn) S F L F0 nx0→RS zs rs' (n+1) (n::qs) ls as ns ds→KW E l ops (bK inf) rs' s' Q):KW E (o::l) ops inf rs s Q:=by
 refine KW.op hi hw hc hq none ht hv (fun i h=>(by cases h)) fun rs' hr _ _=>k _ rs' ?_ (hr rfl)
 rw[hd]; exact hS.put d v
theorem K.no (hS:Stt E s kn S F L F0 nx0) (hq:RS zs rs n qs ls as ns ds) (hi:okI inf=true) (hw:ae ops s.fr o=some false) (hd:o.dst=some d)
  (k: ∀s' rs',Stt E s' ((d,undef)::kn) S F L F0 nx0→RS zs rs' (n+1) (n::qs) ls as ns ds→KW E l ops (bK inf) rs' s' Q):KW E (o::l) ops inf rs s Q:=by
 refine KW.not hi hw hq fun rs' hr=>k _ rs' ?_ hr
 rw[hd]; exact hS.put d undef
theorem K.rd {i:Nat} {b:Blk} (hS:Stt E s kn S F L F0 nx0) (hq:RS zs rs n qs ls as ns ds) (hi:okI inf=true) (hw:ae ops s.fr o=some true) (hc:aw o.op=false) (hd:o.dst=some d) (ht:aq o.op (opv E.NG s.fr)=some i) (hb:s.H.get i=some b) (hv:ai o.op E.P s.nx o.type (opv E.NG s.fr) (some b)=some (v,.none)) (j:Nat) (hz:nth zs j=some i) (hu:lD (cb inf) (qs++ls) as j=true)
  (k: ∀s' rs',Stt E s' ((d,v)::kn) S F L F0 nx0→RS zs rs' (n+1) qs (n::ls) as ns ((n,j)::ds)→KW E l ops (bK inf) rs' s' Q):KW E (o::l) ops inf rs s Q:=by
 refine KW.op hi hw hc hq (some i) ht (by show ai o.op E.P s.nx o.type (opv E.NG s.fr) (s.H.get i)=_; rw[hb]; exact hv) (fun i' h=>by obtain rfl:=Option.some.inj h; exact hq.has hz hu) fun rs' _ hr hl=>k _ rs' ?_ (hr.look (Nat.lt_succ_self n) hz hl)
 rw[hd]; exact hS.put d v
theorem Stt.at (hS:Stt E s kn S F L F0 nx0) {k i:Nat} {b:Blk} (hk:ce (S++L) k= [(i,b)]):s.H.get i=some b:=hS.mem.at hk
theorem Stt.fat (hS:Stt E s kn S F L F0 nx0) {i:Nat} {b:Blk} (hk:F i=some b):s.H.get i=some b:=(hS.mem.frz i b hk).1
theorem eZ: ∀(S L:List Seg) (k:Nat) (b:Seg),k<S.length→fD (S++L) k b=fD S k b++L
 | a::S,L,0,b,_=>rfl
 | a::S,L,k+1,b,h=>by
  show a::fD (S++L) k b=a::(fD S k b++L)
  rw[eZ S L k b (by simp at h; omega)]
 | [],L,k,b,h=>absurd h (by simp)
theorem cf: ∀(S L:List Seg) (k:Nat),k<S.length→cZ (S++L) k=cZ S k++L
 | a::S,L,0,_=>rfl
 | a::S,L,k+1,h=>by
  show a::cZ (S++L) k=a::(cZ S k++L)
  rw[cf S L k (by simp at h; omega)]
 | [],L,k,h=>absurd h (by simp)
theorem e8: ∀(S L:List Seg) (k:Nat),k<S.length→ce (S++L) k=ce S k
 | a::S,L,0,_=>rfl
 | a::S,L,k+1,h=>by
  show ce (S++L) k=ce S k
  rw[e8 S L k (by simp at h; omega)]
 | [],L,k,h=>absurd h (by simp)
theorem jG {S:List Seg} {k:Nat} (h:ce S k≠ []):k<S.length:=by
 induction S generalizing k with
 | nil=>exact absurd rfl h
 | cons a S ih =>
  cases k with
  | zero=>simp
  | succ k=>have:=ih (k:=k) h; simp; omega
theorem oI {i:Nat} {b:Blk} {H:T} {nx:Nat} (hm:Mem H nx ([(i,b)]::(S++L)) F) (hle:FLe F0 F):i∉ah L∧F0 i=none:=by
 have h1:=hm.notin
 refine⟨fun h=>h1 (by simp only[ah,bJ,List.map_append,List.mem_append]; exact .inr h),?_⟩
 cases e:F0 i with
 | none=>rfl
 | some c=>exact absurd (by simp[ah]) (hm.frz i c (hle _ _ e)).2.2
theorem has_new {i nx m:Nat} {rd:Option Nat} {c:Bool} {ld:Option (TypeId×Addr×Value)} (h:i<nx):(⟨rd,[],nx,m,c,ld⟩:Rec).has i=false:=by
 unfold Rec.has
 have:Nat.ble nx i=false:=by
  cases hb:Nat.ble nx i with
  | false=>rfl
  | true=>have:=Nat.le_of_ble_eq_true hb; omega
 simp[this]
def Aw (F:FZ) (S:List Seg) (zs js:List Nat):Prop:= ∀j∈js,∀i,nth zs j=some i→i∈ah S∨F i≠none
theorem Mem.nlt {H:T} {nx:Nat} {S L:List Seg} {i:Nat} (hm:Mem H nx (S++L) F) (h:i∈ah S):i<nx:=by
 obtain⟨p,hp,rfl⟩:=List.mem_map.1 h
 exact(hm.own p (by rw[bJ]; exact List.mem_append_left _ hp)).2
theorem Mem.alt {H:T} {nx:Nat} {S L:List Seg} {i:Nat} (hm:Mem H nx (S++L) F) (h:i∈ah S∨F i≠none):i<nx:=by
 rcases h with h | h
 ·exact hm.nlt h
 ·cases e:F i with
  | none=>exact absurd e h
  | some b=>exact(hm.frz i b e).2.1
theorem Mem.alt2 {H:T} {nx:Nat} {S L:List Seg} {i j:Nat} {b:Blk} (hm:Mem H nx ([(j,b)]::(S++L)) F) (h:i∈ah S∨F i≠none):i≠j:=by
 intro e
 subst e
 rcases h with h | h
 ·exact hm.notin (by simp only[ah,bJ,List.map_append,List.mem_append]; exact .inl h)
 ·cases e:F i with
  | none=>exact absurd e h
  | some b=>exact(hm.frz i b e).2.2 (by simp[ah])
theorem cq: ∀{a l:List Nat} {i:Nat},i∈ck a l→i∈a∨i∈l
 | [],l,i,h=> .inr h
 | x::a,l,i,h=>by
  unfold ck at h
  cases hb:(ck a l).contains x with
  | true=>rw[hb,cond_true] at h; exact(cq h).imp (List.mem_cons_of_mem _) id
  | false =>
   rw[hb,cond_false] at h
   rcases List.mem_cons.1 h with rfl | h
   ·exact .inl List.mem_cons_self
   ·exact(cq h).imp (List.mem_cons_of_mem _) id
theorem K.st {i p:Nat} {b b':Blk} (hS:Stt E s kn S F L F0 nx0) (hq:RS zs rs n qs ls as ns ds) (hi:okI inf=true) (hw:ae ops s.fr o=some true) (hc:aw o.op=false) (hd:o.dst=none) (ht:aq o.op (opv E.NG s.fr)=some i) (hp:ce S p= [(i,b)]) (hv:ai o.op E.P s.nx o.type (opv E.NG s.fr) (some b)=some (v,.upd b')) (js:List Nat) (hu:okU zs qs ls ds ns js (cb inf)=true) (hj:Aw F (cZ S p) zs js)
  (k: ∀s' rs',Stt E s' kn (fD S p [(i,b')]) F L F0 nx0→RS zs rs' (n+1) qs ls (js.map (fun j=>(n,j))++as) ns ds→KW E l ops (bK inf) rs' s' Q):KW E (o::l) ops inf rs s Q:=by
 have hpl:p<S.length:=jG (by rw[hp]; simp)
 have hpA:ce (S++L) p= [(i,b)]:=by rw[e8 S L p hpl,hp]
 have hb:=hS.mem.at hpA
 have hfr:=hS.mem.front hpA
 rw[cf S L p hpl] at hfr
 have hno:=oI hfr hS.le
 refine KW.upd hi hw hc hq ht (by rw[hb]; exact hv) js hu (fun j hjj i' e=>⟨hfr.drop1.alt (hj j hjj i' e),hfr.alt2 (hj j hjj i' e)⟩) fun rs' hr=>k _ rs' ⟨by rw[hd]; exact hS.fx,?_,hS.le,hS.nx,fun j hj=>?_⟩ hr
 ·refine(hfr.setH (b':=b')).perm ?_
  have:=d3 (S++L) p [(i,b')] (by rw[hpA]; simp)
  rw[cf S L p hpl,eZ S L p _ hpl] at this
  simpa using this
 ·rcases cq hj with hj | hj
  ·rw[List.mem_singleton] at hj; subst hj; exact hno
  ·exact hS.ms j hj
theorem K.nw {v:Nat→Value} {b:Blk} (hS:Stt E s kn S F L F0 nx0) (hq:RS zs rs n qs ls as ns ds) (hi:okI inf=true) (hw:ae ops s.fr o=some true) (hc:aw o.op=false) (hd:o.dst=some d) (ht:aq o.op (opv E.NG s.fr)=none) (hv:ai o.op E.P s.nx o.type (opv E.NG s.fr) none=some (v s.nx,.new b)) (js:List Nat) (hj:Aw F S zs js) (hz:(js.map (fun j=>(n,j))++as).all (fun p=>Nat.blt p.2 zs.length)=true) (hz2:ns.all (fun p=>Nat.blt p.2 zs.length)=true) (hz3:ds.all (fun p=>Nat.blt p.2 zs.length)=true)
  (k: ∀s' rs' i,Stt E s' ((d,v i)::kn) ([(i,b)]::S) F L F0 nx0→RS (zs++ [i]) rs' (n+1) qs ls (js.map (fun j=>(n,j))++as) ((n,zs.length)::ns) ds→KW E l ops (bK inf) rs' s' Q):KW E (o::l) ops inf rs s Q:=by
 refine KW.new hi hw hc hq ht hv js (fun j hjj i' e=>has_new (hS.mem.alt (hj j hjj i' e))) fun rs' hr hb=>k _ rs' s.nx ⟨by rw[hd]; exact hS.fx.put d _,hS.mem.new,hS.le,Nat.le_succ_of_le hS.nx,hS.ms⟩ (hr.born (Nat.lt_succ_self n) hz hz2 hz3 hb)
end
end Go.Proofs.YtjcbhbncncbdjaaGreatDoorAi
namespace Go.Proofs.YtjcbhbncncbdjaaGreatDoorAi
open Go Go.RowKit
set_option linter.unusedVariables false
set_option linter.unusedSimpArgs false
set_option linter.unusedSectionVars false
section
variable {E:Env} {s:St} {kn:Kn} {S:List Seg} {F:FZ} {L:List Seg} {F0:FZ} {nx0:Nat} {l:List Oper} {ops:Array Oper} {o:Oper} {inf:Option (List (List Nat))} {zs:List Nat} {rs:List Rec} {n:Nat} {qs ls:List Nat} {as ns ds:List (Nat×Nat)} {Q:St→Prop} {d:Nat} {v:Value}
theorem K.ld {t:TypeId} {x:Operand} {i ad:Nat} {cs:List Value} {e:TypeId} {z:Nat} {own:Bool} (hS:Stt E s kn S F L F0 nx0) (hq:RS zs rs n qs ls as ns ds) (hi:okI inf=true) (hw:ae ops s.fr o=some true) (ho:o.op= .load t x) (hd:o.dst=some d)
  (hx:lkO E.NG kn x=some (.pointer (some ⟨i,ad,none⟩))) (hb:s.H.get i=some (.row cs e z own)) (hg:(E.P.underlying t).map df=some false) (hv:nth cs ad=some v) (j:Nat) (hj:nth zs j=some i) (hun:lD (cb inf) (qs++ls) as j=true)
  (k: ∀s' rs',Stt E s' ((d,v)::kn) S F L F0 nx0→RS zs rs' (n+1) qs (n::ls) as ns ((n,j)::ds)→KW E l ops (bK inf) rs' s' Q):KW E (o::l) ops inf rs s Q:=by
 obtain⟨u,hu,ha⟩:=Option.map_eq_some_iff.1 hg
 exact K.rd hS hq hi hw (by rw[ho]; rfl) hd (i:=i) (b:= .row cs e z own) (by rw[ho]; show bh (opv E.NG s.fr x)=_; rw[hS.lk hx]; rfl) hb (by
  rw[ho]
  exact oF (hS.lk hx) rfl hu ha (by rw[← aO]; exact hv)) j hj hun k
theorem K.ldA {t:TypeId} {x:Operand} {i ad m:Nat} {cs vs:List Value} {e:TypeId} {z:Nat} {own:Bool} (hS:Stt E s kn S F L F0 nx0) (hq:RS zs rs n qs ls as ns ds) (hi:okI inf=true) (hw:ae ops s.fr o=some true) (ho:o.op= .load t x) (hd:o.dst=some d)
  (hx:lkO E.NG kn x=some (.pointer (some ⟨i,ad,none⟩))) (hb:s.H.get i=some (.row cs e z own)) (hg:(E.P.underlying t).map df=some true) (hz:aU E.P t=some m) (hv:aR cs ad m=some vs) (j:Nat) (hj:nth zs j=some i) (hun:lD (cb inf) (qs++ls) as j=true)
  (k: ∀s' rs',Stt E s' ((d,.agg vs.toArray)::kn) S F L F0 nx0→RS zs rs' (n+1) qs (n::ls) as ns ((n,j)::ds)→KW E l ops (bK inf) rs' s' Q):KW E (o::l) ops inf rs s Q:=by
 obtain⟨u,hu,ha⟩:=Option.map_eq_some_iff.1 hg
 exact K.rd hS hq hi hw (by rw[ho]; rfl) hd (i:=i) (b:= .row cs e z own) (by rw[ho]; show bh (opv E.NG s.fr x)=_; rw[hS.lk hx]; rfl) hb (by
  rw[ho]
  show dF E.P t (some (.row cs e z own)) (asP (opv E.NG s.fr x))=_
  rw[hS.lk hx]
  show ar (dD E.P t ⟨i,ad,none⟩ (.row cs e z own))=_
  unfold dD
  simp only[hu,ha,hz,hv,cond_true,Option.bind_some,Option.map_some]; rfl) j hj hun k
theorem K.sto {t:TypeId} {x y:Operand} {i ad m p:Nat} {cs:List Value} {e:TypeId} {z:Nat} {u:Value} (hS:Stt E s kn S F L F0 nx0) (hq:RS zs rs n qs ls as ns ds) (hi:okI inf=true) (hw:ae ops s.fr o=some true) (ho:o.op= .store t x y) (hd:o.dst=none)
  (hx:lkO E.NG kn x=some (.pointer (some ⟨i,ad,none⟩))) (hy:lkO E.NG kn y=some u) (hp:ce S p= [(i,.row cs e z true)]) (hz:aU E.P t=some m) (hok:(Nat.beq u.cells.size m&&Nat.ble (ad+m) cs.length&&u.cells.toList.all one)=true) (cs':List Value) (hcs:setCells cs ad u.cells.toList=cs') (js:List Nat) (hun:okU zs qs ls ds ns js (cb inf)=true) (hj:Aw F (cZ S p) zs js)
  (k: ∀s' rs',Stt E s' kn (fD S p [(i,.row cs' e z true)]) F L F0 nx0→RS zs rs' (n+1) qs ls (js.map (fun j=>(n,j))++as) ns ds→KW E l ops (bK inf) rs' s' Q):KW E (o::l) ops inf rs s Q :=
 K.st hS hq hi hw (by rw[ho]; rfl) hd (i:=i) (p:=p) (b:= .row cs e z true) (b':= .row cs' e z true) (v:=undef) (by rw[ho]; show bh (opv E.NG s.fr x)=_; rw[hS.lk hx]; rfl) hp (by
  rw[ho]
  show ek E.P t (opv E.NG s.fr y) (some (.row cs e z true)) (asP (opv E.NG s.fr x))=_
  rw[hS.lk hx,hS.lk hy]
  show jb (ef E.P t ⟨i,ad,none⟩ u (.row cs e z true))=_
  unfold ef
  rw[Bool.and_eq_true,Bool.and_eq_true] at hok
  simp only[hz,hok.1.1,hok.1.2,hok.2,hcs,Bool.and_self,cond_true]; rfl) js hun hj k
theorem g5 {P:Program} {ats:Array TypeId} {t t2 e:TypeId} {u:TypeDesc} {i:TypeInfo} {z:List Value} {x y:Value} {H:T} {nx:Nat} (h0:ats[0]? = some t) (h1:ats[1]? = some t2) (hu:P.underlying t=some (.slice e)) (hu2:P.underlying t2=some u) (hs:kW u=true)
  (hi:P.info? e=some i) (hz:aS P e=some z) (hsz:z.length=i.size) (hp:1≤i.size):bL P ats [x,y] H nx=j8 H nx i e x y (ci x) (fT y):=by
 show nO P H nx x y ((ats[0]?).bind P.underlying) ((ats[1]?).bind P.underlying)=_
 rw[h0,h1]
 show nO P H nx x y (P.underlying t) (P.underlying t2)=_
 rw[hu,hu2]
 show(bif kW u then je H nx e x y (P.info? e) (aS P e) else none)=_
 rw[hs,cond_true,hi,hz]
 show(bif Nat.ble 1 i.size&&Nat.beq z.length i.size then _ else _)=_
 rw[bO]
 rw[Nat.ble_eq_true_of_le hp,hsz,Nat.beq_refl]; rfl
structure ApT (P:Program) (ats:Array TypeId) (e:TypeId) (sz:Nat):Prop where
 ok: ∃t t2 u i z,ats[0]? = some t∧ats[1]? = some t2∧P.underlying t=some (.slice e)∧P.underlying t2=some u∧kW u=true∧P.info? e=some i∧aS P e=some z∧z.length=i.size∧i.size=sz∧1≤sz∧i.bytes≤140000
theorem mj {α:Type} {dd:El α} {P:Program} {ats:Array TypeId} {y:Value} {H:T} {nx:Nat} {a:Option Addr} {z:Nat} {lst m:List α} {B:Seg} {S:List Seg} {news:List Value}
  (ht:ApT P ats dd.e dd.sz) (hM:Mem H nx (B::S) F) (hO:Own dd F a z lst B) (hlen:fT y=some m.length) (hm:0<m.length) (hsrc:aW H dd.sz m.length y=some news) (hC:af dd F m news) (hb:lst.length+m.length<1000000000∨(lst.length+m.length<5864062014635∧ ∃i,P.info? dd.e=some i∧i.bytes≤24)) :
  ∃cs H' ms,bL P ats [.slice a lst.length z,y] H nx=some (.slice (some ⟨nx,0,none⟩) (lst++m).length dd.sz,H',nx+1,ms)∧Mem H' (nx+1) ([(nx,.row cs dd.e dd.sz true)]::S) F∧af dd F (lst++m) cs∧ ∀i∈ms,∃b,B= [(i,b)]:=by
 obtain⟨t,t2,u,i,zz,h0,h1,h2,h3,h4,h5,h6,h7,h8,h9,h10⟩:=ht.ok
 rw[g5 h0 h1 h2 h3 h4 h5 h6 h7 (by omega),hlen]
 have hcond:(Nat.ble ((lst.length+m.length)*i.bytes) 140737488355328&&Nat.ble (lst.length+m.length) maxLen)=true:=by
  rcases hb with hb | ⟨hb,i2,hi2,hb2⟩
  ·have:(lst.length+m.length)*i.bytes≤1000000000*140000:=Nat.mul_le_mul (by omega) h10
   rw[Nat.ble_eq_true_of_le (by omega),Nat.ble_eq_true_of_le (by simp only[maxLen]; omega)]; rfl
  ·rw[h5] at hi2
   obtain rfl:=Option.some.inj hi2
   have:(lst.length+m.length)*i.bytes≤5864062014634*24:=Nat.mul_le_mul (by omega) hb2
   rw[Nat.ble_eq_true_of_le (by omega),Nat.ble_eq_true_of_le (by simp only[maxLen]; omega)]; rfl
 have hgo:j8 H nx i dd.e (.slice a lst.length z) y (ci (.slice a lst.length z)) (some m.length)=eo H nx i dd.e lst.length m.length z a (aW H i.size m.length y):=by
  show gi H nx i dd.e (.slice a lst.length z) y a lst.length z m.length=_
  unfold gi
  rw[nbF (by omega),cond_false,bO hcond]
 rw[hgo,h8,hsrc]
 have hl:(lst++m).length=lst.length+m.length:=List.length_append
 rcases hO with⟨rfl,rfl,rfl,rfl⟩ | ⟨j,cs,ex,rfl,rfl,rfl,hcs⟩
 ·refine⟨news,H.set nx (some (.row news dd.e dd.sz true)),[],?_,(hM.drop1).new,by simpa using hC,fun i hi=>by cases hi⟩
  unfold eo
  rw[← h8,hl]
  simp
 ·refine⟨cs++news,(H.set j none).set nx (some (.row (cs++news) dd.e dd.sz true)),[j],?_,(hM.kill).new,hcs.append hC,fun i hi=>by rw[List.mem_singleton] at hi; subst hi; exact⟨_,rfl⟩⟩
  have hget:H.get j=some (.row (cs++ex) dd.e dd.sz true):=(hM.own (j,_) (by simp)).1
  unfold eo
  show j7 H nx i dd.e ⟨j,0,none⟩ lst.length m.length dd.sz news (H.get j)=_
  rw[hget]
  unfold j7
  have hc2:(true&&Nat.beq dd.sz i.size&&Nat.beq dd.sz dd.sz&&Nat.beq dd.e dd.e)=true:=by rw[h8,Nat.beq_refl,Nat.beq_refl]; rfl
  simp only[hc2,cond_true]
  have htk:aR (cs++ex) 0 (lst.length*i.size)=some cs:=by
   unfold aR
   have:=hcs.len
   rw[h8,← this,bO (Nat.ble_eq_true_of_le (by rw[List.length_append]; omega)),List.drop_zero,List.take_left]
  rw[htk]
  unfold lV
  rw[h8,hl]
theorem Mem.hide {H:T} {nx:Nat} {F:FZ} {S:List Seg}: ∀{hs:List (Nat×Blk)},Mem H nx (hs.map (fun p=>[p])++S) F→Mem (Go.Proofs.YtjcbhbncncbdjaaGreatDoorAi.hide H (hs.map Prod.fst)) nx S F
 | [],h=>h
 | p::hs,h=>by
  have h1:Mem H nx ((hs.map (fun p=>[p]))++([p]::S)) F:=h.perm (by
   simp only[List.map_cons,List.cons_append,List.flatten_cons,List.flatten_append,List.nil_append]
   exact List.perm_middle.symm)
  have h2:=Mem.hide h1
  exact Mem.kill (i:=p.1) (b:=p.2) h2
theorem Mem.revive {H:T} {nx:Nat} {F:FZ} {S:List Seg} {i:Nat} {b:Blk} (h:Mem H nx S F) (hi:i<nx) (hn:i∉ah S) (hf:F i=none):Mem (H.set i (some b)) nx ([(i,b)]::S) F:=by
 refine⟨fun p hp=>?_,?_,fun j c e=>?_,fun j hj=>?_⟩
 ·simp only[List.flatten_cons,List.cons_append,List.nil_append,List.mem_cons] at hp
  rcases hp with rfl | hp
  ·exact⟨Tr.get_set_same _ _ _,hi⟩
  ·have hne:p.1≠i:=fun e=>hn (by rw[← e]; exact List.mem_map_of_mem hp)
   rw[Tr.get_set_ne _ _ _ _ hne]
   exact h.own p hp
 ·simp only[ah,List.flatten_cons,List.map_append,List.map_cons,List.map_nil,List.cons_append,List.nil_append,List.nodup_cons]
  exact⟨hn,h.nd⟩
 ·have hne:j≠i:=fun e2=>by subst e2; rw[hf] at e; cases e
  have hh:=h.frz j c e
  rw[Tr.get_set_ne _ _ _ _ hne]
  refine⟨hh.1,hh.2.1,fun hm=>?_⟩
  simp only[ah,List.flatten_cons,List.map_append,List.map_cons,List.map_nil,List.cons_append,List.nil_append,List.mem_cons] at hm
  rcases hm with hm | hm
  ·exact hne hm
  ·exact hh.2.2 hm
 ·have:j≠i:=by omega
  rw[Tr.get_set_ne _ _ _ _ this]
  exact h.wf j hj
theorem Mem.bring {H0 H:T} {nx0 nx:Nat} {F:FZ} {S S0:List Seg}: ∀{hs:List (Nat×Blk)},Mem H0 nx0 (hs.map (fun p=>[p])++S0) F→Mem H nx S F→nx0≤nx→(∀p∈hs,p.1∉ah S)→Mem (Go.Proofs.YtjcbhbncncbdjaaGreatDoorAi.bring H0 H (hs.map Prod.fst)) nx (hs.map (fun p=>[p])++S) F
 | [],_,h,_,_=>h
 | p::hs,h0,h,hle,hn=>by
  have h1:Mem H0 nx0 (hs.map (fun p=>[p])++S0) F:=Mem.drop1 (a:=[p]) h0
  have h2:=Mem.bring (hs:=hs) h1 h hle (fun q hq=>hn q (List.mem_cons_of_mem _ hq))
  have hp:=h0.own p (by simp)
  show Mem ((Go.Proofs.YtjcbhbncncbdjaaGreatDoorAi.bring H0 H (hs.map Prod.fst)).set p.1 (H0.get p.1)) nx ([p]::(hs.map (fun p=>[p])++S)) F
  rw[hp.1]
  refine Mem.revive (b:=p.2) h2 (Nat.lt_of_lt_of_le hp.2 hle) ?_ ?_
  ·intro hm
   simp only[ah,bJ,List.map_append,List.mem_append] at hm
   rcases hm with hm | hm
   ·exact(Mem.notin (i:=p.1) (a:=p.2) (S:=hs.map (fun p=>[p])++S0) h0) (by simp only[ah,bJ,List.map_append,List.mem_append]; exact .inl hm)
   ·exact hn p List.mem_cons_self hm
  ·cases e:F p.1 with
   | none=>rfl
   | some c=>exact absurd (by simp[ah]) (h0.frz p.1 c e).2.2
theorem K.app {α:Type} {dd:El α} {ats:Array TypeId} {x y:Operand} {a:Option Addr} {z z2:Nat} {lst m:List α} {B:Seg} {j:Nat} {news:List Value} (hsg:List (Nat×Blk)) (hS:Stt E s kn (hsg.map (fun p=>[p])++([(j,.row news dd.e dd.sz true)]::B::S)) F L F0 nx0) (hq:RS zs rs n qs ls as ns ds) (hi:okI inf=true) (hw:ae ops s.fr o=some true)
  (ho:o.op= .call ⟨.builtin .append,#[x,y],ats⟩) (hd:o.dst=some d) (ht:ApT E.P ats dd.e dd.sz) (hx:lkO E.NG kn x=some (.slice a lst.length z)) (hy:lkO E.NG kn y=some (.slice (some ⟨j,0,none⟩) m.length z2)) (hO:Own dd F a z lst B) (hm:0<m.length) (hC:af dd F m news) (hb:lst.length+m.length<1000000000) (js:List Nat) (hun:okU zs qs ls ds ns js (cb inf)=true) (hmb:mbN ns zs (cb inf)=hsg.map Prod.fst) (hj:Aw F (hsg.map (fun p=>[p])++S) zs js)
  (k: ∀s' rs' i cs,af dd F (lst++m) cs→Stt E s' ((d,.slice (some ⟨i,0,none⟩) (lst++m).length dd.sz)::kn) (hsg.map (fun p=>[p])++([(i,.row cs dd.e dd.sz true)]::S)) F L F0 nx0→RS zs rs' (n+1) qs ls (js.map (fun j=>(n,j))++as) ns ds→KW E l ops (bK inf) rs' s' Q):KW E (o::l) ops inf rs s Q:=by
 have hM0:Mem s.H s.nx (hsg.map (fun p=>[p])++([(j,.row news dd.e dd.sz true)]::B::(S++L))) F:=by
  have:=hS.mem
  rwa [List.append_assoc] at this
 have hM:=hM0.hide
 have hget:(Go.Proofs.YtjcbhbncncbdjaaGreatDoorAi.hide s.H (hsg.map Prod.fst)).get j=some (.row news dd.e dd.sz true):=(hM.own (j,_) (by simp)).1
 have hsrc:aW (Go.Proofs.YtjcbhbncncbdjaaGreatDoorAi.hide s.H (hsg.map Prod.fst)) dd.sz m.length (.slice (some ⟨j,0,none⟩) m.length z2)=some news:=by
  unfold aW
  simp only[hget]
  unfold aR
  rw[← hC.len,bO (Nat.ble_eq_true_of_le (by omega)),List.drop_zero,List.take_length]
 obtain⟨cs,H',ms,h1,h2,h3,h4⟩:=mj ht hM.drop1 hO (y:= .slice (some ⟨j,0,none⟩) m.length z2) rfl hm hsrc hC (.inl hb)
 -- the pieces that are out of sight, and the rest
 have hMr:Mem s.H s.nx (B::([(j,.row news dd.e dd.sz true)]::((hsg.map (fun p=>[p])++S)++L))) F:=hM0.perm (by
  simp only[List.flatten_append,List.flatten_cons]
  refine List.Perm.trans (List.perm_append_comm_assoc _ _ _) ?_
  refine List.Perm.trans ((List.perm_append_comm_assoc _ _ _).append_left _) ?_
  refine List.Perm.trans (List.perm_append_comm_assoc _ _ _) ?_
  simp only[List.append_assoc]
  exact .refl _)
 have hnot: ∀i'∈ms,∃b,B= [(i',b)]:=h4
 refine KW.call (v:= .slice (some ⟨s.nx,0,none⟩) (lst++m).length dd.sz) (H:=H') (nx:=s.nx+1) (ms:=ms) (hsg.map Prod.fst) hi hw (by rw[ho]; rfl) hq ⟨0,fun n _=>?_⟩ js hun hmb (fun q hq' i' e=>⟨(hMr.drop1.drop1).alt (hj q hq' i' e),fun hm'=>by
  obtain⟨b,rfl⟩:=h4 i' hm'
  have hMb:Mem s.H s.nx ([(i',b)]::((hsg.map (fun p=>[p])++S)++L)) F:=by
   have:=hMr.perm (S':=[(j,.row news dd.e dd.sz true)]::([(i',b)]::((hsg.map (fun p=>[p])++S)++L))) (by
    simp only[List.flatten_cons]
    exact List.perm_append_comm_assoc _ _ _)
   exact this.drop1
  exact hMb.alt2 (hj q hq' i' e) rfl⟩) fun rs' hr=>k _ rs' s.nx cs h3 ⟨by rw[hd]; exact hS.fx.put d _,?_,hS.le,Nat.le_succ_of_le hS.nx,fun i hi=>?_⟩ hr
 ·rw[ho]
  show bL E.P ats [opv E.NG s.fr x,opv E.NG s.fr y] (Go.Proofs.YtjcbhbncncbdjaaGreatDoorAi.hide s.H (hsg.map Prod.fst)) s.nx=_
  rw[hS.lk hx,hS.lk hy]
  exact h1
 ·rw[List.append_assoc]
  refine Mem.bring hM0 h2 (Nat.le_succ _) fun p hp=>?_
  have hpm:p.1∈ah (hsg.map (fun p=>[p])):=by
   refine List.mem_map.2 ⟨p,?_,rfl⟩
   rw[List.mem_flatten]
   exact⟨[p],List.mem_map.2 ⟨p,hp,rfl⟩,List.mem_singleton.2 rfl⟩
  have hlt:p.1<s.nx:=hM0.nlt hpm
  intro hmem
  simp only[ah,List.flatten_cons,List.map_append,List.map_cons,List.map_nil,List.cons_append,List.nil_append,List.mem_cons] at hmem
  rcases hmem with hmem | hmem
  ·omega
  ·have hnd:=hM0.nd
   simp only[ah,List.flatten_append,List.flatten_cons,List.map_append] at hnd
   have hd2:=(List.nodup_append.1 hnd).2.2
   exact hd2 p.1 hpm p.1 (List.mem_append_right _ (List.mem_append_right _ (by simpa[ah,bJ] using hmem))) rfl
 ·rcases cq hi with hi | hi
  ·obtain⟨b,rfl⟩:=h4 i hi
   exact oI hM.drop1 hS.le
  ·exact hS.ms i hi
def Cl (E:Env) (g:FuncId) (args:List Value) (S:List Seg) (F:FZ) (Φ:Value→List Seg→FZ→Prop):Prop :=
 ∀H nx L,Mem H nx (S++L) F→ ∃v S' F' H' nx' ms,(∃n0,∀n,n0≤n→ka E (run E n) args H nx g (E.P.funcs[g]?)=some (v,H',nx',ms))∧Mem H' nx' (S'++L) F'∧FLe F F'∧nx≤nx'∧Dj ms L F∧Φ v S' F'
theorem Cl.mono {E:Env} {g:FuncId} {args:List Value} {S:List Seg} {F:FZ} {Φ Ψ:Value→List Seg→FZ→Prop} (h:Cl E g args S F Φ) (hq: ∀v S' F',Φ v S' F'→Ψ v S' F'):Cl E g args S F Ψ:=fun H nx L hM=>by
 obtain⟨v,S',F',H',nx',ms,h1,h2,h3,h4,h5,h6⟩:=h H nx L hM
 exact⟨v,S',F',H',nx',ms,h1,h2,h3,h4,h5,hq _ _ _ h6⟩
def ec:Nat→List Seg→List Seg
 | 0,_=>[]
 | c+1,a::S=>a::ec c S
 | _+1,[]=>[]
def dC:Nat→List Seg→List Seg
 | 0,S=>S
 | c+1,_::S=>dC c S
 | _+1,[]=>[]
theorem eH: ∀(c:Nat) (S:List Seg),ec c S++dC c S=S
 | 0,S=>rfl
 | c+1,a::S=>by simp[ec,dC,eH c S]
 | _+1,[]=>rfl
theorem Dj.sub {ms:List Nat} {A L:List Seg} {F F0:FZ} (h:Dj ms (A++L) F) (hf:FLe F0 F):Dj ms L F0:=fun i hi=>by
 obtain⟨h1,h2⟩:=h i hi
 refine⟨fun hm=>h1 (by simp only[ah,bJ,List.map_append,List.mem_append]; exact .inr hm),?_⟩
 cases e:F0 i with
 | none=>rfl
 | some b=>rw[hf _ _ e] at h2; cases h2
theorem lE (hS:Stt E s kn S F L F0 nx0): ∀{as:List Operand} {vs:List Value},as.map (lkO E.NG kn)=vs.map some→as.map (opv E.NG s.fr)=vs:=by
 intro as
 induction as with
 | nil=>intro vs h; cases vs with | nil=>rfl | cons _ _=>cases h
 | cons a as ih =>
  intro vs h
  cases vs with
  | nil=>cases h
  | cons v vs =>
   simp only[List.map_cons,List.cons.injEq] at h ⊢
   exact⟨hS.lk h.1,ih h.2⟩
theorem K.cl {g:FuncId} {x:Operand} {fs cs:Array Value} {args:Array Operand} {ats:Array TypeId} {vs ws:List Value} {Sc:List Seg} {Φ:Value→List Seg→FZ→Prop} (hS:Stt E s kn S F L F0 nx0) (hq:RS zs rs n qs ls as ns ds) (hi:okI inf=true) (hw:ae ops s.fr o=some true)
  (ho:o.op= .call ⟨.value x,args,ats⟩) (hd:o.dst=some d) (hx:lkO E.NG kn x=some (.func (.func g) fs cs)) (ha:args.toList.map (lkO E.NG kn)=vs.map some) (hws:fs.toList++(vs++cs.toList)=ws) (c:Nat) (hc:ec c S=Sc) (hT:Cl E g ws Sc F Φ) (js:List Nat) (hun:okU zs qs ls ds ns js (cb inf)=true) (hmb:mbN ns zs (cb inf)= []) (hj:Aw F (dC c S) zs js)
  (k: ∀s' rs' v S' F',Φ v S' F'→FLe F F'→Stt E s' ((d,v)::kn) (S'++dC c S) F' L F0 nx0→RS zs rs' (n+1) qs ls (js.map (fun j=>(n,j))++as) ns ds→KW E l ops (bK inf) rs' s' Q):KW E (o::l) ops inf rs s Q:=by
 subst hc
 obtain⟨v,S',F',H',nx',ms,⟨n0,hR⟩,hM,hF,hnx,hdj,hΦ⟩:=hT s.H s.nx (dC c S++L) (by rw[← List.append_assoc,eH]; exact hS.mem)
 refine KW.call (v:=v) (H:=H') (nx:=nx') (ms:=ms) [] hi hw (by rw[ho]; rfl) hq ⟨n0,fun n hn=>?_⟩ js hun hmb (fun q hq' i' e=>by
  have h0:Mem s.H s.nx (dC c S++(ec c S++L)) F:=hS.mem.perm (by
   simp only[List.flatten_append]
   rw[← List.append_assoc]
   refine List.Perm.append_right _ ?_
   conv=>lhs; rw[← eH c S,List.flatten_append]
   exact List.perm_append_comm)
  refine⟨h0.alt (hj q hq' i' e),fun hm=>?_⟩
  rcases hj q hq' i' e with h1 | h1
  ·exact(hdj i' hm).1 (by simp only[ah,bJ,List.map_append,List.mem_append]; exact .inl h1)
  ·exact h1 (hdj i' hm).2) fun rs' hr=>k _ rs' v S' F' hΦ hF ⟨by rw[hd]; exact hS.fx.put d _,by rw[List.append_assoc]; exact hM,hS.le.trans hF,Nat.le_trans hS.nx hnx,fun i hi=>?_⟩ hr
 ·rw[ho]
  show fI E (run E n) (args.toList.map (opv E.NG s.fr)) s.H s.nx (asF (opv E.NG s.fr x))=_
  rw[lE hS ha,hS.lk hx]
  show ka E (run E n) (fs.toList++(vs++cs.toList)) s.H s.nx g (E.P.funcs[g]?)=_
  rw[hws]
  exact hR n hn
 ·rcases cq hi with hi | hi
  ·exact hdj.sub hS.le i hi
  ·exact hS.ms i hi
def kx:Nat→List Value→Kn
 | _,[]=>[]
 | k,v::l=>(k,v)::kx (k+1) l
theorem ky: ∀(l:List Value) (k t:Nat) (v:Value),lkT (kx k l) t=some v→k≤t∧l[t-k]? = some v
 | [],_,_,_,h=>by cases h
 | a::l,k,t,v,h=>by
  unfold kx lkT at h
  by_cases hk:k=t
  ·subst hk
   rw[Nat.beq_refl,cond_true] at h
   simpa using h
  ·rw[nbF hk,cond_false] at h
   obtain⟨h1,h2⟩:=ky l (k+1) t v h
   refine⟨by omega,?_⟩
   have:t-k=(t-(k+1))+1:=by omega
   rw[this,List.getElem?_cons_succ]
   exact h2
def g6 (E:Env) (fn:Func) (L:List Seg) (F:FZ) (nx0:Nat) (Φ:Value→List Seg→FZ→Prop) (e:Exit) (s':St):Prop :=
 (e= .normal∨e= .ret)∧ ∃v S' F',fv E.P fn s'=some v∧FLe F F'∧Mem s'.H s'.nx (S'++L) F'∧nx0≤s'.nx∧Dj s'.ms L F∧Φ v S' F'
theorem Cl.of {g:FuncId} {fn:Func} {c:Code} {args:List Value} {Φ:Value→List Seg→FZ→Prop} (hf:E.P.funcs[g]? = some fn) (hb:fn.body=some c) (hov: ∀H nx,E.over g args H nx=none) (hok:(nV fn&&Nat.ble args.length fn.ntmps)=true)
  (h: ∀s L nx0,Stt E s (kx 0 args) S F L F nx0→WW E c s (g6 E fn L F nx0 Φ)):Cl E g args S F Φ:=by
 intro H nx L hM
 have hS:Stt E ⟨de 0 args,H,nx,[]⟩ (kx 0 args) S F L F nx:=⟨fun t v e=>by
  obtain⟨_,h2⟩:=ky args 0 t v e
  rw[m7,show args[t]? = some v from by simpa using h2]; rfl,hM,FLe.refl F,Nat.le_refl _,fun i hi=>by cases hi⟩
 obtain⟨e,s',n0,h1,h2,v,S',F',h3,h4,h5,h6,h7,h8⟩:=h _ L nx hS
 refine⟨v,S',F',s'.H,s'.nx,s'.ms.filter fun i=>Nat.blt i nx,⟨n0+1,fun n hn=>?_⟩,h5,h4,h6,fun i hi=>h7 i (List.mem_filter.1 hi).1,h8⟩
 obtain⟨n,rfl⟩: ∃m,n=m+1:=⟨n-1,by omega⟩
 rw[hf]
 show bR E (run E (n+1)) g args H nx fn=_
 unfold bR
 rw[hb]
 show dH (E.over g args H nx) (run E (n+1) g args H nx)=_
 rw[hov]
 show kc E (run E n) n args H nx (E.P.funcs[g]?)=_
 rw[hf]
 show mI E (run E n) n args H nx fn fn.body=_
 rw[hb]
 show(bif nV fn&&Nat.ble args.length fn.ntmps then evC c E (run E n) n ⟨de 0 args,H,nx,[]⟩ (eu E.P fn nx) else none)=_
 rw[hok,cond_true,h1 n (by omega)]
 rcases h2 with rfl | rfl<;>(unfold eu; simp only[h3,Option.map_some])
theorem Cl.over {g:FuncId} {fn:Func} {c:Code} {args:List Value} {v:Value} (hf:E.P.funcs[g]? = some fn) (hb:fn.body=some c) (hov: ∀H nx,E.over g args H nx=some (v,H,nx,[])):Cl E g args [] F (fun v' S' F'=>F'=F∧v'=v∧S'= []):=by
 intro H nx L hM
 refine⟨v,[],F,H,nx,[],⟨0,fun n _=>?_⟩,hM,FLe.refl F,Nat.le_refl _,fun i hi=>(by cases hi),rfl,rfl,rfl⟩
 rw[hf]
 show bR E (run E n) g args H nx fn=_
 unfold bR
 rw[hb]
 show dH (E.over g args H nx) (run E n g args H nx)=_
 rw[hov]; rfl
theorem Cl.ext {g:FuncId} {fn:Func} {args:List Value} {v:Value} (hf:E.P.funcs[g]? = some fn) (hb:fn.body=none) (hs:E.same g=false) (hm:E.mnz g=none) (hp:aV args=true) (he:E.ext g args=some v):Cl E g args [] F (fun v' S' F'=>F'=F∧v'=v∧S'= []):=by
 intro H nx L hM
 refine⟨v,[],F,H,nx,[],⟨0,fun n _=>?_⟩,hM,FLe.refl F,Nat.le_refl _,fun i hi=>(by cases hi),rfl,rfl,rfl⟩
 rw[hf]
 show bR E (run E n) g args H nx fn=_
 unfold bR
 rw[hb]
 show j9 E g args H nx=_
 unfold j9
 rw[hs,hm,cond_false,hp,cond_true,he]; rfl
theorem ak (hS:Stt E s kn S F L F0 nx0) {t:Nat} {rv:List ResultVar} {vs:List Value} (hk:lkT kn t=some v) (h:gn E.P s rv=some vs):gn E.P s (.tmp t::rv)=some (v::vs):=by
 unfold gn
 rw[h]
 show(match some (Fr.get s.fr t),some vs with | some v,some l=>some (v::l) | _,_=>Option.none)=_
 rw[hS.fx t v hk]
theorem aQ:gn E.P s []=some []:=rfl
theorem fin {fn:Func} {Φ:Value→List Seg→FZ→Prop} {e:Exit} {vs:List Value} (hS:Stt E s kn S F L F0 nx0) (he:e= .normal∨e= .ret) (hr:gn E.P s fn.results.toList=some vs) (hv:(match vs with | [v]=>v | l=> .tuple l.toArray)=v) (hΦ:Φ v S F):g6 E fn L F0 nx0 Φ e s:=by
 refine⟨he,v,S,F,?_,hS.le,hS.mem,hS.nx,hS.ms,hΦ⟩
 unfold fv
 rw[hr]
 subst hv
 cases vs with
 | nil=>rfl
 | cons a r=>cases r<;>rfl
end
theorem ac {α:Type} {c:Prop} [Decidable c] {a:Option α} {r:α} (h:(if c then a else none)=some r):c∧a=some r:=by
 split at h
 ·rename_i hc; exact⟨hc,h⟩
 ·cases h
theorem bind_some {α β:Type} {x:Option α} {f:α→Option β} {r:β} (h:Option.bind x f=some r): ∃y,x=some y∧f y=some r:=by
 cases x with
 | none=>cases h
 | some y=>exact⟨y,rfl,h⟩
end Go.Proofs.YtjcbhbncncbdjaaGreatDoorAi
