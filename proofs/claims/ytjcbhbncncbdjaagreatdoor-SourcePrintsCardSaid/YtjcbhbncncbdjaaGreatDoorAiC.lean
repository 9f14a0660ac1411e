/-
AiStep, AiCopy, AiCalls, AiAt, AiSeq, AiSeq2
-/
import Derived.Test.YtjcbhbncncbdjaaGreatDoorAiB
import Derived.Orders
namespace Go.Proofs.YtjcbhbncncbdjaaGreatDoorAi
open Go Go.RowKit
set_option linter.unusedVariables false
set_option linter.unusedSimpArgs false
set_option linter.unnecessarySimpa false
set_option linter.unusedSectionVars false
noncomputable def bd (H:T) (F:Nat→Option Blk):Nat→Option Blk:=fun i=>match H.get i with | some b=>some b | none=>F i
theorem cd {H:T} {F:Nat→Option Blk} {i:Nat} {b:Blk} (h:H.get i=some b):bd H F i=some b:=by simp[bd,h]
theorem cL {H:T} {F:Nat→Option Blk} (i:Nat) (b:Option Blk) (h:F i=none):bd (H.set i b) F=upd (bd H F) i b:=by
 funext j
 unfold bd upd
 rw[Tr.get_set]
 by_cases hj:j=i
 ·subst hj; cases b<;>simp[h]
 ·simp[hj]
def fY (P:Program) (s:Sem Value) (μ:Mu) (B:Nat) (F:Nat→Option Blk) (w:World) (nx:Nat) (r:R):Prop :=
 ∃v' w' μ',s.run P w= .ok v' w'∧VR μ' r.1 v'∧HR μ' B (bd r.2.1 F) w'.heap∧(∀i,F i≠none→r.2.1.get i=none)∧aX μ μ'∧(∀i,i<nx∨r.2.2.1≤i→μ' i=μ i)∧Below B w w'
def Unch (H H':T) (nx nx':Nat) (ms:List Nat):Prop:= ∀i,i∉ms→i<nx∨nx'≤i→H'.get i=H.get i
section
variable {P:Program} {μ:Mu} {B:Nat} {F:Nat→Option Blk} {w:World} {nx:Nat} {H:T}
theorem dK {x x':Value} {size m k:Nat} {news:List Value} (hm:fT x=some m) (hk:k≤m) (h:aW H size k x=some news) (hx:VR μ x x') (hr:HR μ B (bd H F) w.heap) :
  ∃news':List Value,news'.length=news.length∧(∀w1:World,w1.heap=w.heap→(Builtin.firstCells size k x').run P w1= .ok news'.toArray w1)∧(∀w1:World,(Builtin.lenOf x').run P w1= .ok m w1) ∧
   news.length=k*size∧ ∀(j:Nat) (a b:Value),news[j]? = some a→news'[j]? = some b→VR μ a b∧b.oneCell'=true:=by
 cases x with
 | slice a n c =>
  simp only[fT,Option.some.injEq] at hm
  subst hm
  cases a with
  | none =>
   have e:=hx.sliceN
   subst e
   simp only[aW] at h
   cases h0:Nat.beq k 0
   ·rw[h0] at h; cases h
   ·rw[h0] at h
    simp only[cond_true,Option.some.injEq] at h
    subst h
    have:=nbT h0
    subst this
    exact⟨[],rfl,fun w1 _=>by simp[Builtin.firstCells],fun w1=>by simp[Builtin.lenOf],by simp,by simp⟩
  | some ad =>
   simp only[aW] at h
   cases hb:H.get ad.block with
   | none=>simp[hb] at h
   | some bl =>
    cases bl with
    | iter _ _=>simp[hb] at h
    | row cs e z own =>
     obtain⟨hsp,hc⟩:=hx.sliceS
     simp only[hb,hsp] at h
     obtain⟨L,hL,hbr⟩:=hr.blk _ _ (cd hb)
     obtain⟨l',h1,h2,h3,h4⟩:=eM hbr h
     obtain⟨hle,_,hln⟩:=bu h
     rcases hc with⟨L',c',hL',hle',hcap,e'⟩ | ⟨h0,bk,e'⟩
     ·rw[hL] at hL'
      obtain rfl:=Option.some.inj hL'
      subst e'
      refine⟨l',by omega,fun w1 hw=>?_,fun w1=>by simp[Builtin.lenOf],hln,fun j a b p q=>⟨h3 j a b p q,h4 b (List.mem_of_getElem? q)⟩⟩
      have:=run_loadCells_list (P:=P) w1 ⟨L.blk,L.off+ad.off,none⟩ l' (fun j v hv=>by
       rw[Addr.add_mid]
       have:=h2 j v hv
       unfold World.cell? at this ⊢
       rw[hw]; exact this)
      rw[h1] at this
      simpa[Builtin.firstCells] using this
     ·subst h0
      subst e'
      have hk0:k=0:=by omega
      subst hk0
      have hnil:l'= []:=List.eq_nil_of_length_eq_zero (by omega)
      refine⟨[],by simp[hln],fun w1 hw=>?_,fun w1=>by simp[Builtin.lenOf],hln,fun j a b p q=>by simp at q⟩
      simp[Builtin.firstCells,loadCells,loadCellsFrom]
 | string s =>
  simp only[fT,Option.some.injEq] at hm
  subst hm
  have e:=hx.string
  subst e
  simp only[aW] at h
  cases h1:Nat.beq size 1
  ·rw[h1] at h; cases h
  ·rw[h1] at h
   simp only[cond_true,Option.some.injEq] at h
   subst h
   have:=nbT h1
   subst this
   have hlen:(bH s).length=s.size:=by simp[bH]
   refine⟨(bH s).take k,rfl,fun w1 _=>?_,fun w1=>by simp[Builtin.lenOf],by simp[hlen]; omega,fun j a b p q=>?_⟩
   ·simp only[Builtin.firstCells,Sem.run_pure]
    congr 1
    apply Array.ext'
    simp[bH,List.map_take]
   ·rw[p] at q
    obtain rfl:=Option.some.inj q
    have hj:(bH s)[j]? = some a:=by
     rw[List.getElem?_take] at p
     split at p
     ·exact p
     ·cases p
    obtain⟨hf,b',_,rfl⟩:=eS s j a hj
    exact⟨.plain (bt hf),rfl⟩
 | _=>simp[fT] at hm
theorem cX {t u ty e:TypeId} {ut:TypeDesc} {i:TypeInfo} {ats:Array TypeId} (h0:ats[0]? = some t) (h1:ats[1]? = some u) (ht:P.underlying t=some (.slice e)) (hu:P.underlying u=some ut) (hni:(∃e2,ut= .slice e2)∨ut= .string)
  (hi:P.info? e=some i) {z:Value} (hz:i.zero=some z) {base:Option Addr} {n c m:Nat} {x':Value} {news':List Value} (hm: ∀w1:World,(Builtin.lenOf x').run P w1= .ok m w1)
  (hf: ∀w1:World,w1.heap=w.heap→(Builtin.firstCells i.size m x').run P w1= .ok news'.toArray w1) :
  (n+m≤c→ ∀w2:World,(match base with | some a=>storeCells (a.add (n*i.size)) news' | none=>pure ()).run P w= .ok () w2→(Builtin.append_ ats ty #[.slice base n c,x']).run P w= .ok (.slice base (n+m) c) w2) ∧
  (¬ n+m≤c→(n+m:Nat)≤maxLen→(n+m)*i.bytes≤140737488355328→ ∀old':List Value,(∀w1:World,w1.heap=w.heap→(Builtin.firstCells i.size n (.slice base n c)).run P w1= .ok old'.toArray w1) →
   (Builtin.append_ ats ty #[.slice base n c,x']).run P w= .ok (.slice (some ⟨w.heap.size,0,none⟩) (n+m) (grownCap w (n+m) c e))
    (w.drew.alloc (.cells (old'.toArray++news'.toArray++Builtin.zeroCells z.cells (grownCap w (n+m) c e-(n+m))) e))):=by
 have h63':(n+m:Nat)≤maxLen→ ¬ (9223372036854775807<((n:Int)+(m:Int)) ):=fun h=>by unfold maxLen at h; omega
 constructor
 ·intro hroom w2 hst
  have hf':=hf w rfl
  rcases hni with⟨e2,rfl⟩ | rfl
  all_goals
   (cases base with
     | none =>
      simp only[Sem.run_pure,Result.ok.injEq,true_and] at hst
      subst hst
      simp[Builtin.append_,h0,h1,run_underlying ht,run_underlying hu,sizeOf,typeInfo,hi,hm,hroom,hf']
     | some a =>
      have hst':(storeCells (a.add (n*i.size)) news').run P w= .ok () w2:=hst
      simp[Builtin.append_,h0,h1,run_underlying ht,run_underlying hu,sizeOf,typeInfo,hi,hm,hroom,hf',hst'])
 ·intro hg h63 hb old' hfo
  have h63'':=h63' h63
  have h48: ¬ (281474976710656<Builtin.nextslicecap (n+m) c*i.bytes):=by
   have:=growslice_fits (need:=n+m) (old:=c) (bytes:=i.bytes) (by omega) hb
   omega
  have f1:=hfo w.drew rfl
  have f2:=hf w.drew rfl
  rcases hni with⟨e2,rfl⟩ | rfl
  all_goals
   (simp[Builtin.append_,h0,h1,run_underlying ht,run_underlying hu,sizeOf,typeInfo,zeroValue,hi,hz,hm,hg,h63'',h48,Question.forced,f1,f2,newRow,grownCap])
  all_goals (congr 2; apply Array.ext'; simp[List.append_assoc])
theorem gx {z:Value} {zl:List Value} {k:Nat} (h:z.cells.toList=zl):(Builtin.zeroCells z.cells k).size=k*zl.length:=by rw[size_zeroCells,← h]; simp
theorem cat_rel {a a' b b':List Value} {rest:Array Value} (ha:a.length=a'.length) (hb:b.length=b'.length) (h1: ∀(j:Nat) (x y:Value),a[j]? = some x→a'[j]? = some y→VR μ x y∧y.oneCell'=true)
  (h2: ∀(j:Nat) (x y:Value),b[j]? = some x→b'[j]? = some y→VR μ x y∧y.oneCell'=true) (k:Nat) (x y:Value) (hx:(a++b)[k]? = some x) (hy:(a'.toArray++b'.toArray++rest)[k]? = some y):VR μ x y∧y.oneCell'=true:=by
 have hlt:k<a.length+b.length:=by have:=(List.getElem?_eq_some_iff.1 hx).1; simpa using this
 rw[Array.getElem?_append_left (by simp; omega)] at hy
 have hy':(a'++b')[k]? = some y:=by
  have:(a'.toArray++b'.toArray)=(a'++b').toArray:=by simp
  rw[this] at hy
  simpa using hy
 by_cases hk:k<a.length
 ·rw[List.getElem?_append_left hk] at hx
  rw[List.getElem?_append_left (by omega)] at hy'
  exact h1 k x y hx hy'
 ·rw[List.getElem?_append_right (by omega)] at hx
  rw[List.getElem?_append_right (by omega)] at hy'
  rw[← ha] at hy'
  exact h2 _ x y hx hy'
structure App (P:Program) (ats:Array TypeId) (e:TypeId) (i:TypeInfo) (z:Value):Prop where
 ex: ∃t u ut,ats[0]? = some t∧ats[1]? = some u∧P.underlying t=some (.slice e)∧P.underlying u=some ut∧((∃e2,ut= .slice e2)∨ut= .string)
 ir:P.info? e=some i
 zero:i.zero=some z
 pos:1≤i.size
 len:z.cells.toList.length=i.size
variable {ats:Array TypeId} {ty e:TypeId} {i:TypeInfo} {z:Value}
theorem ey {B:Nat} {w:World} (hr:HR μ B (bd H F) w.heap) (hF: ∀i,F i≠none→H.get i=none) (hi:μ nx=none):F nx=none:=by
 cases e:F nx with
 | none=>rfl
 | some b =>
  have:=hr.none_of hi
  have hg:=hF nx (by rw[e]; simp)
  rw[bd,hg] at this
  simp only at this
  rw[e] at this; cases this
theorem gy (ha:App P ats e i z) (hi:μ nx=none) (hB:B≤w.heap.size) {l l':List Value} {nn cap:Nat} {K:T} {run:Sem Value} {ms:List Nat} (hl:l.length=nn*i.size) (hl':l'.length=l.length) (hcap:nn≤cap)
  (hrel: ∀(j:Nat) (a b:Value),l[j]? = some a→l'[j]? = some b→VR μ a b∧b.oneCell'=true) (hrK:HR μ B (bd K F) w.heap) (hFK: ∀i,F i≠none→K.get i=none)
  (hrun:run.run P w= .ok (.slice (some ⟨w.heap.size,0,none⟩) nn cap) (w.drew.alloc (.cells (l'.toArray++Builtin.zeroCells z.cells (cap-nn)) e))) :
  fY P run μ B F w nx (.slice (some ⟨nx,0,none⟩) nn i.size,K.set nx (some (.row l e i.size true)),Nat.succ nx,ms):=by
 have hFn:=ey hrK hFK hi
 have hs0:i.size≠0:=by have:=ha.pos; omega
 have hsz:(l'.toArray++Builtin.zeroCells z.cells (cap-nn)).size=cap*i.size:=by
  simp only[Array.size_append,List.size_toArray,gx rfl,hl',hl,ha.len]
  rw[← Nat.add_mul]; congr 1; omega
 refine⟨_,_,bA μ nx ⟨w.heap.size,0,(l'.toArray++Builtin.zeroCells z.cells (cap-nn)).size,i.size⟩,hrun,?_,?_,?_,bn hi,?_,?_⟩
 ·have:=VR.slice (μ:=bA μ nx ⟨w.heap.size,0,(l'.toArray++Builtin.zeroCells z.cells (cap-nn)).size,i.size⟩) (i:=nx) (o:=0) (n:=nn) (z:=i.size) (c':=cap) (aM _ _ _) hcap (.inr ⟨rfl,by rw[hsz]; simp⟩)
  simpa using this
 ·rw[cL nx _ hFn]
  refine hrK.new hi (.cells (l'.toArray++Builtin.zeroCells z.cells (cap-nn)) e) rfl (BR.newRow _ hB (by rw[hsz,hl]; exact Nat.mul_le_mul_right _ hcap) (fun k a b p q=>?_) (bn hi) (by simp) (fun hz=>absurd hz hs0))
  refine hrel k a b p ?_
  rw[Array.getElem?_append_left (by have:=(List.getElem?_eq_some_iff.1 p).1; simp; omega)] at q
  simpa using q
 ·intro k hk
  rw[Tr.get_set]
  split
  ·rename_i hkn; subst hkn; exact absurd hFn hk
  ·exact hFK k hk
 ·intro k hk
  have:k≠nx:=by simp only at hk; omega
  simp[bA,this]
 ·exact⟨rfl,rfl,rfl,by show w.heap.size≤(w.heap.push _).size; simp,fun k hk=>by
   show(w.heap.push _)[k]? = _
   rw[Array.getElem?_push,if_neg (by omega)]⟩
theorem HR.move {h:Nat→Option Blk} {hp hp':Array Obj} {b c:Blk} {L M:Loc} {j k:Nat} (hr:HR μ B h hp) (hi:h j=some b) (hl:μ j=some L) (ho:l5 b=true) (hk:μ k=none) (hM:M.blk=L.blk)
  (hh: ∀q,q≠L.blk→hp'[q]? = hp[q]?) (hc:BR (bA μ k M) B M hp' c):HR (bA μ k M) B (upd (upd h j none) k (some c)) hp':=by
 have hle:=bn (L:=M) hk
 have hjk:j≠k:=fun e=>by rw[e,hk] at hl; cases hl
 have hne: ∀q d N,q≠j→h q=some d→μ q=some N→N.blk≠L.blk:=fun q d N hq hd hm e=>hr.apart j q b d L N (Ne.symm hq) hi ho hd hl hm e.symm
 have old: ∀q d,q≠k→q≠j→h q=some d→ ∃N,μ q=some N∧bA μ k M q=some N∧N.blk≠L.blk:=by
  intro q d h1 h2 hd
  obtain⟨N,hN,_⟩:=hr.blk q d hd
  exact⟨N,hN,hle _ _ hN,hne q d N h2 hd hN⟩
 refine⟨fun q d e=>?_,fun p q d f M1 N n e hod g m l=>?_⟩
 ·unfold upd at e
  split at e
  ·rename_i hq; subst hq
   obtain rfl:=Option.some.inj e
   exact⟨M,aM _ _ _,hc⟩
  ·rename_i hq
   split at e
   ·cases e
   ·rename_i hqj
    obtain⟨N,hN,hbr⟩:=hr.blk q d e
    obtain⟨N',h1,h2,h3⟩:=old q d hq hqj e
    rw[hN] at h1
    obtain rfl:=Option.some.inj h1
    exact⟨N,h2,hbr.mono hle (hh _ h3)⟩
 ·unfold upd at e g
  split at e
  ·rename_i hp; subst hp
   split at g
   ·rename_i hq; exact absurd hq.symm n
   ·rename_i hq
    split at g
    ·cases g
    ·rename_i hqj
     rw[aM] at m
     obtain rfl:=Option.some.inj m
     obtain⟨N',h1,h2,h3⟩:=old q f hq hqj g
     rw[h2] at l
     obtain rfl:=Option.some.inj l
     rw[hM]; exact fun e=>h3 e.symm
  ·rename_i hpk
   split at e
   ·cases e
   ·rename_i hpj
    obtain⟨M',h1,h2,h3⟩:=old p d hpk hpj e
    rw[h2] at m
    obtain rfl:=Option.some.inj m
    split at g
    ·rename_i hq; subst hq
     rw[aM] at l
     obtain rfl:=Option.some.inj l
     rw[hM]; exact h3
    ·rename_i hq
     split at g
     ·cases g
     ·rename_i hqj
      obtain⟨N',k1,k2,k3⟩:=old q f hq hqj g
      rw[k2] at l
      obtain rfl:=Option.some.inj l
      exact hr.apart p q d f M' N' n e hod g h1 k1
theorem lp: ∀(r:List Value) (cc:Array Value) (o k:Nat),o+r.length≤cc.size→(bv cc o r)[k]? = if o≤k∧k<o+r.length then r[k-o]? else cc[k]? := by
 intro r
 induction r with
 | nil=>intro cc o k h; simp[bv]; omega
 | cons v r ih =>
  intro cc o k h
  simp only[bv]
  simp only[List.length_cons] at h ⊢
  rw[ih _ _ _ (by simp; omega)]
  by_cases h1:k=o
  ·subst h1
   rw[if_neg (by omega),if_pos (by omega)]
   have:k<cc.size:=by omega
   simp[this]
  ·by_cases h2:o+1≤k∧k<o+1+r.length
   ·rw[if_pos h2,if_pos (by omega),show k-o=(k-(o+1))+1 by omega,List.getElem?_cons_succ]
   ·rw[if_neg h2,if_neg (by omega),Array.getElem?_setIfInBounds_ne (fun e=>h1 e.symm)]
theorem oe (ha:App P ats e i z) (hi:μ nx=none) {n m c':Nat} {a:Addr} {cs old news news':List Value} {zz:Nat} {own:Bool} {L:Loc} {x':Value} {w:World} (hr:HR μ B (bd H F) w.heap) (hF: ∀i,F i≠none→H.get i=none) (hg:H.get a.block=some (.row cs e zz own)) (hown:own=true)
  (hL:μ a.block=some L) (hle:n≤c') (hcap:L.off+a.off+c'*i.size≤L.lim) (hold:aR cs a.off (n*i.size)=some old)
  (n1:news'.length=news.length) (n4:news.length=m*i.size) (n5: ∀(j:Nat) (x y:Value),news[j]? = some x→news'[j]? = some y→VR μ x y∧y.oneCell'=true) (hroom:n+m≤c')
  (hd: ∀w2:World,(storeCells ((⟨L.blk,L.off+a.off,none⟩:Addr).add (n*i.size)) news').run P w= .ok () w2→(Builtin.append_ ats ty #[.slice (some ⟨L.blk,L.off+a.off,none⟩) n c',x']).run P w= .ok (.slice (some ⟨L.blk,L.off+a.off,none⟩) (n+m) c') w2) :
  fY P (Builtin.append_ ats ty #[.slice (some ⟨L.blk,L.off+a.off,none⟩) n c',x']) μ B F w nx (.slice (some ⟨nx,0,none⟩) (n+m) i.size,(H.set a.block none).set nx (some (.row (old++news) e i.size true)),Nat.succ nx,[a.block]):=by
 subst hown
 have hFn:=ey hr hF hi
 have hFa:F a.block=none:=by
  cases e1:F a.block with
  | none=>rfl
  | some b=>have:=hF a.block (by rw[e1]; simp); rw[hg] at this; cases this
 obtain⟨L',hL',hbr⟩:=hr.blk _ _ (cd hg)
 rw[hL] at hL'
 obtain rfl:=Option.some.inj hL'
 obtain⟨cc,fz,e0,h1,h2,h3,h4,h5,h6,h7,h8⟩:=hbr
 rw[h8 rfl] at h1
 obtain⟨hle0,hol,hln⟩:=bu hold
 have hnm:n*i.size+m*i.size≤c'*i.size:=by rw[← Nat.add_mul]; exact Nat.mul_le_mul_right _ hroom
 have hB:=(h6 rfl).1
 have hfz:=(h6 rfl).2
 have hone: ∀v∈news',v.oneCell'=true:=by
  intro v hv
  obtain⟨k,hk,hk'⟩:=List.getElem_of_mem hv
  have hk2:k<news.length:=by omega
  exact(n5 k _ v (List.getElem?_eq_getElem hk2) (by rw[← hk']; simp)).2
 have hst:=run_storeCells_cells (P:=P) L.blk (L.off+a.off+n*i.size) news' 0 w (fun j hj=>by
   have hq:L.off+a.off+n*i.size+0+j<cc.size:=by omega
   unfold World.cell?
   simp only[h1]
   simp only[Nat.add_zero] at hq ⊢
   simp[hq]) (fun j hj=>by
   unfold World.frozen?
   simp only[h1]
   have:=hfz (L.off+a.off+n*i.size+0+j) (by omega)
   simp only[Bool.and_eq_false_iff,decide_eq_false_iff_not]
   omega) hone
 simp only[Nat.add_zero] at hst
 rw[← dX] at hst
 have hrun:=hd _ hst
 obtain⟨s1,s2,s3,s4⟩:=eb L.blk news' (L.off+a.off+n*i.size) w
 refine⟨_,_,bA μ nx ⟨L.blk,L.off+a.off,L.lim,i.size⟩,hrun,?_,?_,?_,bn hi,?_,⟨s1,s2,s3,by omega,fun k hk=>bB _ _ (by omega) _ _ _⟩⟩
 ·have:=VR.slice (μ:=bA μ nx ⟨L.blk,L.off+a.off,L.lim,i.size⟩) (i:=nx) (o:=0) (n:=n+m) (z:=i.size) (c':=c') (aM _ _ _) hroom (.inr ⟨rfl,by simpa using hcap⟩)
  simpa using this
 ·show HR _ _ (bd ((H.set a.block none).set nx (some (.row (old++news) e i.size true))) F) _
  rw[cL nx _ hFn,cL a.block _ hFa]
  refine hr.move (cd hg) hL rfl hi rfl (fun q hq=>bB _ _ hq _ _ _) ⟨bv cc (L.off+a.off+n*i.size) news',fz,e,d9 _ _ _ _ _ _ _ h1,by rw[dI]; exact h2,rfl,?_,?_,fun _=>⟨hB,hfz⟩,fun hz=>by have:=ha.pos; omega,fun _=>rfl⟩
  ·simp only[List.length_append,hln,n4]; omega
  ·intro k x hk
   show ∃y,(bv cc (L.off+a.off+n*i.size) news')[L.off+a.off+k]? = some y∧_
   rw[lp _ _ _ _ (by omega)]
   have hkl:k<old.length+news.length:=by have:=(List.getElem?_eq_some_iff.1 hk).1; simpa using this
   by_cases hk1:k<old.length
   ·rw[List.getElem?_append_left hk1] at hk
    rw[if_neg (by simp only[hln] at hk1; omega)]
    have hx:cs[a.off+k]? = some x:=by
     rw[hol,List.getElem?_take,if_pos (by omega),List.getElem?_drop] at hk
     exact hk
    obtain⟨y,y1,y2,y3⟩:=h5 _ _ hx
    exact⟨y,by rw[← y1]; congr 1; omega,y2.mono (bn hi),y3⟩
   ·rw[List.getElem?_append_right (by omega)] at hk
    rw[if_pos (by omega)]
    have hj:L.off+a.off+k-(L.off+a.off+n*i.size)=k-old.length:=by omega
    simp only[hj]
    have hk2:k-old.length<news'.length:=by omega
    obtain⟨p1,p2⟩:=n5 _ x _ hk (List.getElem?_eq_getElem hk2)
    exact⟨_,List.getElem?_eq_getElem hk2,p1.mono (bn hi),p2⟩
 ·intro k hk
  show((H.set a.block none).set nx _).get k=none
  rw[Tr.get_set,Tr.get_set]
  split
  ·rename_i hkn; subst hkn; exact absurd hFn hk
  ·split
   ·rfl
   ·exact hF k hk
 ·intro k hk
  have:k≠nx:=by simp only at hk; omega
  simp[bA,this]
theorem mP (hi:P.info? e=some i) {zl:List Value} (h:aS P e=some zl): ∃zv,i.zero=some zv∧zv.cells.toList=zl:=by
 obtain⟨i',zv,h1,h2,h3,_⟩:=cn h
 rw[hi] at h1
 obtain rfl:=Option.some.inj h1
 exact⟨zv,h2,h3⟩
theorem mQ {args:List Value} {args':Array Value} {r:R} (h:bL P ats args H nx=some r) (hs:args.length=args'.size) (hrel: ∀(k:Nat) (x y:Value),args[k]? = some x→args'[k]? = some y→VR μ x y)
  (hr:HR μ B (bd H F) w.heap) (hF: ∀i,F i≠none→H.get i=none) (hfr: ∀i,nx≤i→i<r.2.2.1→μ i=none) (hB:B≤w.heap.size) :
  fY P (Builtin.append_ ats ty args') μ B F w nx r∧Unch H r.2.1 nx r.2.2.1 r.2.2.2∧nx≤r.2.2.1:=by
 unfold bL at h
 split at h
 case h_2=>cases h
 rename_i s x
 obtain⟨s',x',rfl⟩: ∃s' x',args'= #[s',x']:=by
  obtain⟨l⟩:=args'
  match l,hs with
  | [a,b],_=>exact⟨a,b,rfl⟩
 have hsv:=hrel 0 s s' rfl rfl
 have hxv:=hrel 1 x x' rfl rfl
 clear hrel hs
 unfold nO at h
 split at h
 case h_2=>cases h
 rename_i e u ht hu
 cases hsrc:kW u
 ·rw[hsrc] at h; cases h
 rw[hsrc,cond_true] at h
 unfold je at h
 split at h
 case h_2=>cases h
 rename_i i zl hinf hzl
 cases hc:Nat.ble 1 i.size&&Nat.beq zl.length i.size
 ·rw[hc] at h; cases h
 rw[hc,cond_true] at h
 simp only[Bool.and_eq_true] at hc
 obtain⟨hpos,hzlen⟩:=hc
 have hpos:=Nat.le_of_ble_eq_true hpos
 have hzlen:=nbT hzlen
 obtain⟨zv,hz1,hz2⟩:=mP hinf hzl
 unfold j8 at h
 split at h
 case h_2=>cases h
 rename_i base n c m hsl hm
 have hse:=bx hsl
 subst hse
 obtain⟨t1,ht1,ht2⟩:=Option.bind_eq_some_iff.1 ht
 obtain⟨u1,hu1,hu2⟩:=Option.bind_eq_some_iff.1 hu
 have hsrc':(∃e2,u= .slice e2)∨u= .string:=by
  cases u<;>first | exact .inl ⟨_,rfl⟩ | exact .inr rfl | cases hsrc
 have ha:App P ats e i zv:=⟨⟨t1,u1,u,ht1,hu1,ht2,hu2,hsrc'⟩,hinf,hz1,hpos,by rw[hz2,hzlen]⟩
 unfold gi at h
 cases hm0:Nat.beq m 0
 ·rw[hm0,cond_false] at h
  cases hbig:Nat.ble ((n+m)*i.bytes) 140737488355328&&Nat.ble (n+m) maxLen
  ·rw[hbig] at h; cases h
  rw[hbig,cond_true] at h
  simp only[Bool.and_eq_true] at hbig
  have hb1:=Nat.le_of_ble_eq_true hbig.1
  have hb2:=Nat.le_of_ble_eq_true hbig.2
  cases hnews:aW H i.size m x with
  | none=>rw[hnews] at h; cases h
  | some news =>
   rw[hnews] at h
   obtain⟨news',n1,n2,n3,n4,n5⟩:=dK hm (Nat.le_refl m) hnews hxv hr
   cases base with
   | none =>
    simp only[eo] at h
    cases hc0:Nat.beq n 0&&Nat.beq c 0
    ·rw[hc0] at h; cases h
    rw[hc0,cond_true] at h
    simp only[Bool.and_eq_true] at hc0
    have e1:=nbT hc0.1
    have e2:=nbT hc0.2
    subst e1
    subst e2
    obtain rfl:=Option.some.inj h
    have e3:=hsv.sliceN
    subst e3
    have hi:μ nx=none:=hfr nx (Nat.le_refl _) (Nat.lt_succ_self _)
    have hm1:m≠0:=Nat.ne_of_beq_eq_false hm0
    obtain⟨g1,g2⟩:=cX (ty:=ty) (base:=none) (n:=0) (c:=0) ht1 hu1 ht2 hu2 hsrc' hinf hz1 n3 n2
    have hrun:=g2 (by omega) hb2 hb1 [] (fun w1 _=>by simp[Builtin.firstCells])
    refine⟨?_,fun k hk hk2=>?_,Nat.le_succ _⟩
    ·refine gy ha hi hB n4 n1 (cap:=grownCap w (0+m) 0 e) (grownCap_ge w (0+m) 0 e |> fun h=>by simpa using h) n5 hr hF ?_
     simpa using hrun
    ·show(H.set nx _).get k=_
     rw[Tr.get_set,if_neg (by simp only at hk2; omega)]
   | some a =>
    simp only[eo] at h
    unfold j7 at h
    split at h
    case h_2=>cases h
    rename_i cs el zz own hg
    cases hc0:own&&Nat.beq zz i.size&&Nat.beq c zz&&Nat.beq el e
    ·rw[hc0] at h; cases h
    rw[hc0,cond_true] at h
    simp only[Bool.and_eq_true] at hc0
    obtain⟨⟨⟨hown,e1⟩,e2⟩,e3⟩:=hc0
    have e1:=nbT e1
    have e2:=nbT e2
    have e3:=nbT e3
    subst e1
    subst e2
    subst e3
    unfold lV at h
    split at h
    case h_2=>cases h
    rename_i old hold
    obtain rfl:=Option.some.inj h
    have hi:μ nx=none:=hfr nx (Nat.le_refl _) (Nat.lt_succ_self _)
    have hm1:m≠0:=Nat.ne_of_beq_eq_false hm0
    obtain⟨hsp,hcase⟩:=hsv.sliceS
    obtain⟨L,hL,hbr⟩:=hr.blk _ _ (cd hg)
    have hFa:F a.block=none:=by
     cases e1:F a.block with
     | none=>rfl
     | some b=>have:=hF a.block (by rw[e1]; simp); rw[hg] at this; cases this
    have hrK:HR μ B (bd (H.set a.block none) F) w.heap:=by rw[cL a.block _ hFa]; exact hr.kill _
    have hFK: ∀i,F i≠none→(H.set a.block none).get i=none:=by
     intro k hk
     rw[Tr.get_set]
     split
     ·rfl
     ·exact hF k hk
    have hun:Unch H ((H.set a.block none).set nx (some (.row (old++news) el i.size true))) nx (Nat.succ nx) [a.block]:=by
     intro k hk hk2
     rw[Tr.get_set,if_neg (by omega),Tr.get_set,if_neg (by simpa using hk)]
    obtain⟨hle0,hol,hln⟩:=bu hold
    rcases hcase with⟨L',c',hL',hle',hcap,e4⟩ | ⟨h0,bk,e4⟩
    ·rw[hL] at hL'
     obtain rfl:=Option.some.inj hL'
     subst e4
     have hcap':L.off+a.off+c'*i.size≤L.lim:=by
      rcases hcap with hcap | ⟨_,hcap⟩
      ·omega
      ·exact hcap
     obtain⟨g1,g2⟩:=cX (ty:=ty) (base:=some ⟨L.blk,L.off+a.off,none⟩) (n:=n) (c:=c') ht1 hu1 ht2 hu2 hsrc' hinf hz1 n3 n2
     by_cases hroom:n+m≤c'
     ·refine⟨oe ha hi hr hF hg hown hL hle' hcap' hold n1 n4 n5 hroom (fun w2 hst=>g1 hroom w2 hst),hun,Nat.le_succ _⟩
     ·obtain⟨l',p1,p2,p3,p4⟩:=eM hbr hold
      have hrun:=g2 hroom hb2 hb1 l' (fun w1 hw=>by
       have:=run_loadCells_list (P:=P) w1 ⟨L.blk,L.off+a.off,none⟩ l' (fun j v hv=>by
        rw[Addr.add_mid]
        have:=p2 j v hv
        unfold World.cell? at this ⊢
        rw[hw]; exact this)
       rw[p1] at this
       simpa[Builtin.firstCells] using this)
      refine⟨gy ha hi hB (l:=old++news) (l':=l'++news') (nn:=n+m) (cap:=grownCap w (n+m) c' el) ?_ ?_ (grownCap_ge w (n+m) c' el |> fun h=>by simpa using h) ?_ hrK hFK ?_,hun,Nat.le_succ _⟩
      ·simp[hln,n4,Nat.add_mul]
      ·simp[p1,hln,n1]
      ·intro j x y hx hy
       exact cat_rel (rest:= #[]) (by omega) n1.symm (fun k x y p q=>⟨p3 k x y p q,p4 y (List.mem_of_getElem? q)⟩) n5 j x y hx (by simpa using hy)
      ·simpa using hrun
    ·subst h0
     subst e4
     have hold0:old= []:=List.eq_nil_of_length_eq_zero (by omega)
     subst hold0
     obtain⟨g1,g2⟩:=cX (ty:=ty) (base:=some bk) (n:=0) (c:=0) ht1 hu1 ht2 hu2 hsrc' hinf hz1 n3 n2
     have hrun:=g2 (by omega) hb2 hb1 [] (fun w1 hw=>by simp[Builtin.firstCells,loadCells,loadCellsFrom])
     refine⟨gy ha hi hB (l:=[]++news) (l':=[]++news') (nn:=0+m) (cap:=grownCap w (0+m) 0 el) (by simpa using n4) (by simpa using n1) (grownCap_ge w (0+m) 0 el |> fun h=>by simpa using h) (by simpa using n5) hrK hFK (by simpa using hrun),hun,Nat.le_succ _⟩
 ·rw[hm0,cond_true] at h
  have:=nbT hm0
  subst this
  obtain⟨hkeep,rfl⟩:(base=none→n=0)∧r=(Value.slice base n c,H,nx,([]:List Nat)):=by
   unfold jd at h
   split at h
   ·cases h1:Nat.beq n 0
    ·rw[h1] at h; cases h
    ·rw[h1] at h
     exact⟨fun _=>nbT h1,(Option.some.inj h).symm⟩
   ·exact⟨fun h=>(by cases h),(Option.some.inj h).symm⟩
  refine⟨?_,fun _ _ _=>rfl,Nat.le_refl _⟩
  have hmz: ∀w1:World,(Builtin.lenOf x').run P w1= .ok 0 w1∧(w1.heap=w.heap→(Builtin.firstCells i.size 0 x').run P w1= .ok (#[]:Array Value) w1):=by
   intro w1
   cases x with
   | slice a n2 c2 =>
    simp only[fT,Option.some.injEq] at hm
    subst hm
    cases a with
    | none =>
     have e:=hxv.sliceN
     subst e
     exact⟨by simp[Builtin.lenOf],fun _=>by simp[Builtin.firstCells]⟩
    | some ad =>
     obtain⟨_,hc⟩:=hxv.sliceS
     rcases hc with⟨L',c',hL',hle',hcap,e'⟩ | ⟨h0,bk,e'⟩
     all_goals
      (subst e'
       exact⟨by simp[Builtin.lenOf],fun _=>by simp[Builtin.firstCells,loadCells,loadCellsFrom]⟩)
   | string s =>
    simp only[fT,Option.some.injEq] at hm
    have e:=hxv.string
    subst e
    refine⟨by simp[Builtin.lenOf,hm],fun _=>?_⟩
    simp only[Builtin.firstCells,Sem.run_pure]
    congr 1
    apply Array.ext'
    simp
   | _=>simp[fT] at hm
  have same: ∀(b:Option Addr) (n' c':Nat),n'≤c'→s'= .slice b n' c'→(Builtin.append_ ats ty #[s',x']).run P w= .ok s' w:=by
   intro b n' c' hle e
   subst e
   have:=(cX (ty:=ty) (base:=b) (n:=n') (c:=c') (news':=[]) ht1 hu1 ht2 hu2 hsrc' hinf hz1 (fun w1=>(hmz w1).1) (fun w1 hw=>(hmz w1).2 hw)).1 (by omega) w (by cases b<;>simp[storeCells])
   simpa using this
  have hrun:(Builtin.append_ ats ty #[s',x']).run P w= .ok s' w:=by
   cases base with
   | none=>exact same none n c (by rw[hkeep rfl]; exact Nat.zero_le _) hsv.sliceN
   | some ad =>
    obtain⟨_,hc⟩:=hsv.sliceS
    rcases hc with⟨L',c',hL',hle',hcap,e'⟩ | ⟨h0,bk,e'⟩
    ·exact same _ _ _ hle' e'
    ·exact same _ _ _ (Nat.le_refl _) e'
  exact⟨s',w,μ,hrun,hsv,hr,hF,aX.refl _,fun _ _=>rfl,Below.refl _ _⟩
end
end Go.Proofs.YtjcbhbncncbdjaaGreatDoorAi
namespace Go.Proofs.YtjcbhbncncbdjaaGreatDoorAi
open Go Go.RowKit
set_option linter.unusedVariables false
set_option linter.unusedSimpArgs false
set_option linter.unnecessarySimpa false
set_option linter.unusedSectionVars false
section
variable {P:Program} {μ:Mu} {B:Nat} {F:Nat→Option Blk} {w:World} {nx:Nat} {H:T} {ats:Array TypeId} {ty:TypeId}
theorem copy_ok {args:List Value} {args':Array Value} {r:R} (h:iI P ats args H nx=some r) (hs:args.length=args'.size) (hrel: ∀(k:Nat) (x y:Value),args[k]? = some x→args'[k]? = some y→VR μ x y)
  (hr:HR μ B (bd H F) w.heap) (hF: ∀i,F i≠none→H.get i=none) :
  fY P (Builtin.copy_ ats ty args') μ B F w nx r∧Unch H r.2.1 nx r.2.2.1 r.2.2.2∧nx≤r.2.2.1:=by
 unfold iI at h
 split at h
 case h_2=>cases h
 rename_i s x
 obtain⟨s',x',rfl⟩: ∃s' x',args'= #[s',x']:=by
  obtain⟨l⟩:=args'
  match l,hs with
  | [a,b],_=>exact⟨a,b,rfl⟩
 have hsv:=hrel 0 s s' rfl rfl
 have hxv:=hrel 1 x x' rfl rfl
 clear hrel hs
 unfold cpTy at h
 split at h
 case h_2=>cases h
 rename_i e ht
 split at h
 case h_2=>cases h
 rename_i size hsz
 cases hpos:Nat.ble 1 size
 ·rw[hpos] at h; cases h
 rw[hpos,cond_true] at h
 unfold nQ at h
 split at h
 case h_2=>cases h
 rename_i base d c m hsl hm
 have hse:=bx hsl
 subst hse
 obtain⟨t1,ht1,ht2⟩:=Option.bind_eq_some_iff.1 ht
 cases hnews:aW H size (min m d) x with
 | none=>rw[hnews] at h; cases h
 | some news =>
  rw[hnews] at h
  obtain⟨news',n1,n2,n3,n4,n5⟩:=dK (P:=P) hm (Nat.min_le_left m d) hnews hxv hr
  have e3:=n3 w
  have e2:=n2 w rfl
  have hu:(underlying t1:Sem _).run P w= .ok (.slice e) w:=run_underlying ht2 w
  have hone: ∀v∈news',v.oneCell'=true:=by
   intro v hv
   obtain⟨k,hk,hk'⟩:=List.getElem_of_mem hv
   have hk2:k<news.length:=by omega
   exact(n5 k _ v (List.getElem?_eq_getElem hk2) (by rw[← hk']; simp)).2
  simp only[kX] at h
  cases base with
  | none =>
   simp only at h
   cases hd:Nat.beq d 0
   ·rw[hd] at h; cases h
   rw[hd,cond_true] at h
   have:=nbT hd
   subst this
   obtain rfl:=Option.some.inj h
   have e4:=hsv.sliceN
   subst e4
   have hnil:news'= []:=List.eq_nil_of_length_eq_zero (by simp at n4; simp[n1,n4])
   subst hnil
   refine⟨⟨goInt 0,w,μ,?_,.plain rfl,hr,hF,aX.refl _,fun _ _=>rfl,Below.refl _ _⟩,fun _ _ _=>rfl,Nat.le_refl _⟩
   simp[Builtin.copy_,ht1,hu,e3,bi hsz]
   simp only[Nat.min_zero] at e2
   simp[Nat.min_def,e2]
  | some a =>
   simp only at h
   unfold nP at h
   split at h
   case h_2=>cases h
   rename_i cs e' z own hg
   cases hc0:own&&Nat.beq z size&&Nat.ble (a.off+d*size) cs.length
   ·rw[hc0] at h; cases h
   rw[hc0,cond_true] at h
   simp only[Bool.and_eq_true] at hc0
   obtain⟨⟨hown,e1⟩,hle⟩:=hc0
   have e1:=nbT e1
   have hle:=Nat.le_of_ble_eq_true hle
   subst e1
   subst hown
   obtain rfl:=Option.some.inj h
   have hFa:F a.block=none:=by
    cases e1:F a.block with
    | none=>rfl
    | some b=>have:=hF a.block (by rw[e1]; simp); rw[hg] at this; cases this
   have hun:Unch H (H.set a.block (some (.row (setCells cs a.off news) e' z true))) nx nx [a.block]:=by
    intro k hk hk2
    rw[Tr.get_set,if_neg (by simpa using hk)]
   have hFK: ∀i,F i≠none→(H.set a.block (some (.row (setCells cs a.off news) e' z true))).get i=none:=by
    intro k hk
    rw[Tr.get_set]
    split
    ·rename_i hk2; subst hk2; exact absurd hFa hk
    ·exact hF k hk
   obtain⟨hsp,hcase⟩:=hsv.sliceS
   obtain⟨L,hL,hbr⟩:=hr.blk _ _ (cd hg)
   have hmd:min m d*z≤d*z:=Nat.mul_le_mul_right _ (Nat.min_le_right m d)
   rcases hcase with⟨L',c',hL',hle',hcap,e4⟩ | ⟨h0,bk,e4⟩
   ·rw[hL] at hL'
    obtain rfl:=Option.some.inj hL'
    subst e4
    have hth:=ke hbr rfl (o:=a.off) (n:=d*z) hle
    have hst:=run_storeCells_cells (P:=P) L.blk (L.off+a.off) news' 0 w (fun j hj=>by simpa using (hth j (by omega)).1) (fun j hj=>by simpa using (hth j (by omega)).2) hone
    simp only[Nat.add_zero] at hst
    have key:=k9 hr (cd hg) hL rfl a.off news news' n1.symm n5
    refine⟨⟨goInt (min m d:Nat),_,μ,?_,.plain rfl,?_,hFK,aX.refl _,fun _ _=>rfl,key.2⟩,hun,Nat.le_refl _⟩
    ·have e5:Nat.min m d=min m d:=rfl
     simp[Builtin.copy_,ht1,hu,e3,bi hsz,e5,e2,hst]
    ·show HR _ _ (bd (H.set a.block _) F) _
     rw[cL a.block _ hFa]
     exact key.1
   ·subst h0
    subst e4
    have hnil':news= []:=List.eq_nil_of_length_eq_zero (by simpa using n4)
    have hnil:news'= []:=List.eq_nil_of_length_eq_zero (by rw[n1,hnil']; rfl)
    subst hnil
    subst hnil'
    refine⟨⟨goInt (min m 0:Nat),w,μ,?_,.plain rfl,?_,hFK,aX.refl _,fun _ _=>rfl,Below.refl _ _⟩,hun,Nat.le_refl _⟩
    ·have e5:Nat.min m 0=min m 0:=rfl
     simp only[Nat.min_zero] at e2
     simp[Builtin.copy_,ht1,hu,e3,bi hsz,e5,e2,storeCells]
    ·have key:=k9 hr (cd hg) hL rfl a.off [] [] rfl (fun k x y hx _=>by simp at hx)
     show HR _ _ (bd (H.set a.block _) F) _
     rw[cL a.block _ hFa]
     exact key.1
end
end Go.Proofs.YtjcbhbncncbdjaaGreatDoorAi
namespace Go.Proofs.YtjcbhbncncbdjaaGreatDoorAi
open Go Go.RowKit
set_option linter.unusedVariables false
set_option linter.unusedSimpArgs false
set_option linter.unnecessarySimpa false
set_option linter.unusedSectionVars false
theorem aH {α:Type} {b:Bool} {x:Option α} {r:α} (h:(bif b then x else none)=some r):b=true∧x=some r:=by
 cases b
 ·cases h
 ·exact⟨rfl,h⟩
def dk (μ:Mu) (l:List Value) (a:Array Value):Prop:=l.length=a.size∧ ∀(k:Nat) (x y:Value),l[k]? = some x→a[k]? = some y→VR μ x y
theorem dk.append {μ:Mu} {l m:List Value} {a b:Array Value} (h:dk μ l a) (k:dk μ m b):dk μ (l++m) (a++b):=by
 refine⟨by simp[h.1,k.1],fun j x y p q=>?_⟩
 have hl:=h.1
 by_cases hj:j<l.length
 ·rw[List.getElem?_append_left hj] at p
  rw[Array.getElem?_append_left (by omega)] at q
  exact h.2 j x y p q
 ·rw[List.getElem?_append_right (by omega)] at p
  rw[Array.getElem?_append_right (by omega)] at q
  rw[hl] at p
  exact k.2 _ x y p q
theorem dk.plain {μ:Mu} {l:List Value} {a:Array Value} (h:dk μ l a) (hp:aV l=true):a=l.toArray:=by
 apply Array.ext'
 simp only
 refine List.ext_getElem? fun k=>?_
 rw[aV,List.all_eq_true] at hp
 by_cases hk:k<l.length
 ·have h1:l[k]? = some (l[k]'hk):=List.getElem?_eq_getElem hk
  have h2:a[k]? = some (a[k]'(by rw[← h.1]; exact hk)):=Array.getElem?_eq_getElem _
  have:=(h.2 k _ _ h1 h2).plainI (hp _ (List.getElem_mem hk))
  rw[h1,Array.getElem?_toList,h2,this]
 ·rw[List.getElem?_eq_none (l:=l) (by omega),List.getElem?_eq_none (by have:=h.1; rw[Array.length_toList]; omega)]
def gz (NG:Nat) (μ:Mu):Prop:= ∀g,g<NG→ ∃L,μ g=some L∧L.blk=g∧L.off=0∧(g=6→L.lim=20)
theorem gz.mono {NG:Nat} {μ μ':Mu} (hm:aX μ μ') (h:gz NG μ):gz NG μ':=fun g hg=>let ⟨L,a,b⟩:=h g hg; ⟨L,hm _ _ a,b⟩
def fV (r:R) (μ:Mu) (B:Nat) (F:Nat→Option Blk) (w:World) (nx:Nat) (v':Value) (w':World):Prop :=
 ∃μ',VR μ' r.1 v'∧HR μ' B (bd r.2.1 F) w'.heap∧(∀i,F i≠none→r.2.1.get i=none)∧aX μ μ'∧(∀i,i<nx∨r.2.2.1≤i→μ' i=μ i)∧Below B w w'
def Wf (H:T) (nx:Nat):Prop:= ∀i,nx≤i→H.get i=none
def bV (E:Env) (call:am):Prop:= ∀g args H nx r,call g args H nx=some r→ ∀(μ:Mu) (B:Nat) (F:Nat→Option Blk) (w:World) (args':Array Value),
 Wf H nx→dk μ args args'→HR μ B (bd H F) w.heap→(∀i,F i≠none→H.get i=none)→(∀i,nx≤i→i<r.2.2.1→μ i=none)→gz E.NG μ→B≤w.heap.size →
 Calls E.P g args' w fun e w'=> ∃v',e= .returned v'∧fV r μ B F w nx v' w'
structure ROk (H:T) (nx:Nat) (r:R):Prop where
 le:nx≤r.2.2.1
 wf:Wf H nx→Wf r.2.1 r.2.2.1
 unch:Wf H nx→ ∀i,i∉r.2.2.2→i<nx∨r.2.2.1≤i→r.2.1.get i=H.get i
 lt:Wf H nx→ ∀i,i∈r.2.2.2→i<nx
def aj (call:am):Prop:= ∀g args H nx r,call g args H nx=some r→ROk H nx r
structure cM (E:Env):Prop where
 over:bV E E.over
 overA:aj E.over
 mixed:E.P.follows .mixedOrders=true
 name: ∀(g:Nat) fn,E.P.funcs[g]? = some fn→(fn.name== "runtime.NumGoroutine")=false
 ext: ∀g args v,E.ext g args=some v→plain v=true∧ ∀w:World,(callFunc g args.toArray).run E.P w= .ok (.value v) w
 same: ∀g,E.same g=true→ ∀(x:Value) (w:World),(callFunc g #[x]).run E.P w= .ok (.value x) w
 mnz: ∀g e,E.mnz g=some e→ ∀n:Int,0≤n→n≤140737488355328→ ∀w:World,∃(cap:Nat) (cc:Array Value) (w':World),n.toNat≤cap∧cc.size=cap∧(∀v∈cc,v.oneCell'=true) ∧
  (callFunc g #[.int .i64 n]).run E.P w= .ok (.value (.slice (some ⟨w.heap.size,0,none⟩) n.toNat cap)) w'∧w'.heap=w.heap.push (.cells cc e)∧w'.os=w.os∧w'.tape=w.tape∧w'.output=w.output
theorem ROk.same {H:T} {nx:Nat} {v:Value}:ROk H nx (v,H,nx,[]):=⟨Nat.le_refl _,fun h=>h,fun _ _ _ _=>rfl,fun _ i hi=>by simp at hi⟩
theorem ROk.new {H:T} {nx:Nat} {v:Value} {b:Blk}:ROk H nx (v,H.set nx (some b),nx+1,[]) :=
 ⟨Nat.le_succ _,fun h i hi=>by simp only at hi; show(H.set nx _).get i=none; rw[Tr.get_set,if_neg (by omega)]; exact h i (by omega),
  fun _ i _ hi=>by simp only at hi; show(H.set nx _).get i=_; rw[Tr.get_set,if_neg (by omega)],fun _ i hi=>by simp at hi⟩
theorem ROk.upd {H:T} {nx j:Nat} {v:Value} {b:Blk} {b':Option Blk} (hj:H.get j=some b):ROk H nx (v,H.set j b',nx,[j]) :=
 ⟨Nat.le_refl _,fun h i hi=>by
   simp only at hi; show(H.set j _).get i=none; rw[Tr.get_set]; split
   ·rename_i e; subst e; rw[h _ hi] at hj; cases hj
   ·exact h i hi,
  fun h i hm hi=>by show(H.set j _).get i=_; rw[Tr.get_set,if_neg (by simpa using hm)],fun h i hi=>by
   obtain rfl:i=j:=by simpa using hi
   exact Nat.lt_of_not_le fun e=>by rw[h i e] at hj; cases hj⟩
theorem ROk.move {H:T} {nx j:Nat} {v:Value} {b c:Blk} (hj:H.get j=some b):ROk H nx (v,(H.set j none).set nx (some c),nx+1,[j]) :=
 ⟨Nat.le_succ _,fun h i hi=>by
   simp only at hi; show((H.set j none).set nx _).get i=none; rw[Tr.get_set,if_neg (by omega),Tr.get_set]; split
   ·rfl
   ·exact h i (by omega),
  fun h i hm hi=>by simp only at hi; show((H.set j none).set nx _).get i=_; rw[Tr.get_set,if_neg (by omega),Tr.get_set,if_neg (by simpa using hm)],fun h i hi=>by
   obtain rfl:i=j:=by simpa using hi
   exact Nat.lt_of_not_le fun e=>by rw[h i e] at hj; cases hj⟩
theorem lq {P:Program} {ats:Array TypeId} {args:List Value} {H:T} {nx:Nat} {r:R} (h:bL P ats args H nx=some r):ROk H nx r:=by
 unfold bL at h
 split at h
 case h_2=>cases h
 unfold nO at h
 split at h
 case h_2=>cases h
 rename_i e u _ _
 cases hsrc:kW u
 ·rw[hsrc] at h; cases h
 rw[hsrc,cond_true] at h
 unfold je at h
 split at h
 case h_2=>cases h
 rename_i i zl _ _
 cases hc:Nat.ble 1 i.size&&Nat.beq zl.length i.size
 ·rw[hc] at h; cases h
 rw[hc,cond_true] at h
 unfold j8 at h
 split at h
 case h_2=>cases h
 rename_i base n c m hsl hm
 unfold gi at h
 cases hm0:Nat.beq m 0
 ·rw[hm0,cond_false] at h
  cases hbig:Nat.ble ((n+m)*i.bytes) 140737488355328&&Nat.ble (n+m) maxLen
  ·rw[hbig] at h; cases h
  rw[hbig,cond_true] at h
  unfold eo at h
  split at h
  case h_2=>cases h
  split at h
  ·cases hc0:Nat.beq n 0&&Nat.beq c 0<;>rw[hc0] at h
   ·cases h
   ·rw[cond_true] at h
    obtain rfl:=Option.some.inj h
    exact ROk.new
  ·unfold j7 at h
   split at h
   case h_2=>cases h
   rename_i a cs el zz own hg
   cases hc0:own&&Nat.beq zz i.size&&Nat.beq c zz&&Nat.beq el e<;>rw[hc0] at h
   ·cases h
   ·rw[cond_true] at h
    unfold lV at h
    split at h
    case h_2=>cases h
    obtain rfl:=Option.some.inj h
    exact ROk.move hg
 ·rw[hm0,cond_true] at h
  unfold jd at h
  split at h
  ·cases h1:Nat.beq n 0<;>rw[h1] at h
   ·cases h
   ·rw[cond_true] at h
    obtain rfl:=Option.some.inj h
    exact ROk.same
  ·obtain rfl:=Option.some.inj h
   exact ROk.same
theorem og {P:Program} {ats:Array TypeId} {args:List Value} {H:T} {nx:Nat} {r:R} (h:iI P ats args H nx=some r):ROk H nx r:=by
 unfold iI at h
 split at h
 case h_2=>cases h
 unfold cpTy at h
 split at h
 case h_2=>cases h
 split at h
 case h_2=>cases h
 rename_i size _
 cases hpos:Nat.ble 1 size<;>rw[hpos] at h
 ·cases h
 rw[cond_true] at h
 unfold nQ at h
 split at h
 case h_2=>cases h
 unfold kX at h
 split at h
 case h_2=>cases h
 split at h
 ·obtain⟨_,h⟩:=aH h
  obtain rfl:=Option.some.inj h
  exact ROk.same
 ·unfold nP at h
  split at h
  case h_2=>cases h
  rename_i hg
  obtain⟨_,h⟩:=aH h
  obtain rfl:=Option.some.inj h
  exact ROk.upd hg
section
variable {E:Env} {call:am} {ρ ρ':Operand→Value} {H:T} {nx:Nat} {r:R}
theorem oh {g:FuncId} {args:List Value} (h:j9 E g args H nx=some r):ROk H nx r:=by
 unfold j9 at h
 cases hs:E.same g<;>rw[hs] at h
 ·rw[cond_false] at h
  split at h
  ·split at h
   ·split at h
    ·obtain rfl:=Option.some.inj h
     exact ROk.new
    ·cases h
   ·cases h
  ·obtain⟨_,h⟩:=aH h
   obtain⟨v,_,h⟩:=Option.map_eq_some_iff.1 h
   subst h
   exact ROk.same
 ·rw[cond_true] at h
  split at h
  ·obtain rfl:=Option.some.inj h
   exact ROk.same
  ·cases h
theorem mR (hoa:aj E.over) (hc:aj call) {args:List Value} {f:Option (Fn×Array Value×Array Value)} (h:fI E call args H nx f=some r):ROk H nx r:=by
 unfold fI at h
 split at h
 case h_2=>cases h
 unfold ka at h
 split at h
 case h_2=>cases h
 unfold bR at h
 split at h
 ·unfold dH at h
  split at h
  ·rename_i r' ho
   obtain rfl:=Option.some.inj h
   exact hoa _ _ _ _ _ ho
  ·exact hc _ _ _ _ _ h
 ·exact oh h
theorem dl (hoa:aj E.over) (hc:aj call) {o:Op} (h:bj o E call ρ H nx=some r):ROk H nx r:=by
 cases o with
 | call c =>
  obtain⟨callee,args,ats⟩:=c
  cases callee with
  | value f=>exact mR hoa hc h
  | invoke _ _=>cases h
  | builtin b =>
   cases b with
   | append=>exact lq h
   | copy=>exact og h
   | _=>cases h
 | _=>cases h
theorem eA {P:Program} {o:Oper} {a:Act} {next:Act→World→Prop} {Q:Exit→Act→World→Prop} {w w':World} {v:Value} (h:(execOp a.eval o).run P w= .ok (.value v) w') (hn:next (a.put o.dst v) w'):o.wp P a w next Q:=by
 unfold Oper.wp
 rw[h]
 exact hn
theorem mS (he:cM E) (hcall:bV E call) {g:FuncId} {fn:Func} (hg:E.P.funcs[g]? = some fn) {args:List Value} {args':Array Value} (h:bR E call g args H nx fn=some r) {μ:Mu} {B:Nat} {F:Nat→Option Blk} {w:World}
  (hwf:Wf H nx) (ha:dk μ args args') (hr:HR μ B (bd H F) w.heap) (hF: ∀i,F i≠none→H.get i=none) (hfr: ∀i,nx≤i→i<r.2.2.1→μ i=none) (hgl:gz E.NG μ) (hB:B≤w.heap.size) :
  (∃v' w',(callFunc g args').run E.P w= .ok (.value v') w'∧fV r μ B F w nx v' w') ∨
  ((callFunc g args').run E.P w= .ok (.enter g args') w∧Calls E.P g args' w fun e w'=> ∃v',e= .returned v'∧fV r μ B F w nx v' w'):=by
 unfold bR at h
 split at h
 ·rename_i c hb
  have hcase:Calls E.P g args' w fun e w'=> ∃v',e= .returned v'∧fV r μ B F w nx v' w':=by
   unfold dH at h
   split at h
   ·rename_i r' ho
    obtain rfl:=Option.some.inj h
    exact he.over g args H nx r' ho μ B F w args' hwf ha hr hF hfr hgl hB
   ·exact hcall g args H nx r h μ B F w args' hwf ha hr hF hfr hgl hB
  refine .inr ⟨?_,hcase⟩
  have hnm: ¬ fn.name= "runtime.NumGoroutine" := by simpa using he.name g fn hg
  simp[callFunc,hg,hnm,hb]
 ·left
  unfold j9 at h
  cases hs:E.same g<;>rw[hs] at h
  ·rw[cond_false] at h
   split at h
   ·rename_i e hm
    split at h
    ·rename_i n
     split at h
     ·rename_i hn
      obtain rfl:=Option.some.inj h
      obtain⟨hl,hk⟩:=ha
      obtain⟨x,rfl⟩: ∃x,args'= #[x]:=by
       obtain⟨l⟩:=args'
       match l,hl with
       | [x],_=>exact⟨x,rfl⟩
      have:=(hk 0 _ x rfl rfl).int
      subst this
      obtain⟨cap,cc,w',h1,h2,h3,h4,h5,h6,h7,h8⟩:=he.mnz g e hm n hn.1 hn.2 w
      have hi:μ nx=none:=hfr nx (Nat.le_refl _) (Nat.lt_succ_self _)
      have hFn:=ey hr hF hi
      refine⟨_,w',h4,bA μ nx ⟨w.heap.size,0,cap,1⟩,?_,?_,?_,bn hi,?_,⟨h6,h7,h8,by rw[h5]; simp,fun k hk=>by rw[h5,Array.getElem?_push,if_neg (by omega)]⟩⟩
      ·have:=VR.slice (μ:=bA μ nx ⟨w.heap.size,0,cap,1⟩) (i:=nx) (o:=0) (n:=n.toNat) (z:=1) (c':=cap) (aM _ _ _) h1 (.inr ⟨rfl,by simp⟩)
       simpa using this
      ·show HR _ _ (bd (H.set nx _) F) _
       rw[cL nx _ hFn,h5]
       have:=BR.newRow (B:=B) (μ:=bA μ nx ⟨w.heap.size,0,cc.size,1⟩) (i:=nx) (cs:=List.replicate n.toNat (.chan (some 0))) (cc:=cc) (e:=e) (z:=1) (fz:=(0,0)) w.heap hB (by simp; omega)
       refine hr.new hi (.cells cc e) rfl ?_
       refine⟨cc,(0,0),e,by simp,h2,rfl,by simp; omega,fun k x hx=>?_,fun _=>⟨hB,fun o ho=>by simp⟩,fun hz=>by simp at hz,fun _=>rfl⟩
       have hkn:k<n.toNat:=by have:=(List.getElem?_eq_some_iff.1 hx).1; simpa using this
       have hx':x= .chan (some 0):=by rw[List.getElem?_replicate,if_pos hkn] at hx; exact(Option.some.inj hx).symm
       subst hx'
       have hkc:k<cc.size:=by omega
       have hone:=h3 (cc[k]) (by simp)
       exact⟨cc[k],by simp[hkc],.some1 hone,hone⟩
      ·intro k hk
       show(H.set nx _).get k=none
       rw[Tr.get_set]
       split
       ·rename_i e1; subst e1; exact absurd hFn hk
       ·exact hF k hk
      ·intro k hk
       have:k≠nx:=by simp only at hk; omega
       simp[bA,this]
     ·cases h
    ·cases h
   ·obtain⟨hp,h⟩:=aH h
    obtain⟨v,hv,h⟩:=Option.map_eq_some_iff.1 h
    subst h
    have:=ha.plain hp
    subst this
    obtain⟨h1,h2⟩:=he.ext g args v hv
    exact⟨v,w,h2 w,μ,.plain h1,hr,hF,aX.refl _,fun _ _=>rfl,Below.refl _ _⟩
  ·rw[cond_true] at h
   split at h
   ·rename_i x
    obtain rfl:=Option.some.inj h
    obtain⟨hl,hk⟩:=ha
    obtain⟨x',rfl⟩: ∃x,args'= #[x]:=by
     obtain⟨l⟩:=args'
     match l,hl with
     | [x],_=>exact⟨x,rfl⟩
    exact⟨x',w,he.same g hs x' w,μ,hk 0 _ _ rfl rfl,hr,hF,aX.refl _,fun _ _=>rfl,Below.refl _ _⟩
   ·cases h
theorem oi (he:cM E) (hcall:bV E call) {o:Oper} {a:Act} (h:bj o.op E call ρ H nx=some r) {μ:Mu} {B:Nat} {F:Nat→Option Blk} {w:World}
  (hwf:Wf H nx) (hρ: ∀x,VR μ (ρ x) (a.eval x)) (hr:HR μ B (bd H F) w.heap) (hF: ∀i,F i≠none→H.get i=none) (hfr: ∀i,nx≤i→i<r.2.2.1→μ i=none) (hgl:gz E.NG μ) (hB:B≤w.heap.size)
  {next:Act→World→Prop} {Q:Exit→Act→World→Prop} (hn: ∀v' w',fV r μ B F w nx v' w'→next (a.put o.dst v') w'):o.wp E.P a w next Q:=by
 obtain⟨dst,op,type,pos,after,guard⟩:=o
 simp only at h
 cases op with
 | call c =>
  obtain⟨callee,args,ats⟩:=c
  have hA:dk μ (args.toList.map ρ) (args.map a.eval):=⟨by simp,fun k x y p q=>jl args hρ k x y (by simpa using p) q⟩
  cases callee with
  | invoke _ _=>cases h
  | value f =>
   have h':fI E call (args.toList.map ρ) H nx (asF (ρ f))=some r:=h
   unfold fI at h'
   split at h'
   case h_2=>cases h'
   rename_i g first captured hf
   unfold ka at h'
   split at h'
   case h_2=>cases h'
   rename_i fn hg
   have hfv:=hρ f
   rw[nF hf] at hfv
   obtain⟨c,d,e1,e2,e3,e4,e5⟩:=hfv.funcI
   have hA2:dk μ (first.toList++(args.toList.map ρ++captured.toList)) ((c++args.map a.eval)++d):=by
    rw[← List.append_assoc]
    exact(dk.append ⟨by simpa using e2,fun k x y p q=>e3 k x y (by simpa using p) q⟩ hA).append ⟨by simpa using e4,fun k x y p q=>e5 k x y (by simpa using p) q⟩
   have hexec:(execOp a.eval ⟨dst,.call ⟨.value f,args,ats⟩,type,pos,after,guard⟩)=callFunc g ((c++args.map a.eval)++d):=by
    show(do let d ← Deferred.ofValue (a.eval f) (args.map a.eval); invoke d.target d.args)=_
    rw[e1]
    rfl
   rcases mS he hcall hg h' hwf hA2 hr hF hfr hgl hB with⟨v',w',h1,h2⟩ | ⟨h1,h2⟩
   ·exact eA (by rw[hexec]; exact h1) (hn v' w' h2)
   ·unfold Oper.wp
    rw[hexec,h1]
    refine Calls.mono h2 fun e w' hR=>?_
    obtain⟨v',rfl,hC⟩:=hR
    exact hn v' w' hC
  | builtin b =>
   cases b with
   | append =>
    have h':bL E.P ats (args.toList.map ρ) H nx=some r:=h
    obtain⟨⟨v',w',μ',h1,h2⟩,_,_⟩:=mQ (ty:=type) h' hA.1 hA.2 hr hF hfr hB
    refine eA (v:=v') (w':=w') ?_ (hn v' w' ⟨μ',h2⟩)
    have hexec:execOp a.eval ⟨dst,.call ⟨.builtin .append,args,ats⟩,type,pos,after,guard⟩=(do pure (.value (← Builtin.append_ ats type (args.map a.eval)))):=rfl
    rw[hexec]
    simp only[Sem.run_bind,h1,Result.andThen_ok,Sem.run_pure]
   | copy =>
    have h':iI E.P ats (args.toList.map ρ) H nx=some r:=h
    obtain⟨⟨v',w',μ',h1,h2⟩,_,_⟩:=copy_ok (ty:=type) h' hA.1 hA.2 hr hF
    refine eA (v:=v') (w':=w') ?_ (hn v' w' ⟨μ',h2⟩)
    have hexec:execOp a.eval ⟨dst,.call ⟨.builtin .copy,args,ats⟩,type,pos,after,guard⟩=(do pure (.value (← Builtin.copy_ ats type (args.map a.eval)))):=rfl
    rw[hexec]
    simp only[Sem.run_bind,h1,Result.andThen_ok,Sem.run_pure]
   | _=>cases h
 | _=>cases h
end
end Go.Proofs.YtjcbhbncncbdjaaGreatDoorAi
namespace Go.Proofs.YtjcbhbncncbdjaaGreatDoorAi
open Go Go.RowKit
set_option linter.unusedVariables false
set_option linter.unusedSimpArgs false
set_option linter.unnecessarySimpa false
set_option linter.unusedSectionVars false
noncomputable def eB (NG:Nat) (f:Nat→Value):Operand→Value
 | .tmp t=>f t
 | .const v=>bif plain v then v else .map (some 0)
 | .global g=>bif Nat.blt g NG then .pointer (some ⟨g,0,none⟩) else .chan (some 0)
 | .func g=> .func (.func g) #[] #[]
theorem jw (NG:Nat) (fr:Fr):opv NG fr=eB NG (Fr.get fr):=by
 funext x
 cases x<;>rfl
theorem fw {args:Array Operand} {ρ ρ2:Operand→Value} (h: ∀x∈args,ρ x=ρ2 x):args.toList.map ρ=args.toList.map ρ2 :=
 List.map_congr_left fun x hx=>h x (Array.mem_toList_iff.1 hx)
theorem fK {ps:Array (Nat×Operand)} {ρ ρ2:Operand→Value} (h: ∀x∈(ps.toList.map (·.2)).toArray,ρ x=ρ2 x):(ps.toList.map fun p=>(p.1,ρ p.2))=ps.toList.map fun p=>(p.1,ρ2 p.2) :=
 List.map_congr_left fun p hp=>by rw[h p.2 (by simp only[List.mem_toArray,List.mem_map]; exact⟨p,hp,rfl⟩)]
theorem iP {o:Option Operand} {ρ ρ2:Operand→Value} (h: ∀x∈o.toArray,ρ x=ρ2 x):o.map ρ=o.map ρ2:=by
 cases o with
 | none=>rfl
 | some x=>simp only[Option.map_some]; rw[h x (by simp)]
theorem mT {op:Op} {ρ ρ2:Operand→Value} (h: ∀x∈op.operands,ρ x=ρ2 x) :
  aq op ρ=aq op ρ2∧(∀(P:Program) (nx:Nat) (ty:TypeId) (b:Option Blk),ai op P nx ty ρ b=ai op P nx ty ρ2 b) ∧
  ∀(E:Env) (call:am) (H:T) (nx:Nat),bj op E call ρ H nx=bj op E call ρ2 H nx:=by
 cases op with
 | move x=>have e:=h x (by simp[Op.operands]); exact⟨rfl,fun _ _ _ _=>by show some (ρ x,Eff.none)=some (ρ2 x,Eff.none); rw[e],fun _ _ _ _=>rfl⟩
 | assign x=>have e:=h x (by simp[Op.operands]); exact⟨rfl,fun _ _ _ _=>by show some (ρ x,Eff.none)=some (ρ2 x,Eff.none); rw[e],fun _ _ _ _=>rfl⟩
 | pick c x y =>
  have e1:=h c (by simp[Op.operands]); have e2:=h x (by simp[Op.operands]); have e3:=h y (by simp[Op.operands])
  exact⟨rfl,fun P nx ty b=>by show fG c x y P nx ty ρ b=fG c x y P nx ty ρ2 b; unfold fG; rw[e1,e2,e3],fun _ _ _ _=>rfl⟩
 | alloc t=>exact⟨rfl,fun _ _ _ _=>rfl,fun _ _ _ _=>rfl⟩
 | box t x=>have e:=h x (by simp[Op.operands]); exact⟨rfl,fun P nx ty b=>by show kS nx t (ρ x)=kS nx t (ρ2 x); rw[e],fun _ _ _ _=>rfl⟩
 | build t ps=>exact⟨rfl,fun P nx ty b=>by show ar (f6 P t (ps.toList.map fun p=>(p.1,ρ p.2)))=ar (f6 P t (ps.toList.map fun p=>(p.1,ρ2 p.2))); rw[fK h],fun _ _ _ _=>rfl⟩
 | buildSlice t n ps=>exact⟨rfl,fun P nx ty b=>by show bp P nx t n (ps.toList.map fun p=>(p.1,ρ p.2))=bp P nx t n (ps.toList.map fun p=>(p.1,ρ2 p.2)); rw[fK h],fun _ _ _ _=>rfl⟩
 | makeSlice t l c=>have e1:=h l (by simp[Op.operands]); have e2:=h c (by simp[Op.operands]); exact⟨rfl,fun P nx ty b=>by show cD P nx t (ρ l) (ρ c)=cD P nx t (ρ2 l) (ρ2 c); rw[e1,e2],fun _ _ _ _=>rfl⟩
 | load t a=>have e:=h a (by simp[Op.operands]); exact⟨by show bh (ρ a)=bh (ρ2 a); rw[e],fun P nx ty b=>by show dF P t b (asP (ρ a))=dF P t b (asP (ρ2 a)); rw[e],fun _ _ _ _=>rfl⟩
 | store t a x=>have e1:=h a (by simp[Op.operands]); have e2:=h x (by simp[Op.operands]); exact⟨by show bh (ρ a)=bh (ρ2 a); rw[e1],fun P nx ty b=>by show ek P t (ρ x) b (asP (ρ a))=ek P t (ρ2 x) b (asP (ρ2 a)); rw[e1,e2],fun _ _ _ _=>rfl⟩
 | nilCheck x=>have e:=h x (by simp[Op.operands]); exact⟨rfl,fun P nx ty b=>by show nL (ρ x)=nL (ρ2 x); rw[e],fun _ _ _ _=>rfl⟩
 | binOp op t x y u=>have e1:=h x (by simp[Op.operands]); have e2:=h y (by simp[Op.operands]); exact⟨rfl,fun P nx ty b=>by show ar (gb P op t x y (ρ x) (ρ y))=ar (gb P op t x y (ρ2 x) (ρ2 y)); rw[e1,e2],fun _ _ _ _=>rfl⟩
 | unOp op t x=>have e:=h x (by simp[Op.operands]); exact⟨rfl,fun P nx ty b=>by show ar (unV P op (ρ x))=ar (unV P op (ρ2 x)); rw[e],fun _ _ _ _=>rfl⟩
 | convert s d x=>have e:=h x (by simp[Op.operands]); exact⟨by show bh (ρ x)=bh (ρ2 x); rw[e],fun P nx ty b=>by show aZ P nx s d (ρ x) b=aZ P nx s d (ρ2 x) b; rw[e],fun _ _ _ _=>rfl⟩
 | makeInterface t x=>have e:=h x (by simp[Op.operands]); exact⟨rfl,fun P nx ty b=>by show jc P t (ρ x)=jc P t (ρ2 x); rw[e],fun _ _ _ _=>rfl⟩
 | makeFunc fn first captured =>
  have e1:first.toList.map ρ=first.toList.map ρ2:=fw fun x hx=>h x (by simp[Op.operands,hx])
  have e2:captured.toList.map ρ=captured.toList.map ρ2:=fw fun x hx=>h x (by simp[Op.operands,hx])
  exact⟨rfl,fun P nx ty b=>by show some (Value.func fn (first.toList.map ρ).toArray (captured.toList.map ρ).toArray,Eff.none)=some (Value.func fn (first.toList.map ρ2).toArray (captured.toList.map ρ2).toArray,Eff.none); rw[e1,e2],fun _ _ _ _=>rfl⟩
 | slice t x lo hi mx =>
  have e1:=h x (by simp[Op.operands])
  have e2:lo.map ρ=lo.map ρ2:=iP fun y hy=>h y (by simp only[Op.operands,Array.mem_append]; exact .inl (.inl (.inr hy)))
  have e3:hi.map ρ=hi.map ρ2:=iP fun y hy=>h y (by simp only[Op.operands,Array.mem_append]; exact .inl (.inr hy))
  exact⟨rfl,fun P nx ty b=>by show fo t x lo hi mx P nx ty ρ b=fo t x lo hi mx P nx ty ρ2 b; unfold fo; rw[e1,e2,e3],fun _ _ _ _=>rfl⟩
 | fieldAddr s x f=>have e:=h x (by simp[Op.operands]); exact⟨rfl,fun P nx ty b=>by show br s x f P nx ty ρ b=br s x f P nx ty ρ2 b; unfold br; rw[e],fun _ _ _ _=>rfl⟩
 | field s x f=>have e:=h x (by simp[Op.operands]); exact⟨rfl,fun P nx ty b=>by show fp s x f P nx ty ρ b=fp s x f P nx ty ρ2 b; unfold fp; rw[e],fun _ _ _ _=>rfl⟩
 | indexAddr t x i=>have e1:=h x (by simp[Op.operands]); have e2:=h i (by simp[Op.operands]); exact⟨rfl,fun P nx ty b=>by show bs t x i P nx ty ρ b=bs t x i P nx ty ρ2 b; unfold bs; rw[e1,e2],fun _ _ _ _=>rfl⟩
 | index t x i=>have e1:=h x (by simp[Op.operands]); have e2:=h i (by simp[Op.operands]); exact⟨rfl,fun P nx ty b=>by show ar (ge P t (ρ x) (ρ i))=ar (ge P t (ρ2 x) (ρ2 i)); rw[e1,e2],fun _ _ _ _=>rfl⟩
 | range t x=>have e:=h x (by simp[Op.operands]); exact⟨rfl,fun P nx ty b=>by show fq P nx t (ρ x)=fq P nx t (ρ2 x); rw[e],fun _ _ _ _=>rfl⟩
 | next x s=>have e:=h x (by simp[Op.operands]); exact⟨by show bh (ρ x)=bh (ρ2 x); rw[e],fun P nx ty b=>by show fH x s P nx ty ρ b=fH x s P nx ty ρ2 b; unfold fH; rw[e],fun _ _ _ _=>rfl⟩
 | extract t i=>have e:=h t (by simp[Op.operands]); exact⟨rfl,fun P nx ty b=>by show ar (dG i (ρ t))=ar (dG i (ρ2 t)); rw[e],fun _ _ _ _=>rfl⟩
 | call c =>
  obtain⟨callee,args,ats⟩:=c
  have e1:args.toList.map ρ=args.toList.map ρ2:=fw fun x hx=>h x (by simp only[Op.operands,Call.operands,Array.mem_append]; exact .inr hx)
  cases callee with
  | value f =>
   have e2:=h f (by simp[Op.operands,Call.operands])
   exact⟨rfl,fun _ _ _ _=>rfl,fun E call H nx=>by show fI E call (args.toList.map ρ) H nx (asF (ρ f))=fI E call (args.toList.map ρ2) H nx (asF (ρ2 f)); rw[e1,e2]⟩
  | invoke r m=>exact⟨rfl,fun _ _ _ _=>rfl,fun _ _ _ _=>rfl⟩
  | builtin b =>
   refine⟨?_,fun P nx ty bl=>by show eJ b P ats ty (args.toList.map ρ) bl=eJ b P ats ty (args.toList.map ρ2) bl; rw[e1],fun E call H nx=>?_⟩
   ·show tgtC args ρ (.builtin b)=tgtC args ρ2 (.builtin b)
    unfold tgtC
    split
    ·cases hx:args[0]? with
     | none=>rfl
     | some x =>
      simp only[Option.bind_some]
      rw[h x (by simp only[Op.operands,Call.operands,Array.mem_append]; exact .inr (Array.mem_of_getElem? hx))]
    ·rfl
   ·show jf args ats b E call ρ H nx=jf args ats b E call ρ2 H nx
    unfold jf
    split<;>simp only[e1]
 | _=>exact⟨rfl,fun _ _ _ _=>rfl,fun _ _ _ _=>rfl⟩
theorem eU {op:Op} {ρ:Operand→Value} {P:Program} {nx:Nat} {ty:TypeId} {res:Value×Eff} (h:ai op P nx ty ρ none=some res):aq op ρ=none:=by
 have ptr: ∀v:Value,(∀a,asP v≠some (some a))→(∀a n c,ci v≠some (some a,n,c))→bh v=none:=by
  intro v h1 h2
  cases v with
  | pointer a=>cases a with | none=>rfl | some a=>exact absurd rfl (h1 a)
  | slice a n c=>cases a with | none=>rfl | some a=>exact absurd rfl (h2 a n c)
  | _=>rfl
 cases op with
 | load t a =>
  have h':dF P t none (asP (ρ a))=some res:=h
  unfold dF at h'
  split at h'<;>cases h'
 | store t a x =>
  have h':ek P t (ρ x) none (asP (ρ a))=some res:=h
  unfold ek at h'
  split at h'<;>cases h'
 | next x s =>
  have h':fH x s P nx ty ρ none=some res:=h
  unfold fH j5 at h'
  obtain⟨_,h'⟩:=aH h'
  split at h'
  ·rename_i e; cases e
  ·cases h'
 | convert s d x =>
  have h':aZ P nx s d (ρ x) none=some res:=h
  show bh (ρ x)=none
  refine ptr _ (fun a ha=>?_) (fun a n c ha=>?_)
  ·have e:ρ x= .pointer (some a):=bb ha
   rw[e] at h'
   replace h':=fJ (x:= .pointer (some a)) rfl h'
   unfold cx at h'
   simp only[asI,asS,ci,asP] at h'
   unfold cvP at h'
   split at h'
   ·rename_i e; cases e
   ·rename_i e; cases e
   ·rename_i e; cases e
   ·rename_i e; cases e
   ·cases h'
  ·have e:ρ x= .slice (some a) n c:=bx ha
   rw[e] at h'
   replace h':=fJ (x:= .slice (some a) n c) rfl h'
   unfold cx at h'
   simp only[asI,asS,ci,asP] at h'
   unfold cvSl at h'
   split at h'
   ·obtain⟨_,h'⟩:=aH h'
    cases h'
   ·cases h'
 | call c =>
  obtain⟨callee,args,ats⟩:=c
  cases callee with
  | builtin b =>
   cases b with
   | unsafeString =>
    have h':bUs P ats ty (args.toList.map ρ) none=some res:=h
    show((args[0]?).bind fun x=>bh (ρ x))=none
    unfold bUs at h'
    split at h'
    case h_2=>cases h'
    rename_i x y e
    cases hx:args[0]? with
    | none=>rfl
    | some z =>
     simp only[Option.bind_some]
     have:ρ z=x:=by
      have h0:(args.toList.map ρ)[0]? = some (ρ z):=by simp[hx]
      rw[e] at h0
      simpa using h0.symm
     rw[this]
     unfold nI at h'
     split at h'
     ·rename_i e1 _
      exact ptr _ (fun a ha=>by rw[e1] at ha; cases ha) (fun a n c ha=>by rw[bx ha] at e1; cases e1)
     ·unfold usP at h'
      split at h'<;>first | cases h' | (rename_i e _; cases e)
     ·cases h'
   | _=>rfl
  | _=>rfl
 | _=>rfl
def jn (h F:Nat→Option Blk):Nat→Option Blk:=fun i=>match h i with | some b=>some b | none=>F i
theorem oj (h F:Nat→Option Blk) (i:Nat) (b:Blk):jn (upd h i (some b)) F=upd (jn h F) i (some b):=by
 funext j
 unfold jn upd
 by_cases hj:j=i
 ·simp[hj]
 ·simp[hj]
structure Cx where
 E:Env
 B:Nat
 F:Nat→Option Blk
 w0:World
 μ0:Mu
 nx0:Nat
 NX:Nat
 N:Nat
structure dw (X:Cx) (f:Nat→Value) (h:Nat→Option Blk) (free:Nat→Prop) (μ:Mu) (a:Act) (w:World):Prop where
 defers:a.defers= []
 size:a.tmps.size=X.N
 tmps: ∀t,VR μ (f t) (a.tmps.getD t undef)
 heap:HR μ X.B (jn h X.F) w.heap
 dis: ∀i,X.F i≠none→h i=none
 fresh: ∀i,free i→μ i=none
 glob:gz X.E.NG μ
 below:Below X.B X.w0 w
 le:aX X.μ0 μ
 out: ∀i,i<X.nx0∨X.NX≤i→μ i=X.μ0 i
def d6 (f:Nat→Value) (d:Option Tmp) (v:Value):Nat→Value:=fun t=>if d=some t then v else f t
theorem gE {N:Nat} {μ μ':Mu} {f:Nat→Value} {a:Act} {d:Option Tmp} {v v':Value} (hd: ∀t,d=some t→t<N) (hs:a.tmps.size=N) (h: ∀t,VR μ (f t) (a.tmps.getD t undef)) (hm:aX μ μ') (hv:VR μ' v v') :
  (a.put d v').tmps.size=N∧(a.put d v').defers=a.defers∧ ∀t,VR μ' (d6 f d v t) ((a.put d v').tmps.getD t undef):=by
 cases d with
 | none=>exact⟨hs,rfl,fun t=>by simp only[d6,reduceCtorEq,if_false]; exact(h t).mono hm⟩
 | some d =>
  have hdN:=hd d rfl
  refine⟨by simp[Act.put,hs],rfl,fun t=>?_⟩
  simp only[d6,Act.put,Option.some.injEq]
  by_cases htd:d=t
  ·subst htd
   rw[if_pos rfl]
   simpa[Array.getD,hs,hdN] using hv
  ·rw[if_neg htd]
   have:(a.tmps.setIfInBounds d v').getD t undef=a.tmps.getD t undef:=by
    simp only[Array.getD_eq_getD_getElem?]
    rw[Array.getElem?_setIfInBounds_ne htd]
   rw[this]
   exact(h t).mono hm
section
variable {X:Cx} {f:Nat→Value} {h:Nat→Option Blk} {free:Nat→Prop} {μ:Mu} {a:Act} {w:World} {o:Oper} {nx:Nat}
 {next:Act→World→Prop} {Q:Exit→Act→World→Prop}
theorem dw.rho (hR:dw X f h free μ a w) (x:Operand):VR μ (eB X.E.NG f x) (a.eval x):=by
 cases x with
 | tmp t=>exact hR.tmps t
 | const v =>
  simp only[eB,Act.eval]
  cases hp:plain v
  ·exact .any
  ·exact .plain hp
 | global g =>
  simp only[eB,Act.eval]
  cases hg:Nat.blt g X.E.NG
  ·exact .some1 rfl
  ·obtain⟨L,h1,h2,h3,_⟩:=hR.glob g (Nat.le_of_ble_eq_true hg)
   exact VR.ptr' h1 h2.symm (by omega)
 | func g=>exact .plain rfl
theorem op_at (hX:X.B≤X.w0.heap.size) (hd:dj X.N o=true) (hR:dw X f h free μ a w) (hc:aw o.op=false) {v:Value} {eff:Eff} {b:Option Blk} (hv:ai o.op X.E.P nx o.type (eB X.E.NG f) b=some (v,eff))
  (hb: ∀i,aq o.op (eB X.E.NG f)=some i→b=h i) (hnew: ∀b',eff= .new b'→free nx∧X.nx0≤nx∧nx<X.NX)
  (hn: ∀v' w' μ',dw X (d6 f o.dst v) (cI h nx (aq o.op (eB X.E.NG f)) eff) (fun i=>free i∧ ∀b',eff= .new b'→i≠nx) μ' (a.put o.dst v') w'→next (a.put o.dst v') w'):o.wp X.E.P a w next Q:=by
 obtain⟨dst,op,type,pos,after,guard⟩:=o
 simp only at hc hv hb hn
 have hsome: ∀i,aq op (eB X.E.NG f)=some i→ ∃bl,b=some bl∧h i=some bl:=by
  intro i hi
  cases hbb:b with
  | none=>rw[hbb] at hv; rw[eU hv] at hi; cases hi
  | some bl=>exact⟨bl,rfl,by rw[← hb i hi,hbb]⟩
 have hok:=aop_ok (dst:=dst) (pos:=pos) (after:=after) (guard:=guard) (ρ':=a.eval) (hh:=jn h X.F) hR.rho hR.heap (Nat.le_trans hX hR.below.size) op (fun b' e=>hR.fresh nx (hnew b' e).1) hc hv (fun i hi=>by
  obtain⟨bl,h1,h2⟩:=hsome i hi
  unfold jn
  rw[h1,h2])
 obtain⟨v',w',μ',hrun,hvr,hheap,hle,hout,hbelow⟩:=hok
 have hjn:cI (jn h X.F) nx (aq op (eB X.E.NG f)) eff=jn (cI h nx (aq op (eB X.E.NG f)) eff) X.F:=by
  cases eff with
  | none=>rfl
  | upd c =>
   cases ht:aq op (eB X.E.NG f) with
   | none=>rfl
   | some i=>simp only[cI]; rw[oj]
  | new c=>simp only[cI]; rw[oj]
 have key:dw X (d6 f dst v) (cI h nx (aq op (eB X.E.NG f)) eff) (fun i=>free i∧ ∀b',eff= .new b'→i≠nx) μ' (a.put dst v') w':=by
  obtain⟨t1,t2,t3⟩:=gE (d:=dst) (fun t e=>by subst e; exact Nat.le_of_ble_eq_true hd) hR.size hR.tmps hle hvr
  refine⟨by rw[t2]; exact hR.defers,t1,t3,by rw[← hjn]; exact hheap,?_,?_,hR.glob.mono hle,hR.below.trans hbelow,hR.le.trans hle,?_⟩
  ·intro i hi
   cases eff with
   | none=>exact hR.dis i hi
   | upd c =>
    cases ht:aq op (eB X.E.NG f) with
    | none=>simp only[cI]; exact hR.dis i hi
    | some j =>
     simp only[cI,upd]
     split
     ·rename_i e; subst e
      obtain⟨bl,_,h2⟩:=hsome _ ht
      have:=hR.dis _ hi
      rw[h2] at this; cases this
     ·exact hR.dis i hi
   | new c =>
    simp only[cI,upd]
    split
    ·rename_i e; subst e
     have h1:=hR.heap.none_of (hR.fresh _ (hnew c rfl).1)
     have h2:=hR.dis _ hi
     unfold jn at h1
     rw[h2] at h1
     exact absurd h1 hi
    ·exact hR.dis i hi
  ·intro i hi
   have:μ' i=μ i:=hout i (by
    cases eff with
    | none=>simp only[bS]; omega
    | upd c=>simp only[bS]; omega
    | new c=>have:=hi.2 c rfl; simp only[bS]; omega)
   rw[this]; exact hR.fresh i hi.1
  ·intro i hi
   have:μ' i=μ i:=hout i (by
    cases eff with
    | none=>simp only[bS]; omega
    | upd c=>simp only[bS]; omega
    | new c=>have:=hnew c rfl; simp only[bS]; omega)
   rw[this]; exact hR.out i hi
 unfold Oper.wp
 rcases hrun with hrun | ⟨hrun,rfl⟩
 ·rw[hrun]; exact hn v' w' μ' key
 ·rw[hrun]; exact hn undef w' μ' key
end
end Go.Proofs.YtjcbhbncncbdjaaGreatDoorAi
namespace Go.Proofs.YtjcbhbncncbdjaaGreatDoorAi
open Go Go.RowKit
set_option linter.unusedVariables false
set_option linter.unusedSimpArgs false
set_option linter.unnecessarySimpa false
set_option linter.unusedSectionVars false
theorem HR.sub {μ:Mu} {B:Nat} {h h':Nat→Option Blk} {hp:Array Obj} (hr:HR μ B h hp) (hs: ∀i b,h' i=some b→h i=some b):HR μ B h' hp :=
 ⟨fun i b e=>hr.blk i b (hs i b e),fun i j b c L M n e o f l m=>hr.apart i j b c L M n (hs i b e) o (hs j c f) l m⟩
noncomputable def kl (h:Nat→Option Blk) (r:R) (nx:Nat):Nat→Option Blk:=fun i=>if i∈r.2.2.2∨(nx≤i∧i<r.2.2.1) then r.2.1.get i else h i
section
variable {X:Cx} {f:Nat→Value} {h:Nat→Option Blk} {free:Nat→Prop} {μ:Mu} {a:Act} {w:World} {o:Oper} {nx:Nat} {call:am}
 {next:Act→World→Prop} {Q:Exit→Act→World→Prop}
theorem l9 (he:cM X.E) (hcall:bV X.E call) (habs:aj call) (hX:X.B≤X.w0.heap.size) (hd:dj X.N o=true) (hR:dw X f h free μ a w) {Hc:T} {r:R} (hv:bj o.op X.E call (eB X.E.NG f) Hc nx=some r)
  (hwf:Wf Hc nx) (hsub: ∀i b,Hc.get i=some b→h i=some b) (hfree: ∀i,nx≤i→i<r.2.2.1→free i) (h0:X.nx0≤nx) (hN:r.2.2.1≤X.NX)
  (hn: ∀v' w' μ',dw X (d6 f o.dst r.1) (kl h r nx) (fun i=>free i∧ ¬ (nx≤i∧i<r.2.2.1)) μ' (a.put o.dst v') w'→next (a.put o.dst v') w'):o.wp X.E.P a w next Q:=by
 have hrok:=dl he.overA habs hv
 let Fc:Nat→Option Blk:=fun i=>match Hc.get i with | some _=>none | none=>jn h X.F i
 have hjoin:bd Hc Fc=jn h X.F:=by
  funext i
  unfold bd
  cases e:Hc.get i with
  | some b=>simp only[jn,hsub i b e]
  | none=>simp only[Fc,e]
 have hFc: ∀i,Fc i≠none→Hc.get i=none:=by
  intro i hi
  cases e:Hc.get i with
  | none=>rfl
  | some b=>exact absurd (by simp only[Fc,e]) hi
 refine oi he hcall hv hwf hR.rho (by rw[hjoin]; exact hR.heap) hFc (fun i h1 h2=>hR.fresh i (hfree i h1 h2)) hR.glob (Nat.le_trans hX hR.below.size) fun v' w' hC=>?_
 obtain⟨μ',hvr,hheap,hdis,hle,hout,hbelow⟩:=hC
 refine hn v' w' μ' ?_
 have hHc: ∀i,X.F i≠none→Hc.get i=none:=by
  intro i hi
  cases e:Hc.get i with
  | none=>rfl
  | some b=>have:=hR.dis i hi; rw[hsub i b e] at this; cases this
 have hFF: ∀i,X.F i≠none→Fc i=X.F i:=by
  intro i hi
  simp only[Fc,hHc i hi,jn,hR.dis i hi]
 obtain⟨t1,t2,t3⟩:=gE (d:=o.dst) (fun t e=>by unfold dj at hd; rw[e] at hd; exact Nat.le_of_ble_eq_true hd) hR.size hR.tmps hle hvr
 refine⟨by rw[t2]; exact hR.defers,t1,t3,hheap.sub ?_,?_,?_,hR.glob.mono hle,hR.below.trans hbelow,hR.le.trans hle,?_⟩
 ·intro i b hb
  unfold jn kl at hb
  unfold bd
  by_cases ht:i∈r.2.2.2∨(nx≤i∧i<r.2.2.1)
  ·rw[if_pos ht] at hb
   cases e:r.2.1.get i with
   | some c=>rw[e] at hb; exact hb
   | none =>
    rw[e] at hb
    simp only at hb ⊢
    rw[hFF i (by rw[hb]; simp)]; exact hb
  ·rw[if_neg ht] at hb
   have hu:=hrok.unch hwf i (fun e=>ht (.inl e)) (by omega)
   rw[hu]
   cases e:Hc.get i with
   | some c=>rw[hsub i c e] at hb; exact hb
   | none=>simp only[Fc,e]; exact hb
 ·intro i hi
  unfold kl
  split
  ·exact hdis i (by rw[hFF i hi]; exact hi)
  ·exact hR.dis i hi
 ·intro i hi
  rw[hout i (by omega)]; exact hR.fresh i hi.1
 ·intro i hi
  rw[hout i (by omega)]; exact hR.out i hi
theorem dw.congr {f':Nat→Value} {h':Nat→Option Blk} {free':Nat→Prop} (hR:dw X f h free μ a w) (h1: ∀t,f' t=f t) (h2: ∀i,h' i=h i) (h3: ∀i,free' i→free i):dw X f' h' free' μ a w:=by
 have e1:f'=f:=funext h1
 have e2:h'=h:=funext h2
 subst e1
 subst e2
 exact⟨hR.defers,hR.size,hR.tmps,hR.heap,hR.dis,fun i hi=>hR.fresh i (h3 i hi),hR.glob,hR.below,hR.le,hR.out⟩
theorem dw.drawn (hR:dw X f h free μ a w):dw X f h free μ a { w with drawn:=w.drawn+1 } :=
 ⟨hR.defers,hR.size,hR.tmps,hR.heap,hR.dis,hR.fresh,hR.glob,⟨hR.below.os,hR.below.tape,hR.below.output,hR.below.size,hR.below.block⟩,hR.le,hR.out⟩
end
theorem km (l:List Nat): ∀(k:List Nat) (i:Nat),i∈ck l k↔i∈l∨i∈k:=by
 induction l with
 | nil=>intro k i; simp[ck]
 | cons j l ih =>
  intro k i
  unfold ck
  cases hc:(ck l k).contains j
  ·rw[cond_false,List.mem_cons,ih k i,List.mem_cons]; exact or_assoc.symm
  ·rw[cond_true,ih k i,List.mem_cons]
   have hj:j∈ck l k:=by simpa using hc
   constructor
   ·rintro(h | h)
    ·exact .inl (.inr h)
    ·exact .inr h
   ·rintro((rfl | h) | h)
    ·exact(ih k i).1 hj
    ·exact .inl h
    ·exact .inr h
theorem eC (fr:Fr) (d t:Nat) (v:Value):Fr.get (Fr.set fr d v) t=if d=t then v else Fr.get fr t:=by
 unfold Fr.get Fr.set
 rw[Tr.get_set]
 by_cases h:t=d
 ·subst h; simp[getV]
 ·rw[if_neg h,if_neg (fun e=>h e.symm)]
theorem cN (fr:Fr) (d:Option Tmp) (v:Value) (t:Nat):Fr.get (bz fr d v) t=d6 (Fr.get fr) d v t:=by
 cases d with
 | none=>simp[bz,d6]
 | some d=>simp only[bz,d6,Option.some.injEq]; exact eC fr d t v
theorem dL (H:T) (nx:Nat) (id:Option Nat) (eff:Eff) (i:Nat):(kY H nx id eff).get i=cI H.get nx id eff i:=by
 cases eff with
 | none=>rfl
 | upd b=>cases id with
  | none=>rfl
  | some j=>simp only[kY,cI,upd]; rw[Tr.get_set]
 | new b=>simp only[kY,cI,upd]; rw[Tr.get_set]
structure LeS (s s':St):Prop where
 le:s.nx≤s'.nx
 wf:Wf s.H s.nx→Wf s'.H s'.nx
 sub: ∀i,i∈s.ms→i∈s'.ms
 unch:Wf s.H s.nx→ ∀i,i∉s'.ms→i<s.nx→s'.H.get i=s.H.get i
theorem LeS.refl (s:St):LeS s s:=⟨Nat.le_refl _,fun h=>h,fun _ h=>h,fun _ _ _ _=>rfl⟩
theorem LeS.trans {s t u:St} (h:LeS s t) (k:LeS t u):LeS s u :=
 ⟨Nat.le_trans h.le k.le,fun e=>k.wf (h.wf e),fun i e=>k.sub i (h.sub i e),fun e i hi hlt=>by
  rw[k.unch (h.wf e) i hi (Nat.lt_of_lt_of_le hlt h.le),h.unch e i (fun e=>hi (k.sub i e)) hlt]⟩
structure gG (o:Oper) (s s':St) (r:Rec):Prop where
 lo:r.lo=s.nx
 hi:r.hi=s'.nx
 le:s.nx≤s'.nx
 fr: ∀t,o.dst≠some t→Fr.get s'.fr t=Fr.get s.fr t
 H:Wf s.H s.nx→ ∀i,r.has i=false→s'.H.get i=s.H.get i
 wf:Wf s.H s.nx→Wf s'.H s'.nx
 ms: ∀i,i∈s'.ms↔i∈r.ms∨i∈s.ms
theorem Rec.has_false {r:Rec} {i:Nat} (h:r.has i=false):i∉r.ms∧ ¬ (r.lo≤i∧i<r.hi):=by
 unfold Rec.has at h
 rw[Bool.or_eq_false_iff] at h
 refine⟨by simpa using h.1,fun e=>?_⟩
 have h2:=h.2
 rw[Bool.and_eq_false_iff] at h2
 rcases h2 with h2 | h2
 ·rw[Nat.ble_eq_true_of_le e.1] at h2; cases h2
 ·have:Nat.blt i r.hi=true:=Nat.ble_eq_true_of_le e.2
  rw[this] at h2; cases h2
theorem Rec.has_true {r:Rec} {i:Nat} (h:r.has i=true):i∈r.ms∨(r.lo≤i∧i<r.hi):=by
 unfold Rec.has at h
 rw[Bool.or_eq_true,Bool.and_eq_true] at h
 rcases h with h | ⟨h1,h2⟩
 ·exact .inl (by simpa using h)
 ·exact .inr ⟨Nat.le_of_ble_eq_true h1,Nat.le_of_ble_eq_true h2⟩
theorem gG.leS {o:Oper} {s s':St} {r:Rec} (h:gG o s s' r):LeS s s' :=
 ⟨h.le,h.wf,fun i e=>(h.ms i).2 (.inr e),fun e i hi hlt=>h.H e i (by
  cases hh:r.has i with
  | false=>rfl
  | true =>
   rcases Rec.has_true hh with k | k
   ·exact absurd ((h.ms i).2 (.inl k)) hi
   ·rw[h.lo] at k; omega)⟩
theorem jx {fr:Fr} {d:Option Tmp} {v:Value} {t:Nat} (h:d≠some t):Fr.get (bz fr d v) t=Fr.get fr t:=by rw[cN,d6,if_neg h]
theorem dM (H:T) (l:List Nat) (i:Nat):(hide H l).get i=if i∈l then none else H.get i:=by
 induction l with
 | nil=>simp[hide]
 | cons j l ih =>
  simp only[hide]
  rw[Tr.get_set,ih]
  by_cases h:i=j
  ·simp[h]
  ·simp[h]
theorem dZ (H0 H:T) (l:List Nat) (i:Nat):(bring H0 H l).get i=if i∈l then H0.get i else H.get i:=by
 induction l with
 | nil=>simp[bring]
 | cons j l ih =>
  simp only[bring]
  rw[Tr.get_set,ih]
  by_cases h:i=j
  ·simp[h]
  ·simp[h]
section
variable {E:Env} {call:am} {o:Oper} {s s':St} {lst:List Rec} {r:Rec}
theorem ol (hoa:aj E.over) (habs:aj call) {ρ:Operand→Value} (h:ep o lst E s (bj o.op E call ρ (hide s.H (aL lst)) s.nx)=some (s',r)):gG o s s' r:=by
 cases hv:bj o.op E call ρ (hide s.H (aL lst)) s.nx with
 | none=>rw[hv] at h; cases h
 | some q =>
  obtain⟨v,H',nx',ms'⟩:=q
  have hrok:=dl hoa habs hv
  rw[hv] at h
  unfold ep at h
  obtain⟨_,h⟩:=aH h
  simp only[Option.some.injEq,Prod.mk.injEq] at h
  obtain⟨rfl,rfl⟩:=h
  have hwf':Wf s.H s.nx→Wf (hide s.H (aL lst)) s.nx:=fun hw i hi=>by
   rw[dM]; split
   ·rfl
   ·exact hw i hi
  refine⟨rfl,rfl,hrok.le,fun t ht=>jx ht,fun hw i hi=>?_,fun hw i hi=>?_,fun i=>km _ _ _⟩
  ·obtain⟨h1,h2⟩:=Rec.has_false hi
   simp only at h1 h2 ⊢
   rw[dZ]
   split
   ·rfl
   ·rename_i hm
    have hu:H'.get i=(hide s.H (aL lst)).get i:=hrok.unch (hwf' hw) i h1 (by show i<s.nx∨nx'≤i; omega)
    rw[hu,dM,if_neg hm]
  ·simp only at hi ⊢
   rw[dZ]
   split
   ·have h3:s.nx≤nx':=hrok.le
    exact hw i (by omega)
   ·exact hrok.wf (hwf' hw) i hi
theorem om {ρ:Operand→Value} {b:Option Blk} (hb:b=none→ ∀v eff,ai o.op E.P s.nx o.type ρ b=some (v,eff)→aq o.op ρ=none) (hbs: ∀i bl,aq o.op ρ=some i→b=some bl→s.H.get i=some bl)
  (h:dv o lst E s ρ (aq o.op ρ) (ai o.op E.P s.nx o.type ρ b)=some (s',r)):gG o s s' r:=by
 cases hv:ai o.op E.P s.nx o.type ρ b with
 | none=>rw[hv] at h; cases h
 | some q =>
  obtain⟨v,eff⟩:=q
  rw[hv] at h
  unfold dv at h
  obtain⟨_,h⟩:=aH h
  simp only[Option.some.injEq,Prod.mk.injEq] at h
  obtain⟨rfl,rfl⟩:=h
  have htb: ∀i,aq o.op ρ=some i→ ∃bl,s.H.get i=some bl:=by
   intro i hi
   cases e:b with
   | none=>rw[hb e v eff hv] at hi; cases hi
   | some bl=>exact⟨bl,hbs i bl hi e⟩
  have hleN:s.nx≤bS s.nx eff:=by cases eff<;>simp[bS]
  refine⟨rfl,rfl,hleN,fun t ht=>jx ht,fun hw i hi=>?_,fun hw i hi=>?_,fun i=>km _ _ _⟩
  ·obtain⟨h1,h2⟩:=Rec.has_false hi
   simp only at h1 h2 ⊢
   rw[dL]
   cases eff with
   | none=>rfl
   | upd c =>
    cases ht:aq o.op ρ with
    | none=>rfl
    | some j =>
     rw[ht] at h1
     simp only[bT,Option.toList,List.mem_singleton] at h1
     simp only[cI,upd]
     rw[if_neg h1]
   | new c =>
    simp only[bS] at h2
    simp only[cI,upd]
    rw[if_neg (by omega)]
  ·simp only at hi ⊢
   rw[dL]
   cases eff with
   | none=>exact hw i hi
   | upd c =>
    cases ht:aq o.op ρ with
    | none=>exact hw i hi
    | some j =>
     simp only[cI,upd]
     obtain⟨bl,hbl⟩:=htb j ht
     split
     ·rename_i e; subst e
      simp only[bS] at hi
      rw[hw i hi] at hbl; cases hbl
     ·exact hw i hi
   | new c =>
    simp only[bS] at hi
    simp only[cI,upd]
    rw[if_neg (by omega)]
    exact hw i (by omega)
theorem gI (hoa:aj E.over) (habs:aj call) (h:bN E call o s lst=some (s',r)):gG o s s' r:=by
 unfold bN at h
 cases hc:aw o.op<;>rw[hc] at h
 ·rw[cond_false] at h
  unfold et at h
  refine om (fun e v eff hv=>?_) (fun i bl ht e=>?_) h
  ·rw[e] at hv; exact eU hv
  ·rw[ht] at e; exact e
 ·rw[cond_true] at h
  unfold eq at h
  obtain⟨_,h⟩:=aH h
  exact ol hoa habs h
theorem stepD_F (hoa:aj E.over) (habs:aj call) {b:Option Bool} (h:di E call o s lst b=some (s',r)):gG o s s' r:=by
 unfold di at h
 split at h
 ·cases h
 ·simp only[Option.some.injEq,Prod.mk.injEq] at h
  obtain⟨rfl,rfl⟩:=h
  exact⟨rfl,rfl,Nat.le_refl _,fun t ht=>jx ht,fun _ _ _=>rfl,fun h=>h,fun i=>by simp⟩
 ·exact gI hoa habs h
theorem ma (h:bm E call o s=some s'): ∃r,bN E call o s []=some (s',r):=by
 unfold bm at h
 unfold bN
 cases hc:aw o.op<;>rw[hc] at h
 ·rw[cond_false] at h ⊢
  unfold du dt iJ at h
  unfold et dv
  split at h
  ·rename_i v eff e
   first | rw[e] | skip
   obtain rfl:=Option.some.inj h
   exact⟨_,rfl⟩
  ·cases h
 ·rw[cond_true] at h ⊢
  unfold jg lW at h
  unfold eq ep
  simp only[List.all_nil,cond_true,aL,hide]
  split at h
  ·rename_i v H nx ms e
   first | rw[e] | skip
   obtain rfl:=Option.some.inj h
   exact⟨_,rfl⟩
  ·cases h
end
end Go.Proofs.YtjcbhbncncbdjaaGreatDoorAi
namespace Go.Proofs.YtjcbhbncncbdjaaGreatDoorAi
open Go Go.RowKit
set_option linter.unusedVariables false
set_option linter.unusedSimpArgs false
set_option linter.unnecessarySimpa false
set_option linter.unusedSectionVars false
def gJ (X:Cx) (s:St) (a:Act) (w:World):Prop:= ∃μ,dw X (Fr.get s.fr) s.H.get (fun i=>s.nx≤i∧i<X.NX) μ a w
theorem gK (b:Bool):undef≠Value.bool b:=by intro h; cases h
section
variable {X:Cx} {a:Act} {w:World} {o:Oper} {s s':St} {call:am} {ops:Array Oper}
 {next:Act→World→Prop} {Q:Exit→Act→World→Prop}
theorem dm {f:Nat→Value} {h:Nat→Option Blk} {free:Nat→Prop} {μ:Mu} {fr:Fr} {b:Bool} (hR:dw X f h free μ a w) (hb:ae ops fr o=some b)
  (hf: ∀(j:Nat) (want:Bool) (d:Tmp),o.guard=some (j,want)→(ops[j]?).bind (·.dst)=some d→f d=Fr.get fr d):Region.wanted o (yielded ops a.tmps)=b:=by
 unfold ae at hb
 unfold Region.wanted
 split at hb
 ·rename_i hg; rw[hg]; exact Option.some.inj hb
 ·rename_i j want hg
  rw[hg]
  simp only
  unfold iK at hb
  unfold yielded
  cases hd:(ops[j]?).bind (·.dst) with
  | none =>
   rw[hd] at hb
   obtain rfl:=Option.some.inj hb
   rfl
  | some d =>
   rw[hd] at hb
   simp only at hb
   have hv:=hR.tmps d
   rw[hf j want d hg hd] at hv
   simp only[Option.bind_some]
   unfold lX at hb
   split at hb
   ·rename_i c e
    rw[i9 e] at hv
    have:=hv.bool
    have h2:a.tmps[d]? = some (.bool c):=by
     rw[Array.getD_eq_getD_getElem?] at this
     cases h3:a.tmps[d]? with
     | none=>rw[h3] at this; exact absurd this (gK c)
     | some v=>rw[h3] at this; simp only[Option.getD_some] at this; rw[this]
    rw[h2]
    obtain rfl:=Option.some.inj hb
    simp
   ·rename_i vs e e1
    rw[nE e] at hv
    obtain⟨ys,h1,_⟩:=hv.tupleI
    obtain rfl:=Option.some.inj hb
    rw[Array.getD_eq_getD_getElem?] at h1
    cases h3:a.tmps[d]? with
    | none=>rfl
    | some v=>rw[h3] at h1; simp only[Option.getD_some] at h1; rw[h1]; rfl
   ·cases hb
theorem oo (he:cM X.E) (hcall:bV X.E call) (habs:aj call) (hX:X.B≤X.w0.heap.size) (hd:dj X.N o=true) (hwf:Wf s.H s.nx) (h0:X.nx0≤s.nx) (h:bm X.E call o s=some s') (hN:s'.nx≤X.NX)
  (hR:gJ X s a w) (hn: ∀a' w',gJ X s' a' w'→next a' w'):o.wp X.E.P a w next Q:=by
 obtain⟨μ,hR⟩:=hR
 unfold bm at h
 cases hc:aw o.op<;>rw[hc] at h
 ·rw[cond_false] at h
  unfold du dt iJ at h
  rw[jw] at h
  split at h
  case h_2=>cases h
  rename_i v eff hv
  obtain rfl:=Option.some.inj h
  simp only at hN
  refine op_at hX hd hR hc hv (fun i hi=>by rw[hi]; rfl) (fun b' e=>?_) fun v' w' μ' hR'=>hn _ _ ⟨μ',hR'.congr (fun t=>cN _ _ _ t) (fun i=>dL _ _ _ _ i) fun i hi=>?_⟩
  ·subst e
   simp only[bS] at hN
   exact⟨⟨Nat.le_refl _,by omega⟩,h0,by omega⟩
  ·simp only at hi
   refine⟨⟨?_,hi.2⟩,fun b' e=>?_⟩
   ·have:=hi.1
    cases eff<;>simp only[bS] at this<;>omega
   ·subst e; have:=hi.1; simp only[bS] at this; omega
 ·rw[cond_true] at h
  unfold jg lW at h
  rw[jw] at h
  split at h
  case h_2=>cases h
  rename_i v H nx ms hv
  have hrok:=dl he.overA habs hv
  obtain rfl:=Option.some.inj h
  simp only at hN
  refine l9 he hcall habs hX hd hR hv hwf (fun i b e=>e) (fun i h1 h2=>⟨h1,Nat.lt_of_lt_of_le h2 hN⟩) h0 hN fun v' w' μ' hR'=>hn _ _ ⟨μ',hR'.congr (fun t=>cN _ _ _ t) (fun i=>?_) fun i hi=>?_⟩
  ·unfold kl
   split
   ·rfl
   ·rename_i ht
    exact hrok.unch hwf i (fun e=>ht (.inl e)) (by show i<s.nx∨nx≤i; simp only at ht; omega)
  ·simp only at hi ⊢
   have hle:s.nx≤nx:=hrok.le
   refine⟨⟨by omega,hi.2⟩,by omega⟩
theorem mb {f:Nat→Value} {h:Nat→Option Blk} {free:Nat→Prop} {μ:Mu} (hd:dj X.N o=true) (hR:dw X f h free μ a w):dw X (d6 f o.dst undef) h free μ (a.put o.dst undef) w:=by
 obtain⟨t1,t2,t3⟩:=gE (d:=o.dst) (fun t e=>by unfold dj at hd; rw[e] at hd; exact Nat.le_of_ble_eq_true hd) hR.size hR.tmps (aX.refl μ) (VR.plain (v:=undef) rfl)
 exact⟨by rw[t2]; exact hR.defers,t1,t3,hR.heap,hR.dis,hR.fresh,hR.glob,hR.below,hR.le,hR.out⟩
theorem bg (l:List Oper) (E:Env):cG (o::l) ops E call s=eK (cG l) o ops E call s (ae ops s.fr o):=rfl
theorem mc {E:Env} (hoa:aj E.over) (habs:aj call): ∀(l:List Oper) (s:St),cG l ops E call s=some s'→LeS s s':=by
 intro l
 induction l with
 | nil=>intro s h; obtain rfl:=Option.some.inj (show some s=some s' from h); exact LeS.refl _
 | cons o l ih =>
  intro s h
  rw[bg] at h
  unfold eK at h
  split at h
  ·unfold cg at h
   split at h
   ·rename_i s1 e
    obtain⟨r,hr⟩:=ma e
    exact(gI hoa habs hr).leS.trans (ih _ h)
   ·cases h
  ·exact LeS.trans (t:={ s with fr:=bz s.fr o.dst undef }) ⟨Nat.le_refl _,fun h=>h,fun _ h=>h,fun _ _ _ _=>rfl⟩ (ih _ h)
  ·cases h
theorem seqO_ok (he:cM X.E) (hcall:bV X.E call) (habs:aj call) (hX:X.B≤X.w0.heap.size) (hops:ops.toList.all (dj X.N)=true) (hN:s'.nx≤X.NX) (hQ: ∀a' w',gJ X s' a' w'→Q .normal a' w') :
  ∀(l:List Oper) (k:Nat) (s:St) (a:Act) (w:World),(∀j,l[j]? = ops[k+j]?)→Wf s.H s.nx→X.nx0≤s.nx→cG l ops X.E call s=some s'→gJ X s a w→wpOps X.E.P ops Q (List.range' k l.length) a w:=by
 intro l
 induction l with
 | nil=>intro k s a w _ _ _ h hR; obtain rfl:=Option.some.inj (show some s=some s' from h); exact hQ a w hR
 | cons o l ih =>
  intro k s a w hl hwf h0 h hR
  have ho:ops[k]? = some o:=by have:=hl 0; simpa using this.symm
  have hd:dj X.N o=true:=by
   rw[List.all_eq_true] at hops
   exact hops o (Array.mem_toList_iff.2 (Array.mem_of_getElem? ho))
  have hl': ∀j,l[j]? = ops[k+1+j]? := fun j=>by have:=hl (j+1); rw[List.getElem?_cons_succ] at this; rw[this]; congr 1; omega
  rw[bg] at h
  rw[List.length_cons,List.range'_succ]
  simp only[wpOps,ho]
  unfold eK at h
  split at h
  ·rename_i hw
   obtain⟨μ,hR1⟩:=hR
   have hwant:=dm (ops:=ops) hR1 hw (fun _ _ _ _ _=>rfl)
   rw[if_pos hwant]
   unfold cg at h
   split at h
   case h_2=>cases h
   rename_i s1 e
   obtain⟨r,hr⟩:=ma e
   have hF:=gI he.overA habs hr
   exact .inl (oo he hcall habs hX hd hwf h0 e (Nat.le_trans (mc he.overA habs l _ h).le hN) ⟨μ,hR1⟩ fun a' w' hR'=>ih (k+1) s1 a' w' hl' (hF.wf hwf) (Nat.le_trans h0 hF.le) h hR')
  ·rename_i hw
   obtain⟨μ,hR1⟩:=hR
   have hwant:=dm (ops:=ops) hR1 hw (fun _ _ _ _ _=>rfl)
   rw[if_neg (by rw[hwant]; simp)]
   exact ih (k+1) { s with fr:=bz s.fr o.dst undef } _ w hl' hwf h0 h ⟨μ,(mb hd hR1).congr (fun t=>cN _ _ _ t) (fun _=>rfl) fun _ hi=>hi⟩
  ·cases h
end
end Go.Proofs.YtjcbhbncncbdjaaGreatDoorAi
