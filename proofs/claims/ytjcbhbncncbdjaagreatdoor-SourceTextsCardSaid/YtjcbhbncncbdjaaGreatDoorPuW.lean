/-
PuT0, PuT1, PuT2, PuT3, PuT4, PuT5, PuT6, PuT7, PuT8, PuT9, PuT11, PuT13, PuT14, PuT15, PuT16, PuT17, PuT18, PuT19
-/
import Derived.Test.YtjcbhbncncbdjaaGreatDoorApX1c
import Derived.Test.YtjcbhbncncbdjaaGreatDoorApL
namespace Go.Proofs.YtjcbhbncncbdjaaGreatDoorAi
open Go Go.RowKit
set_option linter.unusedVariables false
set_option linter.unusedSimpArgs false
theorem co {x:Int} (h1: -9223372036854775808≤x) (h2:x≤9223372036854775807):w64 x=x:=by
 unfold w64
 simp[IntKind.wrap,IntKind.bits,IntKind.signed]; omega
theorem up1 {n:Nat} (h:n<9000000000000000000):w64 ((n:Int)+1)=((n+1:Nat):Int):=by
 rw[co (by omega) (by omega)]; rfl
theorem aQ {α:Type} [Inhabited α] (l:List α) (n:Nat):gt l (n:Int)=l.getD n default:=rfl
def dr (c:UInt8):Bool:=decide (48≤c.toNat)&&decide (c.toNat≤57)
theorem sd {c:UInt8}:dr c=true↔48≤c.toNat∧c.toNat≤57:=by simp[dr]
theorem jT (c:UInt8):g_18.f c=some (dr c):=by
 unfold g_18.f dr
 congr 2
 ·exact decide_eq_decide.2 (by show((48:Nat):Int)≤_↔_; omega)
 ·exact decide_eq_decide.2 (by show _≤((57:Nat):Int)↔_; omega)
theorem iu (c:UInt8):g_l.f c=some (dr c):=by
 unfold g_l.f dr
 congr 2
 ·exact decide_eq_decide.2 (by show _≥((48:Nat):Int)↔_; omega)
 ·exact decide_eq_decide.2 (by show _≤((57:Nat):Int)↔_; omega)
theorem cO {α:Type} (l:List α) (n:Nat):mid l (n:Int) (l.length:Int)=l.drop n:=by
 unfold mid
 simp
theorem ew {α:Type} (l:List α) (n:Nat):mid l (0:Int) (n:Int)=l.take n:=by
 unfold mid
 simp
theorem cX (a b:UInt8):((a.toNat:Int)==(b.toNat:Int))=decide (a=b):=by
 rw[Bool.eq_iff_iff]
 simp only[beq_iff_eq,decide_eq_true_eq]
 constructor
 ·intro h; exact UInt8.toNat_inj.1 (by omega)
 ·intro h; rw[h]
theorem fw (a b:UInt8):((a.toNat:Int) != (b.toNat:Int))= !decide (a=b):=by
 rw[bne,cX]
theorem gM (l:List UInt8) (c:UInt8):g_1n.f l c=some (jO l c):=rfl
theorem o7 (l:List UInt8) (c:UInt8):decide (jO l c≥0)=l.contains c:=by
 unfold jO
 cases h:l.findIdx? (· == c) with
 | none =>
  rw[List.findIdx?_eq_none_iff] at h
  symm
  show l.contains c=false
  rw[Bool.eq_false_iff]
  intro hc
  have:=h c (List.contains_iff_mem.1 hc)
  simp at this
 | some i =>
  rw[decide_eq_true (show(i:Int)≥0 by omega)]
  symm
  obtain⟨hi,h1,_⟩:=List.findIdx?_eq_some_iff_getElem.1 h
  rw[List.contains_iff_mem]
  have:l[i]=c:=by simpa using h1
  rw[← this]; exact List.getElem_mem hi
theorem idxB_lt (l:List UInt8) (c:UInt8):decide (jO l c<0)= !l.contains c:=by
 rw[← o7]
 by_cases h:jO l c≥0
 ·rw[decide_eq_true h,decide_eq_false (by omega)]; rfl
 ·rw[decide_eq_false h,decide_eq_true (by omega)]; rfl
theorem mO (l:List UInt8) (i:Nat):(⟨l.toArray⟩:ByteArray).get! i=l.getD i default:=by
 show l.toArray[i]! = _
 simp[List.getD_eq_getElem?_getD]
theorem se {l:List UInt8} {p:Nat} (h:(l.getD p default).toNat<128):dec l p=((l.getD p default).toNat,1):=by
 unfold dec Utf8.decode
 simp only[Nat.add_zero,mO]
 rw[if_pos h]
theorem dec_hi {l:List UInt8} {p:Nat} (h: ¬ (l.getD p default).toNat<128):126<(dec l p).1:=by
 unfold dec Utf8.decode
 simp only[Nat.add_zero,mO]
 rw[if_neg h]
 split
 ·split
  ·simp only; omega
  ·decide
 ·split
  ·split
   ·rename_i h2
    simp only[Bool.and_eq_true,decide_eq_true_eq] at h2
    simp only; omega
   ·decide
  ·split
   ·split
    ·rename_i h2
     simp only[Bool.and_eq_true,decide_eq_true_eq] at h2
     simp only; omega
    ·decide
   ·decide
theorem ay {α:Type} [Inhabited α] {t:List α} {a:Nat} (h:a<t.length):t.drop a=t.getD a default::t.drop (a+1):=by
 rw[List.drop_eq_getElem_cons h,List.getD_eq_getElem?_getD,List.getElem?_eq_getElem h]; rfl
theorem l4 {α:Type} {l:List α} {d e:α} {k:Nat} (h:k<l.length):l.getD k d=l.getD k e:=by
 rw[List.getD_eq_getElem?_getD,List.getElem?_eq_getElem h,List.getD_eq_getElem?_getD,List.getElem?_eq_getElem h]; rfl
def shw (f c:UInt8):Bool:=decide (f.toNat≤c.toNat)&&decide (c.toNat≤126)
theorem mP (r:Nat) {f:UInt8} (hf:f.toNat<128):g_1c.f (r:Int) f=some (!(decide (f.toNat≤r)&&decide (r≤126))):=by
 unfold g_1c.f
 have:IntKind.i32.wrap ((f.toNat:Nat):Int)=f.toNat:=by
  simp[IntKind.wrap,IntKind.bits,IntKind.signed]; omega
 rw[this]
 congr 1
 by_cases h1:f.toNat≤r<;>by_cases h2:r≤126<;>simp[h1,h2]<;>omega
theorem eW {f:UInt8} (hf:f.toNat<128) (t:List UInt8): ∀d x:Nat,x+d=t.length →
  if(t.drop x).all (shw f)=true then iter (g_1r.b0 t f true) x=some (.inl t.length) else ∃k:Nat,iter (g_1r.b0 t f true) x=some (.inr (k:Int))
 | 0,x,h=>by
  rw[show x=t.length by omega,List.drop_length]
  exact ae (by unfold g_1r.b0; rw[if_neg (by simp)])
 | d+1,x,h=>by
  have ih:=eW hf t d (x+1) (by omega)
  have key:g_1r.b0 t f true x=if(decide (f.toNat≤(dec t x).1)&&decide ((dec t x).1≤126))=true then some (.inl (x+(dec t x).2)) else some (.inr (.inr (x:Int))):=by
   unfold g_1r.b0
   rw[if_pos (decide_eq_true (by omega)),mP _ hf,Option.bind_some]
   cases(decide (f.toNat≤(dec t x).1)&&decide ((dec t x).1≤126))<;>rfl
  rw[ay (by omega),List.all_cons]
  by_cases hb:(t.getD x default).toNat<128
  ·rw[se hb] at key
   cases hs:shw f (t.getD x default)
   ·rw[Bool.false_and,if_neg (by decide)]
    unfold shw at hs
    exact⟨x,ae (key.trans (if_neg (by rw[hs]; decide)))⟩
   ·rw[Bool.true_and]
    unfold shw at hs
    rw[ak (key.trans (if_pos hs))]
    exact ih
  ·have hh:=dec_hi hb
   have hs:shw f (t.getD x default)=false:=by unfold shw; rw[decide_eq_false (show ¬ (t.getD x default).toNat≤126 by omega),Bool.and_false]
   rw[hs,Bool.false_and,if_neg (by decide)]
   exact⟨x,ae (key.trans (if_neg (by rw[decide_eq_false (show ¬ (dec t x).1≤126 by omega),Bool.and_false]; decide)))⟩
theorem kW {f:UInt8} (hf:f.toNat<128) (t:List UInt8):g_1b.f t f=some (t.all (shw f)):=by
 have h:=eW hf t t.length 0 (by omega)
 rw[List.drop_zero] at h
 unfold g_1b.f g_1o.f g_1r.f
 cases hs:t.all (shw f)
 ·rw[hs,if_neg (by decide)] at h
  obtain⟨k,hk⟩:=h
  rw[hk]
  simp[bj]
 ·rw[hs,if_pos rfl] at h
  rw[h]
  simp[bj]
theorem dn {p:Prop} [Decidable p] (h: ¬ p): ¬ decide p=true:=by simpa using h
theorem eX (b:Bool) (e:Int):g_1k.f b e=some (if b=true then 0 else e):=by
 unfold g_1k.f; cases b<;>rfl
theorem qu {l:List Int} {k:Nat} (h:k=l.length):iter (g_t.b0 l) (k:Int)=some (.inl (l.length:Int)):=by
 subst h
 exact ae (by unfold g_t.b0; rw[if_neg (by simp)])
def dk:List Int→Int
 | []=>0
 | a::l=>if a≠0 then a else dk l
theorem jU {l:List Int} (hl:l.length<1000): ∀(d k:Nat),k+d=l.length→ ∃r,iter (g_t.b0 l) (k:Int)=some r∧(match r with | .inl _=>(0:Int) | .inr e=>e)=dk (l.drop k)
 | 0,k,h=>by
  refine⟨.inl (l.length:Int),qu (by omega),?_⟩
  rw[show k=l.length by omega,List.drop_length]; rfl
 | d+1,k,h=>by
  have key:g_t.b0 l (k:Int)=some (if(l.getD k default)≠0 then .inr (.inr (l.getD k default)) else .inl ((k+1:Nat):Int)):=by
   unfold g_t.b0
   rw[if_pos (decide_eq_true (by omega)),if_pos ⟨by omega,by omega⟩,aQ,up1 (by omega)]
   by_cases h0:l.getD k default=0
   ·rw[h0]; rfl
   ·rw[if_pos (by simpa using h0),if_pos h0]
  rw[ay (by omega)]
  unfold dk
  by_cases h0:l.getD k default=0
  ·rw[if_neg (by simpa using h0)] at key ⊢
   obtain⟨r,h1,h2⟩:=jU hl d (k+1) (by omega)
   exact⟨r,by rw[ak key]; exact h1,h2⟩
  ·rw[if_pos h0] at key ⊢
   exact⟨.inr (l.getD k default),ae key,rfl⟩
theorem dW {l:List Int} (hl:l.length<1000):g_t.f l=some (dk l):=by
 unfold g_t.f
 obtain⟨r,h1,h2⟩:=jU hl l.length 0 (by omega)
 have h1':iter (g_t.b0 l) 0=some r:=h1
 rw[h1',Option.bind_some]
 rw[List.drop_zero] at h2
 rw[← h2]
 cases r<;>rfl
def bl (l:List UInt8):Bool:=l.all (· == 32)
def ltr (l:List UInt8):List UInt8:=l.dropWhile (· == 32)
theorem ga {α:Type} {p:α→Bool}: ∀{l:List α},l.dropWhile p= []↔ ∀x∈l,p x=true
 | []=>by simp
 | a::l=>by
  rw[List.dropWhile_cons]
  by_cases h:p a=true
  ·rw[if_pos h,ga]
   constructor
   ·intro k x hx
    rcases List.mem_cons.1 hx with rfl | hx
    ·exact h
    ·exact k x hx
   ·intro k x hx; exact k x (List.mem_cons_of_mem _ hx)
  ·rw[if_neg h]
   constructor
   ·intro k; cases k
   ·intro k; exact absurd (k a List.mem_cons_self) h
theorem sf (l:List UInt8):decide (Lib.trimB l 32= [])=bl l:=by
 unfold Lib.trimB Lib.trimLeftB Lib.trimRightB bl
 rw[Bool.eq_iff_iff,decide_eq_true_eq,List.all_eq_true]
 constructor
 ·intro h x hx
  rw[ga] at h
  apply Decidable.byContradiction
  intro hb
  -- the last character that is no blank stays
  have: ∃y∈(l.reverse.dropWhile (· == 32)).reverse,¬ (y==32)=true:=by
   have hd:l.reverse.dropWhile (· == 32)≠ []:=by
    intro e
    rw[ga] at e
    exact hb (e x (List.mem_reverse.2 hx))
   have hh:=List.head_dropWhile_not (· == (32:UInt8)) (l:=l.reverse) hd
   exact⟨_,List.mem_reverse.2 (List.head_mem hd),by simpa using hh⟩
  obtain⟨y,h1,h2⟩:=this
  exact h2 (h y h1)
 ·intro h
  have:l.reverse.dropWhile (· == 32)= []:=by
   rw[ga]
   exact fun x hx=>h x (List.mem_reverse.1 hx)
  rw[this]; rfl
theorem fo {l:List UInt8} (hl:l.length<9223372036854775807):g_16.f l=some (bl l):=by
 unfold g_16.f g_Trim.f
 simp only
 rw[if_pos ⟨by decide,by omega⟩,Option.bind_some,sf]
theorem fD {l:List UInt8} (hl:l.length<9000000000000000000): ∀(d k:Nat),k+d=l.length→ ∃r,iter (g_k.b0 l) (k:Int)=some r∧(match r with | .inl _=>true | .inr b=>b)=bl (l.drop k)
 | 0,k,h=>by
  refine⟨.inl (k:Int),ae (by unfold g_k.b0; rw[if_neg (by simp; omega)]),?_⟩
  rw[show k=l.length by omega,List.drop_length]; rfl
 | d+1,k,h=>by
  have key:g_k.b0 l (k:Int)=some (if l.getD k default=32 then .inl ((k+1:Nat):Int) else .inr (.inr false)):=by
   unfold g_k.b0
   rw[if_pos (decide_eq_true (by omega)),if_pos ⟨by omega,by omega⟩,aQ,up1 (by omega),fw]
   by_cases h0:l.getD k default=32
   ·rw[decide_eq_true h0,if_pos h0]; rfl
   ·rw[decide_eq_false h0,if_neg h0]; rfl
  rw[ay (by omega)]
  unfold bl
  rw[List.all_cons]
  by_cases h0:l.getD k default=32
  ·rw[if_pos h0] at key
   obtain⟨r,h1,h2⟩:=fD hl d (k+1) (by omega)
   refine⟨r,by rw[ak key]; exact h1,?_⟩
   rw[h2,h0]; rfl
  ·rw[if_neg h0] at key
   refine⟨.inr false,ae key,?_⟩
   have:(l.getD k default==32)=false:=by simpa using h0
   rw[this,Bool.false_and]
theorem ey {l:List UInt8} (hl:l.length<9000000000000000000):g_k.f l=some (bl l):=by
 unfold g_k.f
 obtain⟨r,h1,h2⟩:=fD hl l.length 0 (by omega)
 have h1':iter (g_k.b0 l) 0=some r:=h1
 rw[h1',Option.bind_some]
 rw[List.drop_zero] at h2
 rw[← h2]
 cases r<;>rfl
theorem fE: ∀l:List UInt8,iter (g_1t.b0 32) l=some (ltr l)
 | []=>ae rfl
 | c::l=>by
  have hg:gt (c::l) (0:Int)=c:=rfl
  have hm:mid (c::l) (1:Int) (((c::l).length:Nat):Int)=l:=by
   rw[show(1:Int)=((1:Nat):Int) from rfl,cO]; rfl
  have key:g_1t.b0 32 (c::l)=some (if c=32 then .inl l else .inr (c::l)):=by
   unfold g_1t.b0
   rw[if_pos (decide_eq_true (by simp)),if_pos ⟨by omega,by simp⟩,Option.bind_some,hg,cX]
   by_cases h:c=32
   ·rw[decide_eq_true h,if_pos h,if_pos rfl,if_pos ⟨by omega,by simp; omega,Int.le_refl _⟩,hm]
   ·rw[decide_eq_false h,if_neg h]; rfl
  unfold ltr
  rw[List.dropWhile_cons]
  by_cases h:c=32
  ·rw[if_pos h] at key
   rw[ak key,if_pos (by simpa using h)]
   exact fE l
  ·rw[if_neg h] at key
   rw[ae key,if_neg (by simpa using h)]
theorem jV (l:List UInt8):g_1q.f l [32]=some (ltr l):=by
 unfold g_1q.f
 by_cases h:l= []
 ·subst h; rfl
 ·rw[if_neg (by simpa using h),if_pos (by decide),if_pos ⟨by decide,by decide⟩,Option.bind_some,if_pos (by decide),if_pos ⟨by decide,by decide⟩]
  unfold g_1t.f
  have hg:gt ([32]:List UInt8) (0:Int)=32:=rfl
  rw[hg,fE]; rfl
theorem gN {s:List UInt8} (hs:s.length<1000000) (n:Nat):g_s.f s ((n+1:Nat):Int)=some (s.getD n 32):=by
 unfold g_s.f
 have hw:n<s.length→w64 (((n+1:Nat):Int)-1)=(n:Int):=fun h=>by rw[co (by omega) (by omega)]; omega
 by_cases h:n<s.length
 ·rw[if_neg (by simp; omega),hw h,if_pos ⟨by omega,by omega⟩,aQ,l4 h]
 ·rw[if_pos (by simp; omega),List.getD_eq_getElem?_getD,List.getElem?_eq_none (by omega)]; rfl
def cm (s:List UInt8):Bool:=([67,99,42,33]:List UInt8).contains (s.getD 0 32)||bl (s.take 72)
theorem mQ {s:List UInt8} (hs:s.length<1000000):g_17.f s=some (cm s):=by
 unfold g_17.f cm
 have h1:g_s.f s 1=some (s.getD 0 32):=gN hs 0
 rw[h1,Option.bind_some,gM,Option.bind_some,o7]
 have hm:mid s (0:Int) (if(72:Int)<(s.length:Int) then 72 else(s.length:Int))=s.take 72:=by
  by_cases h:72<s.length
  ·rw[if_pos (by omega)]; exact ew s 72
  ·rw[if_neg (by omega),ew,List.take_length,List.take_of_length_le (by omega)]
 rw[hm]
 cases([67,99,42,33]:List UInt8).contains (s.getD 0 32)
 ·rw[if_neg (by decide),if_pos (by split<;>omega),fo (by rw[List.length_take]; omega)]; rfl
 ·rfl
end Go.Proofs.YtjcbhbncncbdjaaGreatDoorAi
namespace Go.Proofs.YtjcbhbncncbdjaaGreatDoorAi
open Go Go.RowKit
set_option linter.unusedVariables false
set_option linter.unusedSimpArgs false
def nmE (n:List UInt8):Bool:=decide (1≤n.length)&&decide (n.length≤31)&&n.all (shw 33)&& !n.contains 39
def lnE (m:Nat) (s:List UInt8):Int:=if m<s.length then 8 else if s.all (shw 32)=true then 0 else 3
def ckL (m:Nat):List (List UInt8)→Nat→Int×Int
 | [],_=>(0,0)
 | s::r,i=>if lnE m s≠0 then((i:Int),lnE m s) else ckL m r (i+1)
def wd (free:Bool):Nat:=if free=true then 132 else 80
def ckT (n:List UInt8) (free:Bool) (ls:List (List UInt8)):Int×Int:=if nmE n=false then(0,4) else if 400<ls.length then(0,8) else ckL (wd free) ls 0
structure Few (n:List UInt8) (ls:List (List UInt8)):Prop where
 n:n.length<1000
 l:ls.length<1000
 e: ∀s∈ls,s.length<1000
theorem Few.at {n:List UInt8} {ls:List (List UInt8)} (h:Few n ls) {k:Nat} (hk:k<ls.length):(ls.getD k default).length<1000:=by
 rw[List.getD_eq_getElem?_getD,List.getElem?_eq_getElem hk]
 exact h.e _ (List.getElem_mem hk)
theorem sh {n:List UInt8} (h:n.length<1000):g_19.f n=some (nmE n):=by
 unfold g_19.f g_1l.f nmE
 rw[kW (by decide),gM,Option.bind_some]
 simp only[Option.bind_some,idxB_lt]
 have e:((decide ((1:Int)≤(n.length:Int)))&&(decide ((n.length:Int)≤31)))=(decide (1≤n.length)&&decide (n.length≤31)):=by
  congr 1
  ·exact decide_eq_decide.2 (by omega)
  ·exact decide_eq_decide.2 (by omega)
 rw[e]
 cases(decide (1≤n.length)&&decide (n.length≤31))
 ·rfl
 ·cases n.all (shw 33)<;>rfl
theorem frst2 (a b:Int):dk [a,b]=if a≠0 then a else b:=by
 unfold dk dk dk
 by_cases h:a=0
 ·by_cases h2:b=0<;>simp[h,h2]
 ·simp[h]
theorem jW {n:List UInt8} {ls:List (List UInt8)} (h:Few n ls) (m:Nat) (hm:m<1000): ∀(d k:Nat),k+d=ls.length →
  ∃r,iter (g_p.b0 ls (m:Int)) (k:Int)=some r∧(match r with | .inl _=>((0:Int),(0:Int)) | .inr e=>e)=ckL m (ls.drop k) k
 | 0,k,hk=>by
  refine⟨.inl (k:Int),ae (by unfold g_p.b0; rw[if_neg (by simp; omega)]),?_⟩
  rw[show k=ls.length by omega,List.drop_length]; rfl
 | d+1,k,hk=>by
  have hl:=h.l
  have key:g_p.b0 ls (m:Int) (k:Int)=some (if lnE m (ls.getD k default)≠0 then .inr (.inr ((k:Int),lnE m (ls.getD k default))) else .inl ((k+1:Nat):Int)):=by
   unfold g_p.b0
   simp only[eX]
   rw[if_pos (decide_eq_true (by omega)),if_pos ⟨by omega,by omega⟩,aQ,up1 (by omega),kW (by decide)]
   unfold lnE
   by_cases h1:m<(ls.getD k default).length
   ·rw[if_neg (dn (by omega)),if_pos h1]
    cases(ls.getD k default).all (shw 32)
    ·simp only[Bool.false_eq_true,if_false,Option.bind_some,dW (show([(8:Int),3]:List Int).length<1000 by decide)]; rfl
    ·simp only[if_true,Option.bind_some,dW (show([(8:Int),0]:List Int).length<1000 by decide)]; rfl
   ·rw[if_pos (decide_eq_true (by omega)),if_neg h1]
    cases(ls.getD k default).all (shw 32)
    ·simp only[Bool.false_eq_true,if_false,Option.bind_some,dW (show([(0:Int),3]:List Int).length<1000 by decide)]; rfl
    ·simp only[if_true,Option.bind_some,dW (show([(0:Int),0]:List Int).length<1000 by decide)]; rfl
  rw[ay (by omega)]
  unfold ckL
  by_cases h0:lnE m (ls.getD k default)=0
  ·rw[if_neg (by simpa using h0)] at key ⊢
   obtain⟨r,h1,h2⟩:=jW h m hm d (k+1) (by omega)
   exact⟨r,by rw[ak key]; exact h1,h2⟩
  ·rw[if_pos h0] at key ⊢
   exact⟨_,ae key,rfl⟩
theorem iv {n:List UInt8} {free:Bool} {ls:List (List UInt8)} (h:Few n ls):g_p.f n free ls=some (ckT n free ls):=by
 have hl:=h.l
 unfold g_p.f ckT
 rw[sh h.n,Option.bind_some]
 simp only[eX,Option.bind_some]
 have hf: ∀a b:Int,g_t.f [a,b]=some (if a≠0 then a else b):=fun a b=>by rw[dW (by show 2<1000; decide),frst2]
 simp only[hf,Option.bind_some]
 cases hn:nmE n
 ·rfl
 ·rw[if_neg (show ¬ true=false by decide)]
  by_cases h4:400<ls.length
  ·rw[if_neg (c:=decide _=true) (dn (by omega)),if_pos h4]; rfl
  ·rw[if_pos (c:=decide _=true) (decide_eq_true (by omega)),if_neg h4]
   have hw:(if free=true then some (132:Int) else some 80)=some ((wd free:Nat):Int):=by unfold wd; cases free<;>rfl
   obtain⟨r,h1,h2⟩:=jW h (wd free) (by unfold wd; cases free<;>decide) ls.length 0 (by omega)
   have h1':iter (g_p.b0 ls ((wd free:Nat):Int)) 0=some r:=h1
   rw[List.drop_zero] at h2
   rw[hw,← h2]
   show Option.bind (iter (g_p.b0 ls ((wd free:Nat):Int)) 0) _=_
   rw[h1',Option.bind_some]
   cases r<;>rfl
theorem nX (c:UInt8):g_4.f (IntKind.i64.wrap (c.toNat:Int)) 32 126=some (shw 32 c):=by
 have hc:=c.toNat_lt
 have:IntKind.i64.wrap (c.toNat:Int)=(c.toNat:Int):=co (by omega) (by omega)
 unfold g_4.f shw
 rw[this]
 congr 1
 have e32:(32:UInt8).toNat=32:=rfl
 rw[e32]
 by_cases h1:32≤c.toNat<;>by_cases h2:c.toNat≤126<;>simp[h1,h2]<;>omega
theorem iw {l:List UInt8} (hl:l.length<1000000): ∀(d k:Nat),k+d=l.length→ ∃r,iter (g_3.b0 l) (k:Int)=some r∧(match r with | .inl _=>true | .inr b=>b)=(l.drop k).all (shw 32)
 | 0,k,h=>by
  refine⟨.inl (k:Int),ae (by unfold g_3.b0; rw[if_neg (by simp; omega)]),?_⟩
  rw[show k=l.length by omega,List.drop_length]; rfl
 | d+1,k,h=>by
  have key:g_3.b0 l (k:Int)=some (if shw 32 (l.getD k default)=true then .inl ((k+1:Nat):Int) else .inr (.inr false)):=by
   unfold g_3.b0
   rw[if_pos (decide_eq_true (by omega)),if_pos ⟨by omega,by omega⟩,aQ,up1 (by omega),nX,Option.bind_some]
   cases shw 32 (l.getD k default)<;>rfl
  rw[ay (by omega),List.all_cons]
  cases h0:shw 32 (l.getD k default)
  ·rw[h0] at key
   exact⟨.inr false,ae key,rfl⟩
  ·rw[h0] at key
   obtain⟨r,h1,h2⟩:=iw hl d (k+1) (by omega)
   exact⟨r,by rw[ak key]; exact h1,by rw[h2]; rfl⟩
theorem mR {l:List UInt8} (hl:l.length<1000000) (m:Nat):g_3.f l (m:Int)=some (decide (l.length≤m)&&l.all (shw 32)):=by
 unfold g_3.f
 by_cases h:l.length≤m
 ·rw[if_neg (by simp; omega),decide_eq_true h]
  obtain⟨r,h1,h2⟩:=iw hl l.length 0 (by omega)
  have h1':iter (g_3.b0 l) 0=some r:=h1
  rw[List.drop_zero] at h2
  rw[h1',Option.bind_some,← h2]
  cases r<;>rfl
 ·rw[if_pos (by simp; omega),decide_eq_false h]; rfl
theorem gO {l:List UInt8} (hl:l.length<1000000): ∀(d k:Nat),k+d=l.length→ ∃r,iter (g_8.b0 l) (k:Int)=some r∧(match r with | .inl _=>true | .inr e=>false)=(l.drop k).all (fun c=>c != 32&&c != 39)∧ ∀e,r= .inr e→e=(0,4)
 | 0,k,h=>by
  refine⟨.inl (k:Int),ae (by unfold g_8.b0; rw[if_neg (by simp; omega)]),?_,fun e h=>by cases h⟩
  rw[show k=l.length by omega,List.drop_length]; rfl
 | d+1,k,h=>by
  have key:g_8.b0 l (k:Int)=some (if((l.getD k default) != 32&&(l.getD k default) != 39)=true then .inl ((k+1:Nat):Int) else .inr (.inr (0,4))):=by
   unfold g_8.b0
   rw[if_pos (decide_eq_true (by omega)),if_pos ⟨by omega,by omega⟩,aQ,up1 (by omega),cX,cX]
   by_cases h1:l.getD k default=32
   ·rw[decide_eq_true h1,h1]; rfl
   ·rw[decide_eq_false h1,if_neg (by decide),if_pos ⟨by omega,by omega⟩,Option.bind_some]
    by_cases h2:l.getD k default=39
    ·rw[decide_eq_true h2,h2]; rfl
    ·rw[decide_eq_false h2]
     have e:((l.getD k default) != 32&&(l.getD k default) != 39)=true:=by rw[Bool.and_eq_true,bne_iff_ne,bne_iff_ne]; exact⟨h1,h2⟩
     rw[e]; rfl
  rw[ay (by omega),List.all_cons]
  cases h0:((l.getD k default) != 32&&(l.getD k default) != 39)
  ·rw[h0] at key
   exact⟨.inr (0,4),ae key,rfl,fun e h=>by cases h; rfl⟩
  ·rw[h0] at key
   obtain⟨r,h1,h2,h3⟩:=gO hl d (k+1) (by omega)
   exact⟨r,by rw[ak key]; exact h1,by rw[h2]; rfl,h3⟩
theorem fF {n:List UInt8} {ls:List (List UInt8)} (h:Few n ls) (free:Bool): ∀(d k:Nat),k+d=ls.length →
  ∃r,iter (g_8.b1 free ls) (k:Int)=some r∧(match r with | .inl _=>((0:Int),(0:Int)) | .inr e=>e)=ckL (wd free) (ls.drop k) k
 | 0,k,hk=>by
  refine⟨.inl (k:Int),ae (by unfold g_8.b1; rw[if_neg (by simp; omega)]),?_⟩
  rw[show k=ls.length by omega,List.drop_length]; rfl
 | d+1,k,hk=>by
  have hl:=h.l
  have hk':=h.at (k:=k) (by omega)
  have hw:g_f.f free=some ((wd free:Nat):Int):=by unfold g_f.f wd; cases free<;>rfl
  have key:g_8.b1 free ls (k:Int)=some (if lnE (wd free) (ls.getD k default)≠0 then .inr (.inr ((k:Int),lnE (wd free) (ls.getD k default))) else .inl ((k+1:Nat):Int)):=by
   unfold g_8.b1
   rw[if_pos (decide_eq_true (by omega)),if_pos ⟨by omega,by omega⟩,aQ,up1 (by omega),hw,Option.bind_some]
   unfold lnE
   by_cases h1:wd free<(ls.getD k default).length
   ·rw[if_pos (decide_eq_true (by omega)),if_pos h1,if_pos (by decide)]
   ·rw[if_neg (dn (by omega)),if_neg h1,if_pos ⟨by omega,by omega⟩,Option.bind_some,mR (by omega),Option.bind_some,decide_eq_true (by omega),Bool.true_and]
    cases(ls.getD k default).all (shw 32)<;>rfl
  rw[ay (by omega)]
  unfold ckL
  by_cases h0:lnE (wd free) (ls.getD k default)=0
  ·rw[if_neg (by simpa using h0)] at key ⊢
   obtain⟨r,h1,h2⟩:=fF h free d (k+1) (by omega)
   exact⟨r,by rw[ak key]; exact h1,h2⟩
  ·rw[if_pos h0] at key ⊢
   exact⟨_,ae key,rfl⟩
theorem nmE_two (n:List UInt8):nmE n=(decide (1≤n.length)&&decide (n.length≤31)&&(n.all (shw 32)&&n.all (fun c=>c != 32&&c != 39))):=by
 have e:(n.all (shw 33)&& !n.contains 39)=(n.all (shw 32)&&n.all (fun c=>c != 32&&c != 39)):=by
  induction n with
  | nil=>rfl
  | cons c n ih =>
   rw[List.all_cons,List.all_cons,List.all_cons,List.contains_cons]
   have h1:(shw 33 c&& !(39==c))=(shw 32 c&&(c != 32&&c != 39)):=by
    unfold shw
    have e1:(33:UInt8).toNat=33:=rfl
    have e2:(32:UInt8).toNat=32:=rfl
    have e3:(c != 32)= !decide (c.toNat=32):=by
     rw[Bool.eq_iff_iff]; simp
     constructor
     ·intro q p; exact q (UInt8.toNat_inj.1 p)
     ·intro q p; exact q (by rw[p]; rfl)
    rw[e1,e2,e3,show(39==c)=(c==39) from Bool.beq_comm,bne]
    by_cases h1:33≤c.toNat<;>by_cases h2:c.toNat≤126<;>by_cases h3:c.toNat=32<;>simp[h1,h2,h3]<;>omega
   generalize n.all (shw 33)=x1 at *
   generalize n.contains 39=x2 at *
   generalize n.all (shw 32)=x3 at *
   generalize n.all (fun c=>c != 32&&c != 39)=x4 at *
   generalize shw 33 c=y1 at *
   generalize (39==c)=y2 at *
   generalize shw 32 c=y3 at *
   generalize (c != 32&&c != 39)=y4 at *
   revert ih h1
   cases x1<;>cases x2<;>cases x3<;>cases x4<;>cases y1<;>cases y2<;>cases y3<;>cases y4<;>decide
 unfold nmE
 rw[Bool.and_assoc,e]
theorem eY {n:List UInt8} {free:Bool} {ls:List (List UInt8)} (h:Few n ls):g_8.f n free ls=some (ckT n free ls):=by
 have hl:=h.l
 have hn:=h.n
 unfold g_8.f g_4.f ckT
 rw[nmE_two,Option.bind_some,show(31:Int)=((31:Nat):Int) from rfl,mR (by omega)]
 have e:(!((decide ((n.length:Int)<1))||(decide ((n.length:Int)>((31:Nat):Int)))))=(decide (1≤n.length)&&decide (n.length≤31)):=by
  by_cases h1:1≤n.length<;>by_cases h2:n.length≤31<;>simp[h1,h2]<;>omega
 rw[e]
 cases hw:(decide (1≤n.length)&&decide (n.length≤31))
 ·rfl
 ·rw[if_neg (by decide),Option.bind_some]
  rw[Bool.and_eq_true,decide_eq_true_eq,decide_eq_true_eq] at hw
  rw[decide_eq_true hw.2,Bool.true_and]
  cases n.all (shw 32)
  ·rfl
  ·obtain⟨r,h1,h2,h3⟩:=gO (l:=n) (by omega) n.length 0 (by omega)
   have h1':iter (g_8.b0 n) 0=some r:=h1
   rw[List.drop_zero] at h2
   simp only[Option.bind_some,Bool.not_true,Bool.false_eq_true,if_false,Bool.true_and,h1',← h2]
   cases r with
   | inr e=>rw[h3 e rfl]; rfl
   | inl x =>
    show(if(decide ((ls.length:Int)>400))=true then some ((0:Int),(8:Int)) else _)=some (if true=false then(0,4) else _)
    rw[if_neg (show ¬ true=false by decide)]
    by_cases h4:400<ls.length
    ·rw[if_pos (by simp; omega),if_pos h4]
    ·rw[if_neg (by simp; omega),if_neg h4]
     obtain⟨r,k1,k2⟩:=fF h free ls.length 0 (by omega)
     have k1':iter (g_8.b1 free ls) 0=some r:=k1
     rw[List.drop_zero] at k2
     rw[k1',Option.bind_some,← k2]
     cases r<;>rfl
end Go.Proofs.YtjcbhbncncbdjaaGreatDoorAi
namespace Go.Proofs.YtjcbhbncncbdjaaGreatDoorAi
open Go Go.RowKit
set_option linter.unusedVariables false
set_option linter.unusedSimpArgs false
abbrev Pl:Type:=Int×Int×Int
abbrev Mk1:Type:=UInt8×Int×Int×Int
abbrev ST:Type:=Int×List UInt8×List Pl
def tx (l:List Mk1):List UInt8:=l.map (·.1)
def pl (l:List Mk1):List Pl:=l.map (·.2)
def gb (m:Mk1):Bool:=m.1==32
def lf (l:List Mk1):List Mk1:=l.dropWhile gb
def rt (l:List Mk1):List Mk1:=(l.reverse.dropWhile gb).reverse
theorem eZ {α:Type} (p:α→Bool): ∀l:List α,(l.dropWhile p).length≤l.length
 | []=>Nat.le_refl _
 | a::l=>by
  rw[List.dropWhile_cons]
  split
  ·exact Nat.le_succ_of_le (eZ p l)
  ·exact Nat.le_refl _
theorem o9: ∀l:List Mk1,iter g_1e.b0 l=some (lf l)
 | []=>ae rfl
 | c::l=>by
  have hg:gt (c::l) (0:Int)=c:=rfl
  have hm:mid (c::l) (1:Int) (((c::l).length:Nat):Int)=l:=by
   rw[show(1:Int)=((1:Nat):Int) from rfl,cO]; rfl
  have key:g_1e.b0 (c::l)=some (if gb c=true then .inl l else .inr (c::l)):=by
   unfold g_1e.b0 gb
   rw[if_pos (decide_eq_true (by simp)),if_pos ⟨by omega,by simp⟩,Option.bind_some,hg,cX]
   by_cases h:c.1=32
   ·rw[decide_eq_true h,h,if_pos rfl,if_pos ⟨by omega,by simp; omega,Int.le_refl _⟩,hm]; rfl
   ·rw[decide_eq_false h,if_neg (by decide),if_neg (c:=(c.1==32)=true) (by simpa using h)]
  unfold lf
  rw[List.dropWhile_cons]
  cases h:gb c
  ·rw[h] at key
   rw[ae key]; rfl
  ·rw[h] at key
   rw[ak key]
   exact o9 l
theorem nY (l:List Mk1):g_1e.f l=some (lf l):=by
 unfold g_1e.f
 rw[o9]; rfl
theorem pa (l:List Mk1) (c:Mk1):rt (l++ [c])=if gb c=true then rt l else l++ [c]:=by
 unfold rt
 rw[List.reverse_append,List.reverse_cons,List.reverse_nil,List.nil_append,List.cons_append,List.nil_append,List.dropWhile_cons]
 split
 ·rfl
 ·rw[List.reverse_cons,List.reverse_reverse]
theorem pb: ∀(n:Nat) (l:List Mk1),l.length=n→n<1000000→iter g_1g.b0 l=some (rt l)
 | 0,l,h,_=>by
  cases l with
  | nil=>exact ae rfl
  | cons _ _=>simp at h
 | n+1,l,h,hn=>by
  have hne:l≠ []:=by intro e; rw[e] at h; cases h
  obtain⟨l0,c,rfl⟩: ∃l0 c,l=l0++ [c]:=⟨l.dropLast,l.getLast hne,(List.dropLast_concat_getLast hne).symm⟩
  have hl:l0.length=n:=by simpa using h
  have hw:w64 (((l0++ [c]).length:Int)-1)=(l0.length:Int):=by
   have e:((l0++ [c]).length:Int)=(l0.length:Int)+1:=by simp
   rw[e,co (by omega) (by omega)]; omega
  have hg:gt (l0++ [c]) (l0.length:Int)=c:=by
   rw[aQ,List.getD_eq_getElem?_getD,List.getElem?_append_right (Nat.le_refl _)]; simp
  have hm:mid (l0++ [c]) (0:Int) (l0.length:Int)=l0:=by rw[ew]; simp
  have key:g_1g.b0 (l0++ [c])=some (if gb c=true then .inl l0 else .inr (l0++ [c])):=by
   unfold g_1g.b0 gb
   have e:((l0++ [c]).length:Int)=(l0.length:Int)+1:=by simp
   rw[hw,if_pos (decide_eq_true (by omega)),if_pos ⟨by omega,by omega⟩,Option.bind_some,hg,cX]
   by_cases h:c.1=32
   ·rw[decide_eq_true h,h,if_pos rfl,if_pos ⟨by omega,by omega,by omega⟩,hm]; rfl
   ·rw[decide_eq_false h,if_neg (by decide),if_neg (c:=(c.1==32)=true) (by simpa using h)]
  rw[pa]
  cases h:gb c
  ·rw[h] at key
   rw[ae key]; rfl
  ·rw[h] at key
   rw[ak key]
   exact pb n l0 hl (by omega)
theorem pc {l:List Mk1} (h:l.length<1000000):g_1g.f l=some (rt l):=by
 unfold g_1g.f
 rw[pb l.length l rfl h]; rfl
theorem jX (l:List Mk1):(rt l).length≤l.length:=by
 unfold rt
 rw[List.length_reverse]
 exact Nat.le_trans (eZ _ _) (by rw[List.length_reverse]; exact Nat.le_refl _)
theorem jY (l:List Mk1):(lf l).length≤l.length:=eZ _ _
theorem kX {l:List Mk1} (hl:l.length<1000000): ∀(d k:Nat) (b:Bool) (acc:List UInt8),k+d=l.length→acc.length=k→ ∃b',iter (g_1h.b0 l) ((k:Int),b,acc)=some ((l.length:Int),b',acc++tx (l.drop k))
 | 0,k,b,acc,h,ha=>by
  refine⟨b,ae ?_⟩
  unfold g_1h.b0
  simp only
  rw[if_neg (dn (by omega)),show k=l.length by omega,List.drop_length]
  simp[tx]
 | d+1,k,b,acc,h,ha=>by
  have key:g_1h.b0 l ((k:Int),b,acc)=some (.inl (((k+1:Nat):Int),true,acc++ [(l.getD k default).1])):=by
   unfold g_1h.b0 g_1m.f g_copyCheck.f
   simp only
   rw[if_pos (decide_eq_true (by omega)),if_pos ⟨by omega,by omega⟩,aQ,up1 (by omega),Option.bind_some,if_pos (by simp; omega)]; rfl
  obtain⟨b',h1⟩:=kX hl d (k+1) true (acc++ [(l.getD k default).1]) (by omega) (by simp; omega)
  refine⟨b',by rw[ak key,h1,ay (show k<l.length by omega)]; simp[tx]⟩
theorem text_f {l:List Mk1} (hl:l.length<1000000):g_1h.f l=some (tx l):=by
 unfold g_1h.f
 obtain⟨b',h1⟩:=kX hl l.length 0 false [] (by omega) rfl
 have h1':iter (g_1h.b0 l) (0,false,([]:List UInt8))=some ((l.length:Int),b',tx l):=by simpa using h1
 rw[h1',Option.bind_some]
 unfold g_BString.f
 have e:(tx l).length=l.length:=by unfold tx; rw[List.length_map]
 simp only
 rw[if_pos (by omega)]; rfl
theorem ix {l:List Mk1} (hl:l.length<1000000): ∀(d k:Nat) (acc:List Pl),k+d=l.length→acc.length=k→iter (g_1f.b0 l) (acc,(k:Int))=some (acc++pl (l.drop k),(l.length:Int))
 | 0,k,acc,h,ha=>by
  refine ae ?_
  unfold g_1f.b0
  simp only
  rw[if_neg (dn (by omega)),show k=l.length by omega,List.drop_length]
  simp[pl]
 | d+1,k,acc,h,ha=>by
  have key:g_1f.b0 l (acc,(k:Int))=some (.inl (acc++ [(l.getD k default).2],((k+1:Nat):Int))):=by
   unfold g_1f.b0
   simp only
   rw[if_pos (decide_eq_true (by omega)),if_pos ⟨by omega,by omega⟩,aQ,up1 (by omega),if_pos (by simp; omega)]
  rw[ak key,ix hl d (k+1) _ (by omega) (by simp; omega),ay (show k<l.length by omega)]
  simp[pl]
theorem si {l:List Mk1} (hl:l.length<1000000):g_1f.f l=some (pl l):=by
 unfold g_1f.f
 have h1:=ix hl l.length 0 [] (by omega) rfl
 have h1':iter (g_1f.b0 l) (([]:List Pl),0)=some (pl l,(l.length:Int)):=by simpa using h1
 rw[h1']; rfl
def dl (n:Int) (l:List Mk1):ST:=(n,tx l,pl l)
theorem add_f {o:List ST} (ho:o.length<900000000) {l:List Mk1} (hl:l.length<1000000) (n:Int):g_1j.f o n l=some (o++ [dl n l]):=by
 unfold g_1j.f
 rw[text_f hl,si hl,Option.bind_some,Option.bind_some,if_pos (by simp; omega)]; rfl
theorem dX {t:List UInt8} (ht:t.length<1000000): ∀(d k:Nat),k+d=t.length→iter (g_d.b0 t) (k:Int)=some ((t.length-(ltr (t.drop k)).length:Nat):Int)
 | 0,k,h=>by
  rw[show k=t.length by omega,List.drop_length]
  exact ae (by unfold g_d.b0; rw[if_neg (dn (by omega))]; rfl)
 | d+1,k,h=>by
  have key:g_d.b0 t (k:Int)=some (if t.getD k default=32 then .inl ((k+1:Nat):Int) else .inr (k:Int)):=by
   unfold g_d.b0
   rw[if_pos (decide_eq_true (by omega)),if_pos ⟨by omega,by omega⟩,aQ,up1 (by omega),Option.bind_some,cX]
   by_cases h0:t.getD k default=32
   ·rw[decide_eq_true h0,if_pos h0]; rfl
   ·rw[decide_eq_false h0,if_neg h0]; rfl
  have e:=ay (show k<t.length by omega)
  by_cases h0:t.getD k default=32
  ·rw[if_pos h0] at key
   rw[ak key,dX ht d (k+1) (by omega),e]
   unfold ltr
   rw[List.dropWhile_cons,if_pos (by rw[h0]; rfl)]
  ·rw[if_neg h0] at key
   rw[ae key,e]
   unfold ltr
   rw[List.dropWhile_cons,if_neg (by simpa using h0),← e,List.length_drop]
   congr 2; omega
theorem sj: ∀l:List Mk1,tx (lf l)=ltr (tx l)
 | []=>rfl
 | c::l=>by
  unfold lf ltr tx
  rw[List.dropWhile_cons,List.map_cons,List.dropWhile_cons]
  have:gb c=(c.1==32):=rfl
  rw[this]
  split
  ·exact sj l
  ·rfl
theorem pd (l:List Mk1):lf l=l.drop (l.length-(lf l).length):=by
 have: ∀l:List Mk1,∃a,l=a++lf l:=fun l=>by
  induction l with
  | nil=>exact⟨[],rfl⟩
  | cons c l ih =>
   obtain⟨a,ha⟩:=ih
   unfold lf
   rw[List.dropWhile_cons]
   split
   ·exact⟨c::a,by show c::l=c::(a++lf l); rw[← ha]⟩
   ·exact⟨[],rfl⟩
 obtain⟨a,ha⟩:=this l
 conv=>rhs; rw[ha]
 rw[List.length_append,show a.length+(lf l).length-(lf (a++lf l)).length=a.length by rw[← ha]; omega]
 simp
theorem bN (l:List Mk1):(tx l).length=l.length:=by unfold tx; rw[List.length_map]
theorem jZ (l:List Mk1):(pl l).length=l.length:=by unfold pl; rw[List.length_map]
theorem mS {l:List Mk1} (hl:l.length<1000000) (n:Int) (k:Nat) (hk:k≤l.length):g_d.f n (tx l) (pl l) (k:Int)=some (dl n (lf (l.drop k))):=by
 unfold g_d.f
 have e:=dX (t:=tx l) (by rw[bN]; exact hl) (l.length-k) k (by rw[bN]; omega)
 have e2:(ltr ((tx l).drop k)).length=(lf (l.drop k)).length:=by
  have:(tx l).drop k=tx (l.drop k):=by unfold tx; rw[List.map_drop]
  rw[this,← sj,bN]
 have hle:=jY (l.drop k)
 rw[List.length_drop] at hle
 rw[e2,bN] at e
 rw[e,Option.bind_some,if_pos ⟨by omega,by rw[bN]; omega,Int.le_refl _⟩,if_pos ⟨by omega,by rw[jZ]; omega,Int.le_refl _⟩,cO,cO]
 have e3:lf (l.drop k)=l.drop (l.length-(lf (l.drop k)).length):=by
  conv=>lhs; rw[pd (l.drop k)]
  rw[List.length_drop,List.drop_drop]
  congr 1; omega
 unfold dl
 conv=>rhs; rw[e3]
 unfold tx pl
 rw[List.map_drop,List.map_drop]
theorem pe (l:List Mk1):rt l=l.take (rt l).length:=by
 have h:=pd l.reverse
 unfold lf at h
 unfold rt
 rw[List.length_reverse]
 conv=>lhs; rw[h]
 rw[List.length_reverse,List.reverse_drop,List.reverse_reverse,List.length_reverse]
 congr 1
 have:=eZ gb l.reverse
 rw[List.length_reverse] at this
 omega
theorem gP {l:List Mk1} (hl:l.length<1000000): ∀(k:Nat),k≤l.length→iter (g_n.b0 (tx l)) (k:Int)=some ((rt (l.take k)).length:Int)
 | 0,h=>ae rfl
 | k+1,h=>by
  have hk:k<l.length:=by omega
  have hw:w64 (((k+1:Nat):Int)-1)=(k:Int):=by rw[co (by omega) (by omega)]; omega
  have eg:(tx l).getD k default=(l.getD k default).1:=by
   unfold tx
   rw[List.getD_eq_getElem?_getD,List.getElem?_map,List.getElem?_eq_getElem hk,List.getD_eq_getElem?_getD,List.getElem?_eq_getElem hk]; rfl
  have key:g_n.b0 (tx l) ((k+1:Nat):Int)=some (if gb (l.getD k default)=true then .inl (k:Int) else .inr ((k+1:Nat):Int)):=by
   unfold g_n.b0 gb
   rw[hw,if_pos (decide_eq_true (by omega)),if_pos ⟨by omega,by rw[bN]; omega⟩,Option.bind_some,aQ,eg,cX]
   by_cases h0:(l.getD k default).1=32
   ·rw[decide_eq_true h0,h0]; rfl
   ·rw[decide_eq_false h0,if_neg (by decide),if_neg (c:=((l.getD k default).1==32)=true) (by simpa using h0)]
  have et:l.take (k+1)=l.take k++ [l.getD k default]:=by
   rw[List.take_succ_eq_append_getElem hk,List.getD_eq_getElem?_getD,List.getElem?_eq_getElem hk]; rfl
  rw[et,pa]
  cases h0:gb (l.getD k default)
  ·rw[h0] at key
   rw[ae key,if_neg (by decide),← et,List.length_take]
   congr 2; omega
  ·rw[h0] at key
   rw[ak key,if_pos rfl]
   exact gP hl k (by omega)
theorem kY {l:List Mk1} (hl:l.length<1000000) (n:Int):g_n.f n (tx l) (pl l)=some (dl n (rt l)):=by
 unfold g_n.f
 have e:=gP hl l.length (Nat.le_refl _)
 rw[List.take_length] at e
 have hle:=jX l
 rw[bN,e,Option.bind_some,if_pos ⟨by omega,by omega,by omega⟩,if_pos ⟨by omega,by omega,by rw[jZ]; omega⟩,ew,ew]
 unfold dl
 conv=>rhs; rw[pe l]
 unfold tx pl
 rw[List.map_take,List.map_take]
end Go.Proofs.YtjcbhbncncbdjaaGreatDoorAi
namespace Go.Proofs.YtjcbhbncncbdjaaGreatDoorAi
open Go Go.RowKit
set_option linter.unusedVariables false
set_option linter.unusedSimpArgs false
def cols (s:List UInt8) (i:Nat):List Mk1:=(List.range 66).map fun j=>(s.getD (6+j) 32,0,(i:Int),((7+j:Nat):Int))
theorem gQ (s:List UInt8) (i:Nat):(cols s i).length=66:=by unfold cols; rw[List.length_map,List.length_range]
theorem kZ {ls:List (List UInt8)} {i:Nat} (hi:i<ls.length) (hs:(ls.getD i default).length<1000000) (ch:List Mk1) (hc:ch.length<100000000): ∀(d j:Nat),j+d=66 →
  iter (g_x.b0 ls (i:Int)) (((7+j:Nat):Int),ch++(List.range j).map fun j=>((ls.getD i default).getD (6+j) 32,0,(i:Int),((7+j:Nat):Int)))=some (73,ch++cols (ls.getD i default) i)
 | 0,j,h=>by
  obtain rfl:j=66:=by omega
  exact ae (by unfold g_x.b0; rfl)
 | d+1,j,h=>by
  have key:g_x.b0 ls (i:Int) (((7+j:Nat):Int),ch++(List.range j).map fun j=>((ls.getD i default).getD (6+j) 32,0,(i:Int),((7+j:Nat):Int)))=some (.inl (((7+(j+1):Nat):Int),ch++(List.range (j+1)).map fun j=>((ls.getD i default).getD (6+j) 32,0,(i:Int),((7+j:Nat):Int)))):=by
   unfold g_x.b0
   simp only
   rw[if_pos (decide_eq_true (by omega)),if_pos ⟨by omega,by omega⟩,aQ]
   have hcol:g_s.f (ls.getD i default) ((7+j:Nat):Int)=some ((ls.getD i default).getD (6+j) 32):=by rw[show 7+j=(6+j)+1 by omega]; exact gN hs _
   rw[hcol,Option.bind_some,if_pos (by simp; omega),up1 (by omega),List.range_succ,List.map_append,List.append_assoc]
   rfl
  rw[ak key]
  exact kZ hi hs ch hc d (j+1) (by omega)
theorem sk {ls:List (List UInt8)} {i:Nat} (hi:i<ls.length) (hs:(ls.getD i default).length<1000000) {ch:List Mk1} (hc:ch.length<100000000):g_x.f ls ch (i:Int)=some (ch++cols (ls.getD i default) i):=by
 unfold g_x.f
 have h:=kZ hi hs ch hc 66 0 (by omega)
 have e:((7:Int),ch)=(((7+0:Nat):Int),ch++(List.range 0).map fun j=>((ls.getD i default).getD (6+j) 32,(0:Int),(i:Int),((7+j:Nat):Int))):=by simp
 rw[e,h]; rfl
def dv (c:UInt8):Int:=((c-48).toNat:Int)
theorem iy {c:UInt8} (h:dr c=true):dv c=(c.toNat:Int)-48∧0≤dv c∧dv c≤9:=by
 rw[sd] at h
 have:(c-48).toNat=c.toNat-48:=by
  rw[UInt8.toNat_sub_of_le]
  ·rfl
  ·show(48:UInt8).toNat≤c.toNat; exact h.1
 unfold dv
 rw[this]
 omega
theorem iQ {c:UInt8}:IntKind.i64.wrap (((c-48).toNat:Nat):Int)=dv c:=by
 have:=(c-48).toNat_lt
 show w64 _=_
 rw[co (by omega) (by omega)]; rfl
def lbK (s:List UInt8):Nat→Nat→Int→Nat→Option (Int×Nat)
 | 0,_,v,g=>some (v,g)
 | d+1,k,v,g=>if dr (s.getD k 32)=true then lbK s d (k+1) (10*v+dv (s.getD k 32)) (g+1) else if s.getD k 32=32 then lbK s d (k+1) v g else none
def lab (s:List UInt8):Int×Int:=match lbK s 5 0 0 0 with
 | none=>(0,7)
 | some (v,g)=>(v,if g=0∨0<v then 0 else 2)
theorem j0 {s:List UInt8} (hs:s.length<1000000): ∀(d k:Nat) (v:Int) (g:Nat),k+d=5→0≤v→v<10 ^ k→g≤k →
  ∃r,iter (g_1d.b0 s) (v,(g:Int),((k+1:Nat):Int))=some r∧match r with | .inl y=> ∃g':Nat,lbK s d k v g=some (y.1,g')∧y.2.1=(g':Int) | .inr e=>lbK s d k v g=none∧e=(0,7)
 | 0,k,v,g,h,h0,h1,hg=>⟨.inl (v,(g:Int),((k+1:Nat):Int)),ae (by unfold g_1d.b0; simp only; rw[if_neg (dn (by omega))]),g,rfl,rfl⟩
 | d+1,k,v,g,h,h0,h1,hg=>by
  have hp:(10:Int) ^ k≤10 ^ 5:=by
   have:(10:Nat) ^ k≤10 ^ 5:=Nat.pow_le_pow_right (by decide) (by omega)
   exact_mod_cast this
  have hp':(10:Int) ^ 5=100000:=by decide
  have key:g_1d.b0 s (v,(g:Int),((k+1:Nat):Int))=some (if dr (s.getD k 32)=true then .inl (10*v+dv (s.getD k 32),((g+1:Nat):Int),((k+1+1:Nat):Int)) else if s.getD k 32=32 then .inl (v,(g:Int),((k+1+1:Nat):Int)) else .inr (.inr (0,7))):=by
   unfold g_1d.b0
   simp only
   rw[if_pos (decide_eq_true (by omega)),gN hs,Option.bind_some,jT,Option.bind_some,up1 (n:=k+1) (by omega)]
   cases hd:dr (s.getD k 32)
   ·rw[if_neg (by decide),if_neg (c:=false=true) (by decide),fw]
    by_cases hb:s.getD k 32=32
    ·rw[decide_eq_true hb,if_pos hb]; rfl
    ·rw[decide_eq_false hb,if_neg hb]; rfl
   ·obtain⟨_,d1,d2⟩:=iy hd
    rw[if_pos rfl,if_pos rfl,iQ,co (x:=10*v) (by omega) (by omega),co (by omega) (by omega),up1 (n:=g) (by omega)]; rfl
  unfold lbK
  cases hd:dr (s.getD k 32)
  ·rw[hd,if_neg (by decide)] at key
   rw[if_neg (by decide)]
   by_cases hb:s.getD k 32=32
   ·rw[if_pos hb] at key ⊢
    obtain⟨r,r1,r2⟩:=j0 hs d (k+1) v g (by omega) h0 (by rw[Int.pow_succ]; omega) (by omega)
    exact⟨r,by rw[ak key]; exact r1,r2⟩
   ·rw[if_neg hb] at key ⊢
    exact⟨_,ae key,rfl,rfl⟩
  ·obtain⟨_,d1,d2⟩:=iy hd
   rw[hd,if_pos rfl] at key
   rw[if_pos rfl]
   obtain⟨r,r1,r2⟩:=j0 hs d (k+1) (10*v+dv (s.getD k 32)) (g+1) (by omega) (by omega) (by rw[Int.pow_succ]; omega) (by omega)
   exact⟨r,by rw[ak key]; exact r1,r2⟩
theorem qv {s:List UInt8} (hs:s.length<1000000): ∃v,g_1d.f s=some (v,(lab s).2)∧((lab s).2=0→v=(lab s).1):=by
 unfold g_1d.f lab
 obtain⟨r,r1,r2⟩:=j0 hs 5 0 0 0 rfl (Int.le_refl _) (by decide) (Nat.le_refl _)
 have r1':iter (g_1d.b0 s) (0,0,1)=some r:=r1
 rw[r1',Option.bind_some]
 cases r with
 | inr e =>
  obtain⟨q1,q2⟩:=r2
  rw[q1,q2]
  exact⟨0,rfl,fun _=>rfl⟩
 | inl y =>
  obtain⟨g',q1,q2⟩:=r2
  rw[q1]
  show ∃v,Option.bind (g_1k.f ((y.2.1==0)||decide (y.1>0)) 2) _=_∧_
  rw[eX,q2]
  simp only[Option.bind_some]
  refine⟨y.1,?_,fun _=>rfl⟩
  have e:((((g':Nat):Int)==0)||decide (y.1>0))=decide (g'=0∨0<y.1):=by
   rw[Bool.eq_iff_iff]; simp
  rw[e]
  by_cases h:g'=0∨0<y.1
  ·rw[if_pos (decide_eq_true h),if_pos h]
  ·rw[if_neg (dn h),if_neg h]
structure Fz where
 o:Bool
 b:Nat
 f:Nat
 lb:Int
 ch:List Mk1
 kd:List Int
 out:List ST
def fxE (x:Fz):Option (List ST):=if x.o=false then some x.out else if rt x.ch= [] then none else some (x.out++ [dl x.lb (rt x.ch)])
def goE (s:List UInt8) (x:Fz):Int:=if x.o=false then 9 else if bl (s.take 5)=false then 3 else if 19<x.f+1 then 8 else 0
def dO (s:List UInt8):Prop:=s.getD 5 32≠32∧s.getD 5 32≠48
instance (s:List UInt8):Decidable (dO s):=inferInstanceAs (Decidable (_∧_))
def fxL (s:List UInt8) (i:Nat) (x:Fz):Except (Nat×Int) Fz :=
 if cm s=true then .ok { x with kd:=x.kd++ [0] }
 else if dO s then
  if goE s x≠0 then .error (i,goE s x) else .ok { x with f:=x.f+1,ch:=x.ch++cols s i,kd:=x.kd++ [2] }
 else match fxE x with
  | none=> .error (x.b,17)
  | some out=>if(lab s).2≠0 then .error (i,(lab s).2) else .ok ⟨true,i,0,(lab s).1,cols s i,x.kd++ [1],out⟩
def fxR:List (List UInt8)→Nat→Fz→Except (Nat×Int) Fz
 | [],_,x=> .ok x
 | s::r,i,x=>match fxL s i x with
  | .error e=> .error e
  | .ok y=>fxR r (i+1) y
def fx0:Fz:=⟨false,0,0,0,[],[],[]⟩
def FX (ls:List (List UInt8)):Except (Nat×Int) (List Int×List ST):=match fxR ls 0 fx0 with
 | .error e=> .error e
 | .ok x=>match fxE x with
  | none=> .error (x.b,17)
  | some out=> .ok (x.kd,out)
structure FxI (x:Fz) (i:Nat):Prop where
 b:x.b≤i
 f:x.f≤19
 ch:x.ch.length≤66*(x.f+1)
 kd:x.kd.length≤i
 out:x.out.length≤i
theorem fxE_len {x:Fz} {o:List ST} (h:fxE x=some o):o.length≤x.out.length+1:=by
 unfold fxE at h
 split at h
 ·obtain rfl:=Option.some.inj h; omega
 ·split at h
  ·cases h
  ·obtain rfl:=Option.some.inj h; simp
theorem pf {s:List UInt8} {i:Nat} {x y:Fz} (h:FxI x i) (hy:fxL s i x= .ok y):FxI y (i+1):=by
 obtain⟨h1,h2,h3,h4,h5⟩:=h
 unfold fxL at hy
 split at hy
 ·obtain rfl:=Except.ok.inj hy
  exact⟨Nat.le_succ_of_le h1,h2,h3,by simp; omega,Nat.le_succ_of_le h5⟩
 ·split at hy
  ·split at hy
   ·cases hy
   ·rename_i hg
    obtain rfl:=Except.ok.inj hy
    have hf:x.f+1≤19:=by
     unfold goE at hg
     apply Decidable.byContradiction
     intro q
     apply hg
     split
     ·decide
     ·split
      ·decide
      ·rw[if_pos (by omega)]; decide
    exact⟨Nat.le_succ_of_le h1,hf,by simp only[List.length_append,gQ]; omega,by simp; omega,Nat.le_succ_of_le h5⟩
  ·split at hy
   ·cases hy
   ·rename_i o ho
    split at hy
    ·cases hy
    ·obtain rfl:=Except.ok.inj hy
     have:=fxE_len ho
     exact⟨by simp only; omega,by simp only; omega,by simp only[gQ]; omega,by simp; omega,by simp only; omega⟩
theorem end_f {x:Fz} {i:Nat} (h:FxI x i) (hi:i<1000): ∃y,g_u.f x.out x.o x.lb x.ch=some y∧match fxE x with | none=>y.1=17 | some o=>y.1=0∧y.2.2.2=o:=by
 have h3:=h.ch
 have h5:=h.out
 have h2:=h.f
 unfold g_u.f
 cases ho:x.o
 ·have e:fxE x=some x.out:=by unfold fxE; rw[ho,if_pos rfl]
  rw[e]
  exact⟨_,rfl,rfl,rfl⟩
 ·have e:fxE x=if rt x.ch= [] then none else some (x.out++ [dl x.lb (rt x.ch)]):=by unfold fxE; rw[ho,if_neg (by decide)]
  rw[e,if_neg (by decide),pc (by omega),Option.bind_some]
  have hr:=jX x.ch
  by_cases hz:rt x.ch= []
  ·rw[if_pos hz,hz]
   exact⟨_,rfl,rfl⟩
  ·have hz': ¬ (((rt x.ch).length:Int)==0)=true:=by simpa using hz
   rw[if_neg hz,if_neg hz',add_f (by omega) (by omega),Option.bind_some]
   exact⟨_,rfl,rfl,rfl⟩
theorem frst3 (a b c:Int):dk [a,b,c]=if a≠0 then a else if b≠0 then b else c:=by
 show(if a≠0 then a else dk [b,c])=_
 rw[frst2]
theorem sm {ls:List (List UInt8)} {i:Nat} (hi:i<ls.length) (hs:(ls.getD i default).length<1000) (h5:5≤(ls.getD i default).length) {x:Fz} (h:FxI x i) (hi':i<1000) :
  g_v.f ls x.kd x.o (x.f:Int) x.ch (i:Int)=some (goE (ls.getD i default) x,((x.f+1:Nat):Int),x.ch++cols (ls.getD i default) i,x.kd++ [2]):=by
 have h2:=h.f
 have h3:=h.ch
 have h4:=h.kd
 have hm:mid (ls.getD i default) (0:Int) 5=(ls.getD i default).take 5:=ew _ 5
 unfold g_v.f
 rw[if_pos (c:=0<ls.length) (by omega)]
 simp only[eX,Option.bind_some]
 rw[if_pos (c:=0≤(i:Int)∧(i:Int)<(ls.length:Int)) ⟨by omega,by omega⟩,aQ,if_pos ⟨by omega,by omega,by omega⟩,hm,fo (by rw[List.length_take]; omega),sk hi (by omega) (by omega),up1 (by omega)]
 simp only[eX,Option.bind_some]
 rw[dW (by show 3<1000; decide),frst3,Option.bind_some,if_pos (by simp; omega)]
 congr 2
 unfold goE
 cases x.o
 ·rfl
 ·cases bl ((ls.getD i default).take 5)
  ·rfl
  ·by_cases hf:19<x.f+1
   ·rw[if_neg (c:=decide _=true) (dn (by omega)),if_pos hf]; rfl
   ·rw[if_pos (c:=decide _=true) (decide_eq_true (by omega)),if_neg hf]; rfl
abbrev FxT:Type:=Int×Bool×Int×Int×Int×List Mk1×List Int×List ST
def mT (x:Fz) (i:Nat):FxT:=((i:Int),x.o,(x.b:Int),(x.f:Int),x.lb,x.ch,x.kd,x.out)
theorem fx_step {n:List UInt8} {ls:List (List UInt8)} (hF:Few n ls) {i:Nat} (hi:i<ls.length) {x:Fz} (h:FxI x i) :
  ∃r,g_w.b0 ls (mT x i)=some r∧match fxL (ls.getD i default) i x with | .ok y=>r= .inl (mT y (i+1)) | .error e=> ∃g,r= .inr (.inr ((e.1:Int),e.2,g))∧e.2≠0:=by
 have hs:=hF.at hi
 have hl:=hF.l
 have h4:=h.kd
 unfold g_w.b0 mT fxL
 simp only
 rw[if_pos (decide_eq_true (by omega)),if_pos ⟨by omega,by omega⟩,aQ,mQ (by omega),Option.bind_some,up1 (by omega)]
 cases hc:cm (ls.getD i default)
 ·rw[if_neg (by decide),if_neg (by decide)]
  have h6:g_s.f (ls.getD i default) 6=some ((ls.getD i default).getD 5 32):=gN (by omega) 5
  rw[h6,Option.bind_some,fw,fw]
  by_cases hm:dO (ls.getD i default)
  ·rw[if_pos (by rw[decide_eq_false hm.1,decide_eq_false hm.2]; rfl),if_pos hm]
   have h5:5≤(ls.getD i default).length:=by
    apply Decidable.byContradiction
    intro q
    apply hm.1
    rw[List.getD_eq_getElem?_getD,List.getElem?_eq_none (by omega)]; rfl
   rw[sm hi hs h5 h (by omega),Option.bind_some]
   simp only
   by_cases hg:goE (ls.getD i default) x=0
   ·rw[if_neg (by rw[hg]; decide),if_neg (c:=goE (ls.getD i default) x≠0) (fun q=>q hg)]
    exact⟨_,rfl,rfl⟩
   ·rw[if_pos (by simpa using hg),if_pos hg]
    exact⟨_,rfl,_,rfl,hg⟩
  ·rw[if_neg (by
    unfold dO at hm
    intro q
    rw[Bool.and_eq_true,Bool.not_eq_true',Bool.not_eq_true',decide_eq_false_iff_not,decide_eq_false_iff_not] at q
    exact hm q),if_neg hm]
   obtain⟨y,y1,y2⟩:=end_f h (by omega)
   rw[y1,Option.bind_some]
   cases ho:fxE x with
   | none =>
    rw[ho] at y2
    have y2:y.1=17:=y2
    rw[if_pos (by rw[y2]; decide)]
    exact⟨_,rfl,_,by rw[y2],by show(17:Int)≠0; decide⟩
   | some o =>
    rw[ho] at y2
    obtain⟨y2,y3⟩:=y2
    rw[if_neg (by rw[y2]; decide)]
    obtain⟨v,v1,v2⟩:=qv (s:=ls.getD i default) (by omega)
    rw[v1,Option.bind_some]
    simp only
    by_cases hz:(lab (ls.getD i default)).2=0
    ·rw[if_neg (by rw[hz]; decide),if_neg (c:=(lab (ls.getD i default)).2≠0) (fun q=>q hz),if_pos (by simp; omega),sk hi (by omega) (by simp),Option.bind_some]
     rw[v2 hz,y3]
     exact⟨_,rfl,rfl⟩
    ·rw[if_pos (by simpa using hz),if_pos hz]
     exact⟨_,rfl,_,rfl,hz⟩
 ·rw[if_pos rfl,if_pos rfl,if_pos (by simp; omega)]
  exact⟨_,rfl,rfl⟩
theorem pg {n:List UInt8} {ls:List (List UInt8)} (hF:Few n ls): ∀(d i:Nat) (x:Fz),i+d=ls.length→FxI x i →
  ∃r,iter (g_w.b0 ls) (mT x i)=some r∧match fxR (ls.drop i) i x with | .ok y=>r= .inl (mT y ls.length)∧FxI y ls.length | .error e=> ∃g,r= .inr ((e.1:Int),e.2,g)∧e.2≠0
 | 0,i,x,h,hI=>by
  obtain rfl:i=ls.length:=by omega
  refine⟨.inl (mT x ls.length),ae ?_,?_⟩
  ·unfold g_w.b0 mT
   simp only
   rw[if_neg (dn (by omega))]
  ·rw[List.drop_length]
   exact⟨rfl,hI⟩
 | d+1,i,x,h,hI=>by
  obtain⟨r,r1,r2⟩:=fx_step hF (i:=i) (by omega) hI
  rw[ay (show i<ls.length by omega)]
  unfold fxR
  cases hx:fxL (ls.getD i default) i x with
  | error e =>
   rw[hx] at r2
   obtain⟨g,rfl,hg⟩:=r2
   exact⟨_,ae r1,g,rfl,hg⟩
  | ok y =>
   rw[hx] at r2
   have r2:r= .inl (mT y (i+1)):=r2
   subst r2
   obtain⟨r',q1,q2⟩:=pg hF d (i+1) y (by omega) (pf hI hx)
   exact⟨r',by rw[ak r1]; exact q1,q2⟩
theorem mU {n:List UInt8} {ls:List (List UInt8)} (hF:Few n ls): ∃r,g_w.f ls [] [] false 0 0 0 []=some r∧match FX ls with | .error e=>r.1=(e.1:Int)∧r.2.1=e.2∧e.2≠0 | .ok y=>r.2.1=0∧r.2.2.2.2.2.2.2.1=y.1∧r.2.2.2.2.2.2.2.2=y.2:=by
 obtain⟨r,r1,r2⟩:=pg hF ls.length 0 fx0 (by omega) ⟨by decide,by decide,by decide,by decide,by decide⟩
 have r1':iter (g_w.b0 ls) (0,false,0,0,0,[],[],[])=some r:=r1
 unfold g_w.f
 rw[r1',Option.bind_some]
 rw[List.drop_zero] at r2
 cases hx:fxR ls 0 fx0 with
 | error e =>
  rw[hx] at r2
  obtain⟨g,rfl,hg⟩:=r2
  have eF:FX ls= .error e:=by unfold FX; rw[hx]
  rw[eF]
  exact⟨_,rfl,rfl,rfl,hg⟩
 | ok x =>
  rw[hx] at r2
  obtain⟨rfl,hI⟩:=r2
  obtain⟨y,y1,y2⟩:=end_f hI hF.l
  show ∃r,Option.bind (g_u.f x.out x.o x.lb x.ch) _=_∧_
  rw[y1,Option.bind_some]
  refine⟨_,rfl,?_⟩
  cases ho:fxE x with
  | none =>
   have eF:FX ls= .error (x.b,17):=by unfold FX; rw[hx]; simp only[ho]
   rw[ho] at y2
   rw[eF]
   exact⟨rfl,y2,by show(17:Int)≠0; decide⟩
  | some o =>
   have eF:FX ls= .ok (x.kd,o):=by unfold FX; rw[hx]; simp only[ho]
   rw[ho] at y2
   rw[eF]
   exact⟨y2.1,rfl,y2.2⟩
end Go.Proofs.YtjcbhbncncbdjaaGreatDoorAi
namespace Go.Proofs.YtjcbhbncncbdjaaGreatDoorAi
open Go Go.RowKit
set_option linter.unusedVariables false
set_option linter.unusedSimpArgs false
theorem nZ (a b c d e v:Int):g_15.f a b c d e 0 v=some (if a=0 then v else a,b,c,d,e):=by
 unfold g_15.f
 by_cases h:a=0
 ·subst h; rfl
 ·have:(a==0)=false:=by simpa using h
  rw[if_neg h]; simp[this]
theorem wrong1 (a b c d e v:Int):g_15.f a b c d e 1 v=some (a,if b=0 then v else b,c,d,e):=by
 unfold g_15.f
 by_cases h:b=0
 ·subst h; rfl
 ·have:(b==0)=false:=by simpa using h
  rw[if_neg h]; simp[this]
theorem wrong2 (a b c d e v:Int):g_15.f a b c d e 2 v=some (a,b,if c=0 then v else c,d,e):=by
 unfold g_15.f
 by_cases h:c=0
 ·subst h; rfl
 ·have:(c==0)=false:=by simpa using h
  rw[if_neg h]; simp[this]
theorem wrong3 (a b c d e v:Int):g_15.f a b c d e 3 v=some (a,b,c,if d=0 then v else d,e):=by
 unfold g_15.f
 by_cases h:d=0
 ·subst h; rfl
 ·have:(d==0)=false:=by simpa using h
  rw[if_neg h]; simp[this]
theorem sn (a b c d e v:Int):g_15.f a b c d e 4 v=some (a,b,c,d,if e=0 then v else e):=by
 unfold g_15.f
 by_cases h:e=0
 ·subst h; rfl
 ·have:(e==0)=false:=by simpa using h
  rw[if_neg h]; simp[this]
def dgs:List Mk1→Nat
 | []=>0
 | m::l=>if dr m.1=true then dgs l+1 else 0
theorem n6: ∀l:List Mk1,dgs l≤l.length
 | []=>Nat.le_refl _
 | m::l=>by
  unfold dgs
  have:=n6 l
  split
  ·simp; omega
  ·omega
theorem mV {l:List Mk1} (hl:l.length<1000000): ∀(d k:Nat),k+d=l.length→iter (g_11.b0 l) (k:Int)=some ((k+dgs (l.drop k):Nat):Int)
 | 0,k,h=>by
  rw[show k=l.length by omega,List.drop_length]
  exact ae (by unfold g_11.b0; rw[if_neg (dn (by omega))]; rfl)
 | d+1,k,h=>by
  have key:g_11.b0 l (k:Int)=some (if dr (l.getD k default).1=true then .inl ((k+1:Nat):Int) else .inr (k:Int)):=by
   unfold g_11.b0
   rw[if_pos (decide_eq_true (by omega)),if_pos ⟨by omega,by omega⟩,aQ,jT,up1 (by omega)]
   cases dr (l.getD k default).1<;>rfl
  rw[ay (show k<l.length by omega)]
  unfold dgs
  cases hd:dr (l.getD k default).1
  ·rw[hd] at key
   rw[ae key]; rfl
  ·rw[hd] at key
   rw[ak key,if_pos rfl,mV hl d (k+1) (by omega)]
   congr 2; omega
theorem iR: ∀(l:List Mk1) (k:Nat),k<dgs l→dr (l.getD k default).1=true
 | [],k,h=>absurd h (by unfold dgs; omega)
 | m::l,k,h=>by
  unfold dgs at h
  split at h
  ·rename_i hm
   cases k with
   | zero=>exact hm
   | succ k=>exact iR l k (by omega)
  ·omega
def vlD:List Mk1→Int→Int
 | [],v=>v
 | m::l,v=>vlD l (10*v+dv m.1)
theorem sp {y9:List Mk1} {n:Nat} (hn:n≤5) (hle:n≤y9.length) (hd: ∀k,k<n→dr (y9.getD k default).1=true): ∀(d k:Nat) (v:Int),k+d=n→0≤v→v<10 ^ k →
  iter (g_11.b1 y9 (n:Int)) (v,(k:Int))=some (vlD ((y9.take n).drop k) v,(n:Int)):=by
 have hm:mid y9 (0:Int) (n:Int)=y9.take n:=ew _ n
 have hlen:(y9.take n).length=n:=by rw[List.length_take]; omega
 intro d
 induction d with
 | zero =>
  intro k v h _ _
  rw[show k=n by omega]
  refine ae ?_
  unfold g_11.b1
  simp only
  rw[hm,hlen,if_neg (dn (by omega)),List.drop_eq_nil_of_le (by omega)]; rfl
 | succ d ih =>
  intro k v h h0 h1
  have hk:k<(y9.take n).length:=by omega
  have hp:(10:Int) ^ k≤10 ^ 5:=by
   have:(10:Nat) ^ k≤10 ^ 5:=Nat.pow_le_pow_right (by decide) (by omega)
   exact_mod_cast this
  have hp':(10:Int) ^ 5=100000:=by decide
  have eg:(y9.take n).getD k default=y9.getD k default:=by
   rw[List.getD_eq_getElem?_getD,List.getElem?_take,if_pos (by omega),List.getD_eq_getElem?_getD]
  obtain⟨_,d1,d2⟩:=iy (hd k (by omega))
  have key:g_11.b1 y9 (n:Int) (v,(k:Int))=some (.inl (10*v+dv (y9.getD k default).1,((k+1:Nat):Int))):=by
   unfold g_11.b1
   simp only
   rw[hm,hlen,if_pos (decide_eq_true (by omega)),if_pos ⟨by omega,by omega⟩,aQ,eg,iQ,co (x:=10*v) (by omega) (by omega),co (by omega) (by omega),up1 (by omega)]
  rw[ak key,ih (k+1) _ (by omega) (by omega) (by rw[Int.pow_succ]; omega)]
  conv=>rhs; rw[ay hk,eg]
  rfl
def enL (ch:List Mk1):Int×List Mk1×Int :=
 let l:=rt (lf ch)
 if 1≤dgs l∧dgs l≤5∧dgs l<l.length∧(l.getD (dgs l) default).1=32 then(vlD (l.take (dgs l)) 0,lf (l.drop (dgs l)),if vlD (l.take (dgs l)) 0=0 then 2 else 0) else(0,l,0)
def enE (ch:List Mk1):Int:=if(enL ch).2.2≠0 then(enL ch).2.2 else if 1320<(enL ch).2.1.length then 8 else 0
def enO (ch:List Mk1) (out:List ST):List ST:=if(enL ch).2.1= [] then out else out++ [dl (enL ch).1 (enL ch).2.1]
theorem enL_len (ch:List Mk1):(enL ch).2.1.length≤ch.length:=by
 have h1:=jX (lf ch)
 have h2:=jY ch
 unfold enL
 simp only
 split
 ·have h3:=jY ((rt (lf ch)).drop (dgs (rt (lf ch))))
  rw[List.length_drop] at h3
  simp only; omega
 ·simp only; omega
theorem ph (ch:List Mk1) (out:List ST):(enO ch out).length≤out.length+1:=by
 unfold enO
 split
 ·omega
 ·simp
theorem n7 {ch:List Mk1} (hc:ch.length<1000000) {out:List ST} (ho:out.length<900000000) (a b c d e:Int) :
  g_11.f out ch a b c d e=some ([],0,a,b,c,d,if e≠0 then e else enE ch,enO ch out):=by
 have h1:=jX (lf ch)
 have h2:=jY ch
 have hL: ∃e',g_11.f out ch a b c d e=(if(((enL ch).2.1.length:Int)==0)=true then some ([],0,a,b,c,d,e',out) else Option.bind (if(decide (((enL ch).2.1.length:Int)>1320))=true then some (a,b,c,d,if e'=0 then 8 else e') else some (a,b,c,d,e')) fun z91=>Option.bind (g_1j.f out (enL ch).1 (enL ch).2.1) fun y95=>some ([],0,z91.1,z91.2.1,z91.2.2.1,z91.2.2.2.1,z91.2.2.2.2,y95))∧e'=if e≠0 then e else(enL ch).2.2:=by
  unfold g_11.f enL
  rw[nY,Option.bind_some,pc (by omega),Option.bind_some]
  have hd:=mV (l:=rt (lf ch)) (by omega) (rt (lf ch)).length 0 (by omega)
  rw[List.drop_zero,Nat.zero_add] at hd
  have hd':iter (g_11.b0 (rt (lf ch))) 0=some ((dgs (rt (lf ch)):Nat):Int):=hd
  rw[hd',Option.bind_some]
  have hdl:=n6 (rt (lf ch))
  generalize hl:rt (lf ch)=l at *
  simp only
  have hw:g_1l.f ((dgs l:Nat):Int) 1 5=some (decide (1≤dgs l)&&decide (dgs l≤5)):=by
   unfold g_1l.f
   congr 1
   congr 1
   ·exact decide_eq_decide.2 (by omega)
   ·exact decide_eq_decide.2 (by omega)
  rw[hw,Option.bind_some]
  have hcond:Option.bind (if((decide (1≤dgs l)&&decide (dgs l≤5))&&decide (((dgs l:Nat):Int)<(l.length:Int)))=true then(if 0≤((dgs l:Nat):Int)∧((dgs l:Nat):Int)<(l.length:Int) then some ((((gt l ((dgs l:Nat):Int)).1).toNat:Int)==((32:UInt8).toNat:Int)) else none) else some false) (fun z=>some z)=some (decide (1≤dgs l∧dgs l≤5∧dgs l<l.length∧(l.getD (dgs l) default).1=32)):=by
   by_cases g1:1≤dgs l∧dgs l≤5∧dgs l<l.length
   ·rw[if_pos (by rw[Bool.and_eq_true,Bool.and_eq_true,decide_eq_true_eq,decide_eq_true_eq,decide_eq_true_eq]; exact⟨⟨g1.1,g1.2.1⟩,by omega⟩),if_pos ⟨by omega,by omega⟩,aQ,cX,Option.bind_some]
    congr 1
    exact decide_eq_decide.2 ⟨fun q=>⟨g1.1,g1.2.1,g1.2.2,q⟩,fun q=>q.2.2.2⟩
   ·rw[if_neg (by rw[Bool.and_eq_true,Bool.and_eq_true,decide_eq_true_eq,decide_eq_true_eq,decide_eq_true_eq]; intro q; exact g1 ⟨q.1.1,q.1.2,by omega⟩),decide_eq_false (fun q=>g1 ⟨q.1,q.2.1,q.2.2.1⟩)]; rfl
  have hc2:=Option.bind_eq_some_iff.1 hcond
  obtain⟨z,z1,z2⟩:=hc2
  obtain rfl:=Option.some.inj z2
  rw[z1,Option.bind_some]
  by_cases g:1≤dgs l∧dgs l≤5∧dgs l<l.length∧(l.getD (dgs l) default).1=32
  ·have hv:=sp (y9:=l) (n:=dgs l) g.2.1 hdl (iR l) (dgs l) 0 0 (by omega) (Int.le_refl _) (by decide)
   rw[List.drop_zero] at hv
   have hv':iter (g_11.b1 l ((dgs l:Nat):Int)) (0,0)=some (vlD (l.take (dgs l)) 0,((dgs l:Nat):Int)):=hv
   rw[if_pos (decide_eq_true g),if_pos g,if_pos ⟨by omega,by omega,by omega⟩,hv',Option.bind_some,cO]
   simp only[sn,nY,Option.bind_some]
   by_cases hz:vlD (l.take (dgs l)) 0=0
   ·rw[if_pos (by rw[hz]; rfl),if_pos hz,Option.bind_some,if_pos ⟨by omega,by omega,by omega⟩]
    refine⟨if e=0 then 2 else e,rfl,?_⟩
    by_cases he:e=0
    ·rw[if_pos he,if_neg (fun q=>q he)]
    ·rw[if_neg he,if_pos he]
   ·rw[if_neg (by simpa using hz),if_neg hz,Option.bind_some,if_pos ⟨by omega,by omega,by omega⟩]
    refine⟨e,rfl,?_⟩
    by_cases he:e=0
    ·rw[if_neg (fun q=>q he),he]
    ·rw[if_pos he]
  ·rw[if_neg (dn g),if_neg g]
   simp only[sn,Option.bind_some]
   refine⟨e,rfl,?_⟩
   by_cases he:e=0
   ·rw[if_neg (fun q=>q he),he]
   ·rw[if_pos he]
 obtain⟨e',h3,h4⟩:=hL
 rw[h3]
 have hlen:=enL_len ch
 unfold enO enE
 by_cases hz:(enL ch).2.1= []
 ·rw[if_pos (by rw[hz]; rfl),if_pos hz,h4,hz]
  by_cases he:e=0
  ·rw[if_neg (fun q=>q he),if_neg (fun q=>q he)]
   by_cases h5:(enL ch).2.2=0
   ·rw[if_neg (fun q=>q h5),h5]; rfl
   ·rw[if_pos h5]
  ·rw[if_pos he,if_pos he]
 ·have hz': ¬ (((enL ch).2.1.length:Int)==0)=true:=by simpa using hz
  rw[if_neg hz',if_neg hz,add_f ho (by omega)]
  by_cases h6:1320<(enL ch).2.1.length
  ·rw[if_pos (decide_eq_true (by omega)),Option.bind_some,Option.bind_some,if_pos h6,h4]
   by_cases he:e=0<;>by_cases h5:(enL ch).2.2=0<;>simp[he,h5]
  ·rw[if_neg (dn (by omega)),Option.bind_some,Option.bind_some,if_neg h6,h4]
   by_cases he:e=0<;>by_cases h5:(enL ch).2.2=0<;>simp[he,h5]
structure Rw where
 ch:List Mk1
 q:UInt8
 f:Nat
 st:Bool
 out:List ST
 e:Int
def j5 (x:Rw) (c:UInt8):Bool:=decide (c≠32)&&decide (lf x.ch= [])
def dP (x:Rw) (c:UInt8) (i a:Nat) (q:UInt8):Rw:=⟨(if j5 x c=true then [] else x.ch)++ [(c,0,(i:Int),((a+1:Nat):Int))],q,x.f,if j5 x c=true then true else x.st,x.out,x.e⟩
def dm (x:Rw):Rw:=⟨[],x.q,0,x.st,enO x.ch x.out,if x.e≠0 then x.e else enE x.ch⟩
def isQ (c:UInt8):Bool:=decide (c=39)||decide (c=34)
def kq (r:List UInt8):Bool:=decide (ltr r= [])||decide ((ltr r).getD 0 default=33)
def cv (i:Nat):List UInt8→Nat→Rw→Rw×Bool×Bool
 | [],_,x=>(x,false,false)
 | c::r,a,x =>
  if x.q≠0 then
   if c=38∧bl r=true then(x,true,false) else cv i r (a+1) (dP x c i a (if c=x.q then 0 else x.q))
  else if c=33 then(x,false,false)
  else if c=59 then cv i r (a+1) (dm x)
  else if c=38 then(if kq r=true then(x,true,false) else(x,false,true))
  else cv i r (a+1) (dP x c i a (if isQ c=true then c else 0))
structure RwI (x:Rw) (i a:Nat):Prop where
 ch:x.ch.length≤1000*i+a
 out:x.out.length≤1001*i+a
 f:x.f≤1000
theorem put_f {ls:List (List UInt8)} {i a:Nat} (hi:i<ls.length) (ha:a<(ls.getD i default).length) (ha':a<1000) (hi':i<1000) {x:Rw} (h:RwI x i a) (q:UInt8) :
  g_13.f ls x.ch x.st (i:Int) (a:Int)=some ((dP x ((ls.getD i default).getD a default) i a q).ch,(dP x ((ls.getD i default).getD a default) i a q).st):=by
 have hc:=h.ch
 unfold g_13.f dP j5
 rw[if_pos ⟨by omega,by omega⟩,aQ,if_pos ⟨by omega,by omega⟩,aQ,fw,up1 (by omega),nY]
 by_cases h1:(ls.getD i default).getD a default=32
 ·rw[decide_eq_true h1,if_neg (by decide),Option.bind_some,if_pos (by simp; omega),decide_eq_false (by simpa using h1),Bool.false_and]; rfl
 ·rw[decide_eq_false h1,if_pos (by decide),Option.bind_some,decide_eq_true h1,Bool.true_and]
  by_cases h2:lf x.ch= []
  ·rw[h2]; rfl
  ·have h2': ¬ (((lf x.ch).length:Int)==0)=true:=by simpa using h2
   rw[if_neg h2',Option.bind_some,if_pos (by simp; omega),decide_eq_false h2]; rfl
theorem mW {x:Rw} {i a:Nat} (h:RwI x i a) (c q:UInt8):RwI (dP x c i a q) i (a+1):=by
 obtain⟨h1,h2,h3⟩:=h
 refine⟨?_,by unfold dP; simp only; omega,h3⟩
 unfold dP
 simp only[List.length_append,List.length_cons,List.length_nil]
 split
 ·simp only[List.length_nil]; omega
 ·omega
theorem mX {x:Rw} {i a:Nat} (h:RwI x i a):RwI (dm x) i (a+1):=by
 obtain⟨h1,h2,h3⟩:=h
 have:=ph x.ch x.out
 exact⟨by unfold dm; simp,by unfold dm; simp only; omega,by unfold dm; simp⟩
end Go.Proofs.YtjcbhbncncbdjaaGreatDoorAi
namespace Go.Proofs.YtjcbhbncncbdjaaGreatDoorAi
open Go Go.RowKit
set_option linter.unusedVariables false
set_option linter.unusedSimpArgs false
abbrev LnT:Type:=Int×List Mk1×UInt8×Bool×Int×Bool×Int×Int×Int×Int×Int×List ST
def gR (x:Rw) (a:Nat) (g:Bool) (e0 e1 e2 e3:Int):LnT:=((a:Int),x.ch,x.q,g,(x.f:Int),x.st,e0,e1,e2,e3,x.e,x.out)
theorem nxt_f (r:List UInt8):(if decide (ltr r= [])=true then some true else(if 0≤(0:Int)∧(0:Int)<((ltr r).length:Int) then some (((gt (ltr r) (0:Int)).toNat:Int)==((33:UInt8).toNat:Int)) else none))=some (kq r):=by
 unfold kq
 cases h:ltr r with
 | nil=>rfl
 | cons c l =>
  rw[if_neg (by simp),if_pos ⟨Int.le_refl _,by simp⟩,show(0:Int)=((0:Nat):Int) from rfl,aQ,cX]; rfl
theorem qw {ls:List (List UInt8)} {i a:Nat} (hi:i<ls.length) (hi':i<1000) (hs:(ls.getD i default).length<1000) (ha:a<(ls.getD i default).length) {x:Rw} (h:RwI x i a) (e0 e2 e3:Int) :
  g_12.b0 ls (i:Int) (gR x a false e0 0 e2 e3)=some (
   let c:=(ls.getD i default).getD a default
   let r:=(ls.getD i default).drop (a+1)
   if x.q≠0 then
    if c=38∧bl r=true then .inr (gR x a true e0 0 e2 e3) else .inl (gR (dP x c i a (if c=x.q then 0 else x.q)) (a+1) false e0 0 e2 e3)
   else if c=33 then .inr (gR x a false e0 0 e2 e3)
   else if c=59 then .inl (gR (dm x) (a+1) false e0 0 e2 e3)
   else if c=38 then(if kq r=true then .inr (gR x a true e0 0 e2 e3) else .inr (gR x a false e0 7 e2 e3))
   else .inl (gR (dP x c i a (if isQ c=true then c else 0)) (a+1) false e0 0 e2 e3)):=by
 have hch:=h.ch
 have hout:=h.out
 unfold g_12.b0 gR g_10.f
 simp only
 rw[aQ,if_pos (decide_eq_true (by omega)),if_pos ⟨by omega,by omega⟩,if_pos ⟨by omega,by omega⟩,up1 (by omega),if_pos ⟨by omega,by omega,Int.le_refl _⟩,aQ,cO]
 have hp:=fun q=>put_f hi ha (by omega) hi' h q
 have hb:g_16.f ((ls.getD i default).drop (a+1))=some (bl ((ls.getD i default).drop (a+1))):=fo (by rw[List.length_drop]; omega)
 generalize hc:(ls.getD i default).getD a default=c at *
 generalize hr:(ls.getD i default).drop (a+1)=r at *
 by_cases hq:x.q=0
 ·have hq2: ¬ (x.q≠0):=fun k=>k hq
  rw[fw,decide_eq_true hq,if_neg (by decide),if_neg hq2,cX,cX,cX]
  by_cases h33:c=33
  ·rw[decide_eq_true h33,if_pos rfl,if_pos h33]; rfl
  ·rw[decide_eq_false h33,if_neg (by decide),if_neg h33]
   by_cases h59:c=59
   ·rw[decide_eq_true h59,if_pos rfl,if_pos h59,n7 (by omega) (by omega)]
    rfl
   ·rw[decide_eq_false h59,if_neg (by decide),if_neg h59]
    by_cases h38:c=38
    ·rw[decide_eq_true h38,if_pos rfl,if_pos h38,jV,Option.bind_some,nxt_f,Option.bind_some]
     cases kq r
     ·rw[if_neg (by decide),wrong1,Option.bind_some]; rfl
     ·rfl
    ·rw[decide_eq_false h38,if_neg (by decide),if_neg h38,hp (if isQ c=true then c else 0),Option.bind_some]
     unfold g_1a.f
     rw[cX,cX,Option.bind_some]
     show Option.bind (if isQ c=true then _ else _) _=_
     cases isQ c
     ·simp only[Bool.false_eq_true,if_false,Option.bind_some,if_true]
      rw[hq]; rfl
     ·rfl
 ·rw[fw,decide_eq_false hq,if_pos (by decide),if_pos hq,cX,cX]
  by_cases h38:c=38
  ·rw[decide_eq_true h38,if_pos rfl,hb,Option.bind_some,Option.bind_some]
   cases bl r
   ·rw[if_neg (by decide),if_neg (fun k=>by cases k.2),hp (if c=x.q then 0 else x.q),Option.bind_some]
    by_cases h5:c=x.q
    ·rw[decide_eq_true h5,if_pos rfl,Option.bind_some,if_pos rfl]
     rw[if_pos h5]; rfl
    ·rw[decide_eq_false h5,if_neg (by decide),Option.bind_some,if_pos rfl]
     rw[if_neg h5]; rfl
   ·rw[if_pos rfl,if_pos ⟨h38,rfl⟩]; rfl
  ·rw[decide_eq_false h38,if_neg (by decide),Option.bind_some,if_neg (by decide),if_neg (fun k=>h38 k.1),hp (if c=x.q then 0 else x.q),Option.bind_some]
   by_cases h5:c=x.q
   ·rw[decide_eq_true h5,if_pos rfl,Option.bind_some,if_pos rfl]
    rw[if_pos h5]; rfl
   ·rw[decide_eq_false h5,if_neg (by decide),Option.bind_some,if_pos rfl]
    rw[if_neg h5]; rfl
theorem k9 {ls:List (List UInt8)} {i:Nat} (hi:i<ls.length) (hi':i<1000) (hs:(ls.getD i default).length<1000) (e0 e2 e3:Int): ∀(d a:Nat) (x:Rw),a+d=(ls.getD i default).length→RwI x i a →
  ∃a',iter (g_12.b0 ls (i:Int)) (gR x a false e0 0 e2 e3)=some (gR (cv i ((ls.getD i default).drop a) a x).1 a' (cv i ((ls.getD i default).drop a) a x).2.1 e0 (if(cv i ((ls.getD i default).drop a) a x).2.2=true then 7 else 0) e2 e3)∧RwI (cv i ((ls.getD i default).drop a) a x).1 i (ls.getD i default).length
 | 0,a,x,h,hI=>by
  rw[List.drop_eq_nil_of_le (by omega)]
  refine⟨a,ae ?_,by unfold cv; simp only; rw[show a=(ls.getD i default).length by omega] at hI; exact hI⟩
  unfold g_12.b0 gR cv
  simp only
  rw[aQ,if_neg (dn (by omega))]; rfl
 | d+1,a,x,h,hI=>by
  have key:=qw hi hi' hs (a:=a) (by omega) hI e0 e2 e3
  simp only at key
  have hup: ∀{y:Rw},RwI y i a→RwI y i (ls.getD i default).length:=fun q=>⟨by have:=q.ch; omega,by have:=q.out; omega,q.f⟩
  rw[ay (show a<(ls.getD i default).length by omega)]
  generalize hc:(ls.getD i default).getD a default=c at *
  have ih:=fun y (hy:RwI y i (a+1))=>k9 hi hi' hs e0 e2 e3 d (a+1) y (by omega) hy
  unfold cv
  by_cases hq:x.q=0
  ·have hq2: ¬ (x.q≠0):=fun k=>k hq
   rw[if_neg hq2] at key ⊢
   by_cases h33:c=33
   ·rw[if_pos h33] at key ⊢
    exact⟨a,ae key,hup hI⟩
   ·rw[if_neg h33] at key ⊢
    by_cases h59:c=59
    ·rw[if_pos h59] at key ⊢
     obtain⟨a',i1,i2⟩:=ih _ (mX hI)
     exact⟨a',by rw[ak key]; exact i1,i2⟩
    ·rw[if_neg h59] at key ⊢
     by_cases h38:c=38
     ·rw[if_pos h38] at key ⊢
      cases hn:kq ((ls.getD i default).drop (a+1))
      ·rw[hn,if_neg (by decide)] at key
       rw[if_neg (by decide)]
       exact⟨a,ae key,hup hI⟩
      ·rw[hn,if_pos rfl] at key
       rw[if_pos rfl]
       exact⟨a,ae key,hup hI⟩
     ·rw[if_neg h38] at key ⊢
      obtain⟨a',i1,i2⟩:=ih _ (mW hI c (if isQ c=true then c else 0))
      exact⟨a',by rw[ak key]; exact i1,i2⟩
  ·rw[if_pos hq] at key ⊢
   by_cases hb:c=38∧bl ((ls.getD i default).drop (a+1))=true
   ·rw[if_pos hb] at key ⊢
    exact⟨a,ae key,hup hI⟩
   ·rw[if_neg hb] at key ⊢
    obtain⟨a',i1,i2⟩:=ih _ (mW hI c (if c=x.q then 0 else x.q))
    exact⟨a',by rw[ak key]; exact i1,i2⟩
theorem pi {s:List UInt8} (hs:s.all (shw 32)=true): ∀(d k:Nat),k+d=s.length→(s.take k).all (· == 32)=true →
  ∃r,iter (g_1s.b0 s true) k=some r∧(match r with | .inl _=>(-1:Int) | .inr e=>e)=if ltr s= [] then -1 else((s.length-(ltr s).length:Nat):Int)
 | 0,k,h,hb=>by
  refine⟨.inl k,ae (by unfold g_1s.b0; rw[if_neg (dn (by omega))]),?_⟩
  rw[show k=s.length by omega,List.take_length] at hb
  have:ltr s= []:=ga.2 (List.all_eq_true.1 hb)
  rw[if_pos this]
 | d+1,k,h,hb=>by
  have hk:k<s.length:=by omega
  have h128:(s.getD k default).toNat<128:=by
   have:=(List.all_eq_true.1 hs) (s.getD k default) (by rw[List.getD_eq_getElem?_getD,List.getElem?_eq_getElem hk]; exact List.getElem_mem hk)
   unfold shw at this
   rw[Bool.and_eq_true,decide_eq_true_eq,decide_eq_true_eq] at this
   omega
  have key:g_1s.b0 s true k=some (if s.getD k default=32 then .inl (k+1) else .inr (.inr (k:Int))):=by
   unfold g_1s.b0 g_z.f
   rw[if_pos (decide_eq_true hk),se h128,Option.bind_some]
   by_cases h0:s.getD k default=32
   ·rw[if_pos h0,h0]; rfl
   ·rw[if_neg h0]
    have:(((s.getD k default).toNat:Int) != 32)=true:=by
     rw[bne_iff_ne]
     intro q
     exact h0 (UInt8.toNat_inj.1 (by show(s.getD k default).toNat=32; omega))
    rw[this]; rfl
  have et:s.take (k+1)=s.take k++ [s.getD k default]:=by
   rw[List.take_succ_eq_append_getElem hk,List.getD_eq_getElem?_getD,List.getElem?_eq_getElem hk]; rfl
  by_cases h0:s.getD k default=32
  ·rw[if_pos h0] at key
   obtain⟨r,r1,r2⟩:=pi hs d (k+1) (by omega) (by rw[et,List.all_append,hb,h0]; rfl)
   exact⟨r,by rw[ak key]; exact r1,r2⟩
  ·rw[if_neg h0] at key
   refine⟨_,ae key,?_⟩
   have e1:ltr s=s.drop k:=by
    conv=>lhs; rw[← List.take_append_drop k s]
    unfold ltr
    rw[List.dropWhile_append_of_pos (fun x hx=>(List.all_eq_true.1 hb) x hx),ay hk,List.dropWhile_cons,if_neg (by simpa using h0)]
   have e2:ltr s≠ []:=by rw[e1]; intro q; have:=congrArg List.length q; rw[List.length_drop] at this; simp at this; omega
   rw[if_neg e2,e1,List.length_drop]
   show(k:Int)=_
   omega
theorem idx2_f {s:List UInt8} (hs:s.all (shw 32)=true):g_1p.f s=some (if ltr s= [] then -1 else((s.length-(ltr s).length:Nat):Int)):=by
 unfold g_1p.f g_1s.f
 obtain⟨r,r1,r2⟩:=pi hs s.length 0 (by omega) rfl
 rw[r1,Option.bind_some,← r2]
 cases r<;>rfl
theorem gS (s:List UInt8):ltr s=s.drop (s.length-(ltr s).length):=by
 have: ∀l:List UInt8,∃a,l=a++ltr l:=fun l=>by
  induction l with
  | nil=>exact⟨[],rfl⟩
  | cons c l ih =>
   obtain⟨a,ha⟩:=ih
   unfold ltr
   rw[List.dropWhile_cons]
   split
   ·exact⟨c::a,by show c::l=c::(a++ltr l); rw[← ha]⟩
   ·exact⟨[],rfl⟩
 obtain⟨a,ha⟩:=this s
 conv=>rhs; rw[ha]
 rw[List.length_append,show a.length+(ltr s).length-(ltr (a++ltr s)).length=a.length by rw[← ha]; omega]
 simp
def bgM (s:List UInt8):Bool:=decide (ltr s≠ [])&&decide ((ltr s).getD 0 default=38)
def bgA (s:List UInt8):Nat:=if bgM s=true then s.length-(ltr s).length+1 else 0
def bgE (s:List UInt8) (q:UInt8):Int:=if bgM s=true then(if bl ((ltr s).drop 1)=true then 3 else 0) else if q≠0 then 3 else 0
theorem begin_f {s:List UInt8} (hs:s.all (shw 32)=true) (hl:s.length<1000) (q:UInt8) (b c d e:Int):g_y.f q 0 b c d e s=some ((bgA s:Int),bgE s q,b,c,d,e):=by
 have hle:(ltr s).length≤s.length:=eZ _ _
 unfold g_y.f bgA bgE
 rw[idx2_f hs,Option.bind_some]
 cases hz:ltr s with
 | nil =>
  have hm:bgM s=false:=by unfold bgM; rw[hz]; rfl
  rw[hm,if_pos rfl,if_pos (by decide),Option.bind_some,if_pos rfl,fw,if_neg (c:=false=true) (by decide),if_neg (c:=false=true) (by decide)]
  by_cases hq:q=0
  ·rw[decide_eq_true hq,if_neg (by decide),if_neg (fun k=>k hq)]; rfl
  ·rw[decide_eq_false hq,if_pos (by decide),nZ,if_pos hq]; rfl
 | cons c0 l0 =>
  rw[hz] at hle
  have hn:s.length-(c0::l0).length<s.length:=by simp at hle ⊢; omega
  have eg:gt s ((s.length-(c0::l0).length:Nat):Int)=c0:=by
   rw[aQ]
   have:=gS s
   rw[hz] at this
   have h2:=ay hn
   rw[← this] at h2
   exact(List.cons.inj h2).1.symm
  have er:s.drop (s.length-(c0::l0).length+1)=l0:=by
   have:=gS s
   rw[hz] at this
   have h2:=ay hn
   rw[← this] at h2
   exact(List.cons.inj h2).2.symm
  have hm:bgM s=decide (c0=38):=by unfold bgM; rw[hz]; simp
  have hne: ¬ (c0::l0= []):=by simp
  simp only[if_neg hne]
  rw[if_neg (dn (by omega)),if_pos ⟨by omega,by omega⟩,eg,fw,Option.bind_some,hm]
  by_cases h38:c0=38
  ·rw[decide_eq_true h38,if_neg (by decide),if_pos (c:=true=true) rfl,if_pos (c:=true=true) rfl,up1 (by omega),if_pos ⟨by omega,by omega,Int.le_refl _⟩,cO,er,fo (by simp at hle; omega),Option.bind_some]
   have:(c0::l0).drop 1=l0:=rfl
   rw[this]
   cases bl l0
   ·rfl
   ·rw[if_pos rfl,nZ]; rfl
  ·rw[decide_eq_false h38,if_pos (by decide),fw,if_neg (c:=false=true) (by decide),if_neg (c:=false=true) (by decide)]
   by_cases hq:q=0
   ·rw[decide_eq_true hq,if_neg (by decide),if_neg (fun k=>k hq)]; rfl
   ·rw[decide_eq_false hq,if_pos (by decide),nZ,if_pos hq]; rfl
end Go.Proofs.YtjcbhbncncbdjaaGreatDoorAi
namespace Go.Proofs.YtjcbhbncncbdjaaGreatDoorAi
open Go Go.RowKit
set_option linter.unusedVariables false
set_option linter.unusedSimpArgs false
structure Rd where
 ch:List Mk1
 q:UInt8
 go:Bool
 f:Nat
 st:Bool
 kd:List Int
 out:List ST
def skp (s:List UInt8) (q:UInt8):Bool:=decide (q=0)&&kq s
def lnA (s:List UInt8) (r:Rd):Nat:=if r.go=true then bgA s else 0
def lnF (r:Rd):Nat:=if r.go=true then r.f+1 else r.f
def lnP (s:List UInt8) (i:Nat) (r:Rd):Rw×Bool×Bool:=cv i (s.drop (lnA s r)) (lnA s r) ⟨r.ch,r.q,lnF r,false,r.out,0⟩
def lnX (s:List UInt8) (i:Nat) (r:Rd):Rw:=if(lnP s i r).2.1=true then(lnP s i r).1 else { dm (lnP s i r).1 with q:=0 }
def dY (s:List UInt8) (i:Nat) (r:Rd):List Int :=
 [if r.go=true then bgE s r.q else 0,if(lnP s i r).2.2=true then 7 else 0,if r.go=true∧39<r.f+1 then 8 else 0,if(lnP s i r).2.1=false∧(lnP s i r).1.q≠0 then 21 else 0,(lnX s i r).e]
def lnY (s:List UInt8) (i:Nat) (r:Rd):Rd:=⟨(lnX s i r).ch,(lnX s i r).q,(lnP s i r).2.1,(lnX s i r).f,(lnP s i r).1.st,r.kd++ [if(lnP s i r).1.st=true then 1 else 2],(lnX s i r).out⟩
def lnR (s:List UInt8) (i:Nat) (r:Rd):Except (Nat×Int) Rd :=
 if skp s r.q=true then .ok { r with kd:=r.kd++ [0] } else if dk (dY s i r)≠0 then .error (i,dk (dY s i r)) else .ok (lnY s i r)
def rdR:List (List UInt8)→Nat→Rd→Except (Nat×Int) Rd
 | [],_,x=> .ok x
 | s::l,i,x=>match lnR s i x with
  | .error e=> .error e
  | .ok y=>rdR l (i+1) y
def rd0:Rd:=⟨[],0,false,0,false,[],[]⟩
def FRd (ls:List (List UInt8)):Except (Nat×Int) (List Int×List ST):=match rdR ls 0 rd0 with
 | .error e=> .error e
 | .ok x=>if x.go=true then .error (ls.length-1,39) else .ok (x.kd,x.out)
structure RdI (x:Rd) (i:Nat):Prop where
 ch:x.ch.length≤1000*i
 out:x.out.length≤1001*i
 kd:x.kd.length≤i
 f:x.f≤39
theorem bgA_le (s:List UInt8):bgA s≤s.length:=by
 have hle:(ltr s).length≤s.length:=eZ _ _
 unfold bgA
 split
 ·rename_i h
  unfold bgM at h
  rw[Bool.and_eq_true,decide_eq_true_eq] at h
  have:(ltr s).length≠0:=fun q=>h.1 (List.eq_nil_of_length_eq_zero q)
  omega
 ·omega
theorem n8 (s:List UInt8) (r:Rd):lnA s r≤s.length:=by
 unfold lnA
 split
 ·exact bgA_le s
 ·omega
theorem skp_f (s:List UInt8) (q:UInt8):(if(((q.toNat:Int)==((0:UInt8).toNat:Int))=true) then Option.bind (if decide (ltr s= [])=true then some true else(if 0≤(0:Int)∧(0:Int)<((ltr s).length:Int) then some (((gt (ltr s) (0:Int)).toNat:Int)==((33:UInt8).toNat:Int)) else none)) fun z14=>some z14 else some false)=some (skp s q):=by
 rw[nxt_f,cX]
 unfold skp
 by_cases h:q=0
 ·rw[decide_eq_true h]; rfl
 ·rw[decide_eq_false h]; rfl
theorem ii: ∀l:List Int,dk l=0↔ ∀e∈l,e=0
 | []=>by simp[dk]
 | a::l=>by
  unfold dk
  by_cases h:a=0
  ·rw[if_neg (fun k=>k h),ii l]; simp[h]
  ·rw[if_pos h]; simp[h]
theorem pj {s:List UInt8} {i:Nat} {r:Rd} (hp:RwI (lnP s i r).1 i s.length):RwI (lnX s i r) i (s.length+1):=by
 unfold lnX
 split
 ·exact⟨by have:=hp.ch; omega,by have:=hp.out; omega,hp.f⟩
 ·have:=mX hp
  exact⟨this.ch,this.out,this.f⟩
theorem line_f {ls:List (List UInt8)} {i:Nat} (hi:i<ls.length) (hi':i<1000) (hs:(ls.getD i default).length<999) (h32:(ls.getD i default).all (shw 32)=true) {r:Rd} (h:RdI r i) :
  (skp (ls.getD i default) r.q=false→RwI (lnP (ls.getD i default) i r).1 i (ls.getD i default).length) ∧
  g_12.f ls r.kd r.out r.ch r.q r.go (r.f:Int) r.st 0 0 0 0 0 (i:Int)=some (
   if skp (ls.getD i default) r.q=true then(r.ch,r.q,r.go,(r.f:Int),r.st,0,0,0,0,0,r.kd++ [0],r.out)
   else((lnX (ls.getD i default) i r).ch,(lnX (ls.getD i default) i r).q,(lnP (ls.getD i default) i r).2.1,((lnX (ls.getD i default) i r).f:Int),(lnP (ls.getD i default) i r).1.st,
    (if r.go=true then bgE (ls.getD i default) r.q else 0),(if(lnP (ls.getD i default) i r).2.2=true then 7 else 0),(if r.go=true∧39<r.f+1 then 8 else 0),(if(lnP (ls.getD i default) i r).2.1=false∧(lnP (ls.getD i default) i r).1.q≠0 then 21 else 0),(lnX (ls.getD i default) i r).e,
    r.kd++ [if(lnP (ls.getD i default) i r).1.st=true then 1 else 2],(lnX (ls.getD i default) i r).out)):=by
 have h1:=h.ch
 have h2:=h.out
 have h3:=h.kd
 have h4:=h.f
 have hA:=n8 (ls.getD i default) r
 have hI:RwI (⟨r.ch,r.q,lnF r,false,r.out,0⟩:Rw) i (lnA (ls.getD i default) r):=⟨by simp only; omega,by simp only; omega,by simp only; unfold lnF; split<;>omega⟩
 obtain⟨a',i1,i2⟩:=k9 hi hi' (by omega) (if r.go=true then bgE (ls.getD i default) r.q else 0) (if r.go=true∧39<r.f+1 then 8 else 0) 0 ((ls.getD i default).length-lnA (ls.getD i default) r) (lnA (ls.getD i default) r) ⟨r.ch,r.q,lnF r,false,r.out,0⟩ (by omega) hI
 refine⟨fun _=>i2,?_⟩
 have hP:cv i ((ls.getD i default).drop (lnA (ls.getD i default) r)) (lnA (ls.getD i default) r) ⟨r.ch,r.q,lnF r,false,r.out,0⟩=lnP (ls.getD i default) i r:=rfl
 rw[hP] at i1 i2
 have hsk:=skp_f (ls.getD i default) r.q
 unfold g_12.f
 rw[if_pos ⟨by omega,by omega⟩,aQ,jV,Option.bind_some]
 rw[hsk,Option.bind_some]
 cases hk:skp (ls.getD i default) r.q
 ·rw[if_neg (c:=false=true) (by decide),if_neg (c:=false=true) (by decide),begin_f h32 (by omega)]
  have hg:(if r.go=true then Option.bind (some ((bgA (ls.getD i default):Int),bgE (ls.getD i default) r.q,(0:Int),(0:Int),(0:Int),(0:Int))) fun y26=>(if(decide ((w64 ((r.f:Int)+1))>39))=true then Option.bind (g_15.f y26.2.1 y26.2.2.1 y26.2.2.2.1 y26.2.2.2.2.1 y26.2.2.2.2.2 2 8) fun y29=>some (y26.1,(w64 ((r.f:Int)+1)),y29.1,y29.2.1,y29.2.2.1,y29.2.2.2.1,y29.2.2.2.2) else some (y26.1,(w64 ((r.f:Int)+1)),y26.2.1,y26.2.2.1,y26.2.2.2.1,y26.2.2.2.2.1,y26.2.2.2.2.2)) else some ((0:Int),(r.f:Int),(0:Int),(0:Int),(0:Int),(0:Int),(0:Int)))=some ((lnA (ls.getD i default) r:Int),(lnF r:Int),(if r.go=true then bgE (ls.getD i default) r.q else 0),(0:Int),(if r.go=true∧39<r.f+1 then(8:Int) else 0),(0:Int),(0:Int)):=by
   unfold lnA lnF
   rw[up1 (by omega)]
   cases r.go
   ·rfl
   ·rw[if_pos (c:=true=true) rfl,Option.bind_some]
    by_cases hf:39<r.f+1
    ·rw[if_pos (c:=decide _=true) (decide_eq_true (by omega)),if_pos (c:=true=true∧_) ⟨rfl,hf⟩,wrong2]; rfl
    ·rw[if_neg (c:=decide _=true) (dn (by omega)),if_neg (c:=true=true∧_) (fun k=>hf k.2)]; rfl
  rw[hg,Option.bind_some]
  show Option.bind (iter (g_12.b0 ls (i:Int)) (gR (⟨r.ch,r.q,lnF r,false,r.out,0⟩:Rw) (lnA (ls.getD i default) r) false _ 0 _ 0)) _=_
  rw[i1,Option.bind_some]
  have hX:=pj i2
  have hc:=i2.ch
  have ho:=i2.out
  generalize (if r.go=true then bgE (ls.getD i default) r.q else 0)=e0
  generalize (if r.go=true∧39<r.f+1 then(8:Int) else 0)=e2
  unfold gR lnX
  simp only
  generalize lnP (ls.getD i default) i r=P at *
  obtain⟨x,g,e⟩:=P
  simp only at *
  have hz: ∀{β:Type} (f:Int→Option β),Option.bind (if x.st=true then some (1:Int) else some 2) f=f (if x.st=true then 1 else 2):=by
   intro β f
   cases x.st<;>rfl
  cases g
  ·rw[fw,wrong3,n7 (by omega) (by omega),Option.bind_some,Option.bind_some,n7 (by omega) (by omega),Option.bind_some]
   by_cases hq:x.q=0
   ·rw[decide_eq_true hq]
    simp only[Bool.not_true,Bool.not_false,Bool.false_eq_true,if_false,if_true,Option.bind_some]
    rw[hz,if_pos (by simp; omega),hq]
    rfl
   ·rw[decide_eq_false hq]
    simp only[Bool.not_true,Bool.not_false,Bool.false_eq_true,if_false,if_true,Option.bind_some]
    rw[hz,if_pos (by simp; omega),if_pos (c:=(True∧_)) ⟨trivial,hq⟩]
    rfl
  ·simp only[Bool.not_true,Bool.not_false,Bool.false_eq_true,if_false,if_true,Option.bind_some]
   rw[hz,if_pos (by simp; omega)]
   rfl
 ·rw[if_pos rfl,if_pos rfl,if_pos (by simp; omega)]
end Go.Proofs.YtjcbhbncncbdjaaGreatDoorAi
namespace Go.Proofs.YtjcbhbncncbdjaaGreatDoorAi
open Go Go.RowKit
set_option linter.unusedVariables false
set_option linter.unusedSimpArgs false
structure Sh (ls:List (List UInt8)):Prop where
 l:ls.length≤400
 e: ∀s∈ls,s.length≤132∧s.all (shw 32)=true
theorem Sh.at {ls:List (List UInt8)} (h:Sh ls) {k:Nat} (hk:k<ls.length):(ls.getD k default).length≤132∧(ls.getD k default).all (shw 32)=true:=by
 rw[List.getD_eq_getElem?_getD,List.getElem?_eq_getElem hk]
 exact h.e _ (List.getElem_mem hk)
theorem Sh.few {n:List UInt8} {ls:List (List UInt8)} (h:Sh ls) (hn:n.length<1000):Few n ls:=⟨hn,by have:=h.l; omega,fun s hs=>by have:=(h.e s hs).1; omega⟩
abbrev RdT:Type:=Int×List Mk1×UInt8×Bool×Int×Bool×Int×Int×Int×Int×Int×List Int×List ST
def mY (x:Rd) (i:Nat):RdT:=((i:Int),x.ch,x.q,x.go,(x.f:Int),x.st,0,0,0,0,0,x.kd,x.out)
theorem lnR_inv {s:List UInt8} {i:Nat} {x y:Rd} (h:RdI x i) (hs:s.length<999) (hp:skp s x.q=false→RwI (lnP s i x).1 i s.length) (hy:lnR s i x= .ok y):RdI y (i+1):=by
 obtain⟨h1,h2,h3,h4⟩:=h
 unfold lnR at hy
 cases hk:skp s x.q
 ·rw[hk,if_neg (by decide)] at hy
  have hX:=pj (hp hk)
  split at hy
  ·cases hy
  ·rename_i he
   obtain rfl:=Except.ok.inj hy
   have hz:dk (dY s i x)=0:=by apply Decidable.byContradiction; exact fun q=>he q
   have h9:=(ii _).1 hz
   have hf:(if x.go=true∧39<x.f+1 then(8:Int) else 0)=0:=h9 _ (by unfold dY; simp)
   refine⟨by unfold lnY; have:=hX.ch; simp only; omega,by unfold lnY; have:=hX.out; simp only; omega,by unfold lnY; simp; omega,?_⟩
   have hff:lnF x≤39:=by
    unfold lnF
    split
    ·rename_i hg
     apply Decidable.byContradiction
     intro q
     rw[if_pos ⟨hg,by omega⟩] at hf
     exact absurd hf (by decide)
    ·exact h4
   unfold lnY lnX
   simp only
   have hfp: ∀(t:List UInt8) (a:Nat) (w:Rw),w.f≤39→(cv i t a w).1.f≤39:=by
    intro t
    induction t with
    | nil=>intro a w hw; exact hw
    | cons c r ih =>
     intro a w hw
     unfold cv
     split
     ·split
      ·exact hw
      ·exact ih _ _ hw
     ·split
      ·exact hw
      ·split
       ·exact ih _ _ (Nat.zero_le _)
       ·split
        ·split
         ·exact hw
         ·exact hw
        ·exact ih _ _ hw
   split
   ·exact hfp _ _ _ hff
   ·exact Nat.zero_le _
 ·rw[hk,if_pos rfl] at hy
  obtain rfl:=Except.ok.inj hy
  exact⟨by simp only; omega,by simp only; omega,by simp; omega,h4⟩
theorem pk {ls:List (List UInt8)} (hS:Sh ls) {i:Nat} (hi:i<ls.length) {x:Rd} (h:RdI x i) :
  ∃r,g_14.b0 ls (mY x i)=some r∧match lnR (ls.getD i default) i x with | .ok y=>r= .inl (mY y (i+1))∧RdI y (i+1) | .error e=> ∃g,r= .inr (.inr ((e.1:Int),e.2,g))∧e.2≠0:=by
 obtain⟨hs1,hs2⟩:=hS.at hi
 have hl:=hS.l
 obtain⟨hp,hf⟩:=line_f hi (by omega) (by omega) hs2 h
 have hinv:=fun y (hy:lnR (ls.getD i default) i x= .ok y)=>lnR_inv h (by omega) hp hy
 unfold g_14.b0 mY
 simp only
 rw[if_pos (decide_eq_true (by omega)),hf,Option.bind_some,up1 (by omega)]
 unfold lnR at hinv ⊢
 cases hk:skp (ls.getD i default) x.q
 ·rw[hk,if_neg (by decide)] at hinv
  rw[if_neg (c:=false=true) (by decide),if_neg (c:=false=true) (by decide),dW (by show 5<1000; decide),Option.bind_some]
  have e0:dk ([(if x.go=true then bgE (ls.getD i default) x.q else 0),(if(lnP (ls.getD i default) i x).2.2=true then 7 else 0),(if x.go=true∧39<x.f+1 then 8 else 0),(if(lnP (ls.getD i default) i x).2.1=false∧(lnP (ls.getD i default) i x).1.q≠0 then 21 else 0),(lnX (ls.getD i default) i x).e]:List Int)=dk (dY (ls.getD i default) i x):=rfl
  rw[e0]
  by_cases hz:dk (dY (ls.getD i default) i x)=0
  ·rw[if_neg (c:=dk _≠0) (fun q=>q hz)] at hinv
   rw[if_neg (by rw[hz]; decide),if_neg (c:=dk _≠0) (fun q=>q hz)]
   have h9:=(ii _).1 hz
   have g0:=h9 (if x.go=true then bgE (ls.getD i default) x.q else 0) (by unfold dY; simp)
   have g1:=h9 (if(lnP (ls.getD i default) i x).2.2=true then 7 else 0) (by unfold dY; simp)
   have g2:=h9 (if x.go=true∧39<x.f+1 then 8 else 0) (by unfold dY; simp)
   have g3:=h9 (if(lnP (ls.getD i default) i x).2.1=false∧(lnP (ls.getD i default) i x).1.q≠0 then 21 else 0) (by unfold dY; simp)
   have g4:=h9 (lnX (ls.getD i default) i x).e (by unfold dY; simp)
   rw[g0,g1,g2,g3,g4]
   exact⟨_,rfl,rfl,hinv _ rfl⟩
  ·rw[if_pos (by simpa using hz),if_pos hz]
   exact⟨_,rfl,_,rfl,hz⟩
 ·rw[hk,if_pos rfl] at hinv
  rw[if_pos rfl,if_pos rfl,dW (by show 5<1000; decide),Option.bind_some]
  exact⟨_,rfl,rfl,hinv _ rfl⟩
theorem pm {ls:List (List UInt8)} (hS:Sh ls): ∀(d i:Nat) (x:Rd),i+d=ls.length→RdI x i →
  ∃r,iter (g_14.b0 ls) (mY x i)=some r∧match rdR (ls.drop i) i x with | .ok y=>r= .inl (mY y ls.length) | .error e=> ∃g,r= .inr ((e.1:Int),e.2,g)∧e.2≠0
 | 0,i,x,h,hI=>by
  obtain rfl:i=ls.length:=by omega
  refine⟨.inl (mY x ls.length),ae ?_,?_⟩
  ·unfold g_14.b0 mY
   simp only
   rw[if_neg (dn (by omega))]
  ·rw[List.drop_length]
   rfl
 | d+1,i,x,h,hI=>by
  obtain⟨r,r1,r2⟩:=pk hS (i:=i) (by omega) hI
  rw[ay (show i<ls.length by omega)]
  unfold rdR
  cases hx:lnR (ls.getD i default) i x with
  | error e =>
   rw[hx] at r2
   obtain⟨g,rfl,hg⟩:=r2
   exact⟨_,ae r1,g,rfl,hg⟩
  | ok y =>
   rw[hx] at r2
   obtain⟨rfl,hy⟩:=r2
   obtain⟨r',q1,q2⟩:=pm hS d (i+1) y (by omega) hy
   exact⟨r',by rw[ak r1]; exact q1,q2⟩
theorem n9 {ls:List (List UInt8)} (hS:Sh ls): ∃r,g_14.f ls [] [] [] 0 false 0 false 0 0 0 0 0=some r∧match FRd ls with | .error e=>r.1=(e.1:Int)∧r.2.1=e.2∧e.2≠0 | .ok y=>r.2.1=0∧r.2.2.2.2.2.2.2.2.2.2.2.2.1=y.1∧r.2.2.2.2.2.2.2.2.2.2.2.2.2=y.2:=by
 obtain⟨r,r1,r2⟩:=pm hS ls.length 0 rd0 (by omega) ⟨by decide,by decide,by decide,by decide⟩
 have hl:=hS.l
 have r1':iter (g_14.b0 ls) (0,[],0,false,0,false,0,0,0,0,0,[],[])=some r:=r1
 unfold g_14.f
 rw[r1',Option.bind_some]
 rw[List.drop_zero] at r2
 cases hx:rdR ls 0 rd0 with
 | error e =>
  rw[hx] at r2
  obtain⟨g,rfl,hg⟩:=r2
  have eF:FRd ls= .error e:=by unfold FRd; rw[hx]
  rw[eF]
  exact⟨_,rfl,rfl,rfl,hg⟩
 | ok x =>
  rw[hx] at r2
  have r2:r= .inl (mY x ls.length):=r2
  subst r2
  have eF:FRd ls=if x.go=true then .error (ls.length-1,39) else .ok (x.kd,x.out):=by unfold FRd; rw[hx]
  rw[eF]
  show ∃r,(if x.go=true then _ else _)=some r∧_
  cases hg:x.go
  ·rw[if_neg (by decide),if_neg (by decide)]
   exact⟨_,rfl,rfl,rfl,rfl⟩
  ·rw[if_pos rfl,if_pos rfl]
   have hne:0<ls.length:=by
    cases ls with
    | nil =>
     have:x=rd0:=(Except.ok.inj hx).symm
     rw[this] at hg
     cases hg
    | cons=>simp
   exact⟨_,rfl,by show w64 ((ls.length:Int)-1)=((ls.length-1:Nat):Int); rw[co (by omega) (by omega)]; omega,rfl,by show(39:Int)≠0; decide⟩
def RD (n:List UInt8) (free:Bool) (ls:List (List UInt8)):Except (Int×Int) (List Int×List ST) :=
 if(ckT n free ls).2≠0 then .error (ckT n free ls)
 else match (if free=true then FRd ls else FX ls) with | .error e=> .error ((e.1:Int),e.2) | .ok y=> .ok y
theorem l5 (m:Nat): ∀(ls:List (List UInt8)) (i:Nat),(ckL m ls i).2=0→ ∀s∈ls,s.length≤m∧s.all (shw 32)=true
 | [],i,h,s,hs=>by cases hs
 | t::r,i,h,s,hs=>by
  unfold ckL at h
  split at h
  ·rename_i hne
   exact absurd h hne
  ·rename_i he
   have he:lnE m t=0:=by apply Decidable.byContradiction; exact fun q=>he q
   rcases List.mem_cons.1 hs with rfl | h2
   ·unfold lnE at he
    split at he
    ·exact absurd he (by decide)
    ·rename_i hm
     refine⟨by omega,?_⟩
     apply Decidable.byContradiction
     intro q
     rw[if_neg q] at he
     exact absurd he (by decide)
   ·exact l5 m r _ h s h2
theorem sq {n:List UInt8} {free:Bool} {ls:List (List UInt8)} (h:(ckT n free ls).2=0):Sh ls:=by
 unfold ckT at h
 split at h
 ·exact absurd h (by decide)
 ·split at h
  ·exact absurd h (by decide)
  ·refine⟨by omega,fun s hs=>?_⟩
   obtain⟨h1,h2⟩:=l5 _ _ _ h s hs
   refine⟨?_,h2⟩
   unfold wd at h1
   split at h1<;>omega
theorem oa {n:List UInt8} {free:Bool} {ls:List (List UInt8)} (h:Few n ls):g_1i.f n free ls=some (match RD n free ls with | .error e=>(none,e.1,e.2) | .ok y=>(some (ls,y.1,y.2),0,0))∧ ∀e,RD n free ls= .error e→e.2≠0:=by
 unfold g_1i.f RD
 rw[iv h,Option.bind_some]
 by_cases hz:(ckT n free ls).2=0
 ·have hS:=sq hz
  rw[if_neg (by rw[hz]; decide),if_neg (c:=(ckT n free ls).2≠0) (fun q=>q hz)]
  cases free
  ·obtain⟨r,r1,r2⟩:=mU (hS.few h.n)
   simp only[if_neg (c:=false=true) (by decide)]
   rw[r1,Option.bind_some,Option.bind_some]
   cases hx:FX ls with
   | error e =>
    rw[hx] at r2
    obtain⟨q1,q2,q3⟩:=r2
    rw[q1,q2,if_pos (by simpa using q3)]
    exact⟨rfl,fun e' he=>by obtain rfl:=Except.error.inj he; exact q3⟩
   | ok y =>
    rw[hx] at r2
    obtain⟨q1,q2,q3⟩:=r2
    rw[q1,q2,q3,if_neg (by decide)]
    exact⟨rfl,fun e' he=>by cases he⟩
  ·obtain⟨r,r1,r2⟩:=n9 hS
   simp only[eq_self,if_true]
   rw[r1,Option.bind_some,Option.bind_some]
   cases hx:FRd ls with
   | error e =>
    rw[hx] at r2
    obtain⟨q1,q2,q3⟩:=r2
    rw[q1,q2,if_pos (by simpa using q3)]
    exact⟨rfl,fun e' he=>by obtain rfl:=Except.error.inj he; exact q3⟩
   | ok y =>
    rw[hx] at r2
    obtain⟨q1,q2,q3⟩:=r2
    rw[q1,q2,q3,if_neg (by decide)]
    exact⟨rfl,fun e' he=>by cases he⟩
 ·rw[if_pos (by simpa using hz),if_pos hz]
  exact⟨rfl,fun e' he=>by obtain rfl:=Except.error.inj he; exact hz⟩
theorem j6 {n:List UInt8} {free:Bool} {ls:List (List UInt8)} (h:Few n ls):g_r.f n free ls=some (match RD n free ls with | .error e=>([],e.1,e.2) | .ok y=>(y.2,0,0)):=by
 obtain⟨h1,h2⟩:=oa (free:=free) h
 unfold g_r.f
 rw[h1,Option.bind_some]
 cases hx:RD n free ls with
 | error e =>
  have:=h2 e hx
  show(if(e.2 != 0)=true then _ else _)=_
  rw[if_pos (by simpa using this)]
 | ok y=>rfl
theorem qx {n:List UInt8} {free:Bool} {ls:List (List UInt8)} (h:Few n ls):g_q.f n free ls=some (match RD n free ls with | .error e=>([],e.1,e.2) | .ok y=>(y.1,0,0)):=by
 obtain⟨h1,h2⟩:=oa (free:=free) h
 unfold g_q.f
 rw[h1,Option.bind_some]
 cases hx:RD n free ls with
 | error e =>
  have:=h2 e hx
  show(if(e.2 != 0)=true then _ else _)=_
  rw[if_pos (by simpa using this)]
 | ok y=>rfl
end Go.Proofs.YtjcbhbncncbdjaaGreatDoorAi
namespace Go.Proofs.YtjcbhbncncbdjaaGreatDoorAi
open Go Go.RowKit
set_option linter.unusedVariables false
set_option linter.unusedSimpArgs false
def ltP (a b:Int×Int):Prop:=a.1<b.1∨a.1=b.1∧a.2<b.2
def ltM (a b:Mk1):Prop:=ltP a.2.2 b.2.2
def Gm (ls:List (List UInt8)) (kd:List Int) (i a:Nat) (m:Mk1):Prop :=
 m.2.1=0∧ ∃j b:Nat,m.2.2.1=(j:Int)∧m.2.2.2=((b+1:Nat):Int)∧m.1=(ls.getD j default).getD b 32∧(j<i∧kd.getD j 0≠0∨j=i∧b<a)
def fl (L:List (Int×List Mk1)):List Mk1:=(L.map (·.2)).flatten
structure PI (ls:List (List UInt8)) (kd:List Int) (i a:Nat) (out:List ST) (ch:List Mk1):Prop where
 k:kd.length=i
 e: ∃L:List (Int×List Mk1),out=L.map (fun p=>dl p.1 p.2)∧(∀p∈L,p.2≠ []∧0≤p.1∧p.1≤99999)∧(fl L++ch).Pairwise ltM∧(∀m∈fl L++ch,Gm ls kd i a m)∧(fl L++ch).length≤1000*i+a
theorem PI.sub {ls kd i a out ch ch'} (h:PI ls kd i a out ch) (hs:List.Sublist ch' ch):PI ls kd i a out ch':=by
 obtain⟨hk,L,h1,h2,h3,h4,h5⟩:=h
 have hs':List.Sublist (fl L++ch') (fl L++ch):=List.Sublist.append (List.Sublist.refl _) hs
 exact⟨hk,L,h1,h2,h3.sublist hs',fun m hm=>h4 m (hs'.subset hm),Nat.le_trans hs'.length_le h5⟩
theorem PI.up {ls kd i a a' out ch} (h:PI ls kd i a out ch) (ha:a≤a'):PI ls kd i a' out ch:=by
 obtain⟨hk,L,h1,h2,h3,h4,h5⟩:=h
 refine⟨hk,L,h1,h2,h3,fun m hm=>?_,by omega⟩
 obtain⟨q0,j,b,q1,q2,q3,q4⟩:=h4 m hm
 exact⟨q0,j,b,q1,q2,q3,q4.imp id fun q=>⟨q.1,by omega⟩⟩
theorem PI.put {ls kd i a out ch} (h:PI ls kd i a out ch):PI ls kd i (a+1) out (ch++ [((ls.getD i default).getD a 32,0,(i:Int),((a+1:Nat):Int))]):=by
 obtain⟨hk,L,h1,h2,h3,h4,h5⟩:=h
 refine⟨hk,L,h1,h2,?_,fun m hm=>?_,by rw[← List.append_assoc,List.length_append]; show _+1≤_; omega⟩
 ·rw[← List.append_assoc,List.pairwise_append]
  refine⟨h3,List.pairwise_singleton _ _,fun m hm m' hm'=>?_⟩
  obtain rfl:=List.mem_singleton.1 hm'
  obtain⟨q0,j,b,q1,q2,q3,q4⟩:=h4 m hm
  unfold ltM ltP
  rw[q1,q2]
  rcases q4 with q | q
  ·exact .inl (by show(j:Int)<(i:Int); omega)
  ·exact .inr ⟨by show(j:Int)=(i:Int); omega,by show((b+1:Nat):Int)<((a+1:Nat):Int); omega⟩
 ·rw[← List.append_assoc] at hm
  rcases List.mem_append.1 hm with hm | hm
  ·obtain⟨q0,j,b,q1,q2,q3,q4⟩:=h4 m hm
   exact⟨q0,j,b,q1,q2,q3,q4.imp id fun q=>⟨q.1,by omega⟩⟩
  ·obtain rfl:=List.mem_singleton.1 hm
   exact⟨rfl,i,a,rfl,rfl,rfl,.inr ⟨rfl,by omega⟩⟩
theorem PI.fin {ls kd i a out ch} (h:PI ls kd i a out ch) {n:Int} (h0:0≤n) (h1:n≤99999) {l:List Mk1} (hl:l≠ []) (hs:List.Sublist l ch):PI ls kd i a (out++ [dl n l]) []:=by
 obtain⟨hk,L,g1,g2,g3,g4,g5⟩:=h.sub hs
 refine⟨hk,L++ [(n,l)],by rw[g1,List.map_append]; rfl,fun p hp=>?_,?_,?_,?_⟩
 ·rcases List.mem_append.1 hp with hp | hp
  ·exact g2 p hp
  ·obtain rfl:=List.mem_singleton.1 hp
   exact⟨hl,h0,h1⟩
 ·have:fl (L++ [(n,l)])++ []=fl L++l:=by unfold fl; simp
  rw[this]; exact g3
 ·have:fl (L++ [(n,l)])++ []=fl L++l:=by unfold fl; simp
  rw[this]; exact g4
 ·have:fl (L++ [(n,l)])++ []=fl L++l:=by unfold fl; simp
  rw[this]; exact g5
theorem gd_l {α:Type} {l m:List α} {d:α} {j:Nat} (h:j<l.length):(l++m).getD j d=l.getD j d:=by
 rw[List.getD_eq_getElem?_getD,List.getElem?_append_left h,← List.getD_eq_getElem?_getD]
theorem gd_r {α:Type} {l m:List α} {d:α} {j:Nat} (h:l.length≤j):(l++m).getD j d=m.getD (j-l.length) d:=by
 rw[List.getD_eq_getElem?_getD,List.getElem?_append_right h,← List.getD_eq_getElem?_getD]
theorem PI.line {ls kd i a out ch} (h:PI ls kd i a out ch) {k:Int} (hk:k≠0) (ha:a≤1000):PI ls (kd++ [k]) (i+1) 0 out ch:=by
 obtain⟨hkd,L,h1,h2,h3,h4,h5⟩:=h
 refine⟨by simp[hkd],L,h1,h2,h3,fun m hm=>?_,by omega⟩
 obtain⟨q0,j,b,q1,q2,q3,q4⟩:=h4 m hm
 refine⟨q0,j,b,q1,q2,q3,.inl ?_⟩
 rcases q4 with q | q
 ·refine⟨by omega,?_⟩
  rw[gd_l (by omega)]; exact q.2
 ·refine⟨by omega,?_⟩
  rw[q.1,← hkd,gd_r (Nat.le_refl _),Nat.sub_self]; exact hk
theorem PI.skip {ls kd i out ch} (h:PI ls kd i 0 out ch) (k:Int):PI ls (kd++ [k]) (i+1) 0 out ch:=by
 obtain⟨hkd,L,h1,h2,h3,h4,h5⟩:=h
 refine⟨by simp[hkd],L,h1,h2,h3,fun m hm=>?_,by omega⟩
 obtain⟨q0,j,b,q1,q2,q3,q4⟩:=h4 m hm
 refine⟨q0,j,b,q1,q2,q3,.inl ?_⟩
 rcases q4 with q | q
 ·refine⟨by omega,?_⟩
  rw[gd_l (by omega)]; exact q.2
 ·exact absurd q.2 (by omega)
theorem PI.cols {ls kd i out ch} (h:PI ls kd i 0 out ch):PI ls kd i 72 out (ch++cols (ls.getD i default) i):=by
 have key: ∀n,PI ls kd i (6+n) out (ch++(List.range n).map fun j=>((ls.getD i default).getD (6+j) 32,(0:Int),(i:Int),((7+j:Nat):Int))):=by
  intro n
  induction n with
  | zero=>simpa using h.up (Nat.zero_le 6)
  | succ n ih =>
   rw[List.range_succ,List.map_append,← List.append_assoc]
   have:=ih.put
   rw[show 6+n+1=7+n by omega] at this
   rw[show 6+(n+1)=7+n by omega]
   exact this
 exact key 66
theorem sr (l:List Mk1):List.Sublist (lf l) l:=List.dropWhile_sublist _
theorem ss (l:List Mk1):List.Sublist (rt l) l:=by rw[pe]; exact List.take_sublist _ _
theorem l6 (s:List UInt8): ∀(d k:Nat) (v:Int) (g:Nat) (r:Int×Nat),0≤v→v<10 ^ k→lbK s d k v g=some r→0≤r.1∧r.1<10 ^ (k+d)
 | 0,k,v,g,r,h0,h1,h=>by
  unfold lbK at h
  obtain rfl:=Option.some.inj h
  exact⟨h0,h1⟩
 | d+1,k,v,g,r,h0,h1,h=>by
  unfold lbK at h
  rw[show k+(d+1)=(k+1)+d by omega]
  split at h
  ·rename_i hd
   obtain⟨_,d1,d2⟩:=iy hd
   exact l6 s d (k+1) _ _ r (by omega) (by rw[Int.pow_succ]; omega) h
  ·split at h
   ·exact l6 s d (k+1) _ _ r h0 (by rw[Int.pow_succ]; omega) h
   ·cases h
theorem lab_le (s:List UInt8):0≤(lab s).1∧(lab s).1≤99999:=by
 unfold lab
 split
 ·exact⟨by decide,by decide⟩
 ·rename_i v g h
  obtain⟨h1,h2⟩:=l6 s 5 0 0 0 _ (by decide) (by decide) h
  refine⟨h1,?_⟩
  have:(10:Int) ^ (0+5)=100000:=by decide
  rw[this] at h2
  show v≤99999
  have h2:v<100000:=h2
  omega
structure PF (ls:List (List UInt8)) (i:Nat) (x:Fz):Prop where
 p:PI ls x.kd i 0 x.out (if x.o=true then x.ch else [])
 l:0≤x.lb∧x.lb≤99999
theorem su {ls kd i x o} (h:PI ls kd i 0 x.out (if x.o=true then x.ch else [])) (hl:0≤x.lb∧x.lb≤99999) (ho:fxE x=some o):PI ls kd i 0 o []:=by
 unfold fxE at ho
 split at ho
 ·rename_i hx
  obtain rfl:=Option.some.inj ho
  rw[hx] at h; exact h
 ·rename_i hx
  have hx:x.o=true:=by simpa using hx
  rw[hx,if_pos rfl] at h
  split at ho
  ·cases ho
  ·rename_i hr
   obtain rfl:=Option.some.inj ho
   exact h.fin hl.1 hl.2 hr (ss _)
theorem fxL_pi {ls:List (List UInt8)} {i:Nat} {x y:Fz} (h:PF ls i x) (hy:fxL (ls.getD i default) i x= .ok y):PF ls (i+1) y:=by
 obtain⟨h1,h2⟩:=h
 unfold fxL at hy
 split at hy
 ·obtain rfl:=Except.ok.inj hy
  exact⟨h1.skip 0,h2⟩
 ·split at hy
  ·split at hy
   ·cases hy
   ·rename_i hg
    obtain rfl:=Except.ok.inj hy
    have ho:x.o=true:=by
     cases hx:x.o
     ·exact absurd (by unfold goE; rw[hx,if_pos rfl]; decide) hg
     ·rfl
    rw[ho,if_pos rfl] at h1
    refine⟨?_,h2⟩
    simp only[ho,if_true]
    exact h1.cols.line (by decide) (by decide)
  ·split at hy
   ·cases hy
   ·rename_i o ho
    split at hy
    ·cases hy
    ·obtain rfl:=Except.ok.inj hy
     refine⟨?_,lab_le _⟩
     simp only[if_true]
     have:=(su h1 h2 ho).cols.line (k:=1) (by decide) (by decide)
     simpa using this
theorem sv {ls:List (List UInt8)}: ∀(d i:Nat) (x y:Fz),i+d=ls.length→PF ls i x→fxR (ls.drop i) i x= .ok y→PF ls ls.length y
 | 0,i,x,y,h,hP,hy=>by
  obtain rfl:i=ls.length:=by omega
  rw[List.drop_length] at hy
  obtain rfl:=Except.ok.inj hy
  exact hP
 | d+1,i,x,y,h,hP,hy=>by
  rw[ay (show i<ls.length by omega)] at hy
  unfold fxR at hy
  cases hx:fxL (ls.getD i default) i x with
  | error e=>rw[hx] at hy; cases hy
  | ok z =>
   rw[hx] at hy
   exact sv d (i+1) z y (by omega) (fxL_pi hP hx) hy
theorem FX_pi {ls:List (List UInt8)} {y:List Int×List ST} (h:FX ls= .ok y):PI ls y.1 ls.length 0 y.2 []:=by
 unfold FX at h
 cases hx:fxR ls 0 fx0 with
 | error e=>rw[hx] at h; cases h
 | ok x =>
  rw[hx] at h
  have hP:=sv (ls:=ls) ls.length 0 fx0 x (by omega) ⟨⟨rfl,[],rfl,(fun p hp=>by cases hp),List.Pairwise.nil,(fun m hm=>by cases hm),by decide⟩,by decide⟩ (by rw[List.drop_zero]; exact hx)
  simp only at h
  cases ho:fxE x with
  | none=>rw[ho] at h; cases h
  | some o =>
   rw[ho] at h
   obtain rfl:=Except.ok.inj h
   exact su hP.p hP.l ho
theorem sw: ∀(l:List Mk1) (k:Nat) (v:Int),0≤v→v<10 ^ k→(∀j,j<l.length→dr (l.getD j default).1=true)→0≤vlD l v∧vlD l v<10 ^ (k+l.length)
 | [],k,v,h0,h1,h=>⟨h0,h1⟩
 | m::l,k,v,h0,h1,h=>by
  unfold vlD
  obtain⟨_,d1,d2⟩:=iy (h 0 (by simp))
  have d1:0≤dv m.1:=d1
  have d2:dv m.1≤9:=d2
  have:=sw l (k+1) (10*v+dv m.1) (by omega) (by rw[Int.pow_succ]; omega) (fun j hj=>h (j+1) (by simpa using hj))
  rw[List.length_cons,show k+(l.length+1)=k+1+l.length by omega]
  exact this
theorem sx (ch:List Mk1):0≤(enL ch).1∧(enL ch).1≤99999:=by
 unfold enL
 simp only
 split
 ·rename_i h
  obtain⟨h1,h2,h3,h4⟩:=h
  have hlen:((rt (lf ch)).take (dgs (rt (lf ch)))).length=dgs (rt (lf ch)):=by rw[List.length_take]; omega
  have:=sw ((rt (lf ch)).take (dgs (rt (lf ch)))) 0 0 (by decide) (by decide) (fun j hj=>by
   rw[hlen] at hj
   have:=iR (rt (lf ch)) j hj
   rw[List.getD_eq_getElem?_getD,List.getElem?_take_of_lt hj,← List.getD_eq_getElem?_getD]
   exact this)
  obtain⟨g1,g2⟩:=this
  refine⟨g1,?_⟩
  rw[hlen] at g2
  have hp:(10:Int) ^ (0+dgs (rt (lf ch)))≤10 ^ 5:=by
   have:(10:Nat) ^ (0+dgs (rt (lf ch)))≤10 ^ 5:=Nat.pow_le_pow_right (by decide) (by omega)
   exact_mod_cast this
  have hp':(10:Int) ^ 5=100000:=by decide
  show vlD _ 0≤99999
  omega
 ·exact⟨Int.le_refl _,by show(0:Int)≤99999; decide⟩
theorem enL_sub (ch:List Mk1):List.Sublist (enL ch).2.1 ch:=by
 unfold enL
 simp only
 have h0:List.Sublist (rt (lf ch)) ch:=(ss _).trans (sr _)
 split
 ·exact(sr _).trans ((List.drop_sublist _ _).trans h0)
 ·exact h0
theorem pn {ls kd i a} {x:Rw} (h:PI ls kd i a x.out x.ch):PI ls kd i a (dm x).out (dm x).ch:=by
 unfold dm enO
 simp only
 split
 ·exact h.sub (List.nil_sublist _)
 ·rename_i hn
  exact h.fin (sx _).1 (sx _).2 hn (enL_sub _)
theorem po {ls kd i a} {x:Rw} (h:PI ls kd i a x.out x.ch) (q:UInt8) {c:UInt8} (hc:c=(ls.getD i default).getD a 32):PI ls kd i (a+1) (dP x c i a q).out (dP x c i a q).ch:=by
 subst hc
 unfold dP
 simp only
 split
 ·exact(h.sub (List.nil_sublist _)).put
 ·exact h.put
theorem mZ {ls:List (List UInt8)} {kd:List Int} {i:Nat}: ∀(d a:Nat) (x:Rw),a+d=(ls.getD i default).length→PI ls kd i a x.out x.ch→PI ls kd i (ls.getD i default).length (cv i ((ls.getD i default).drop a) a x).1.out (cv i ((ls.getD i default).drop a) a x).1.ch
 | 0,a,x,h,hP=>by
  rw[List.drop_eq_nil_of_le (by omega)]
  exact hP.up (by omega)
 | d+1,a,x,h,hP=>by
  have hc:(ls.getD i default).getD a default=(ls.getD i default).getD a 32:=l4 (by omega)
  rw[ay (show a<(ls.getD i default).length by omega)]
  unfold cv
  have ih:=fun y (hy:PI ls kd i (a+1) y.out y.ch)=>mZ d (a+1) y (by omega) hy
  split
  ·split
   ·exact hP.up (by omega)
   ·exact ih _ (po hP _ hc)
  ·split
   ·exact hP.up (by omega)
   ·split
    ·exact ih _ ((pn hP).up (by omega))
    ·split
     ·split
      ·exact hP.up (by omega)
      ·exact hP.up (by omega)
     ·exact ih _ (po hP _ hc)
theorem lnR_pi {ls:List (List UInt8)} {i:Nat} (hl:(ls.getD i default).length≤1000) {x y:Rd} (h:PI ls x.kd i 0 x.out x.ch) (hy:lnR (ls.getD i default) i x= .ok y):PI ls y.kd (i+1) 0 y.out y.ch:=by
 unfold lnR at hy
 split at hy
 ·obtain rfl:=Except.ok.inj hy
  exact h.skip 0
 ·split at hy
  ·cases hy
  ·obtain rfl:=Except.ok.inj hy
   have hA:=n8 (ls.getD i default) x
   have hp:=mZ (kd:=x.kd) ((ls.getD i default).length-lnA (ls.getD i default) x) (lnA (ls.getD i default) x) ⟨x.ch,x.q,lnF x,false,x.out,0⟩ (by omega) (h.up (Nat.zero_le _))
   have hX:PI ls x.kd i (ls.getD i default).length (lnX (ls.getD i default) i x).out (lnX (ls.getD i default) i x).ch:=by
    unfold lnX
    split
    ·exact hp
    ·exact pn hp
   exact hX.line (by split<;>decide) hl
theorem sy {ls:List (List UInt8)} (hl: ∀s∈ls,s.length<1000): ∀(d i:Nat) (x y:Rd),i+d=ls.length→PI ls x.kd i 0 x.out x.ch→rdR (ls.drop i) i x= .ok y→PI ls y.kd ls.length 0 y.out y.ch
 | 0,i,x,y,h,hP,hy=>by
  obtain rfl:i=ls.length:=by omega
  rw[List.drop_length] at hy
  obtain rfl:=Except.ok.inj hy
  exact hP
 | d+1,i,x,y,h,hP,hy=>by
  rw[ay (show i<ls.length by omega)] at hy
  unfold rdR at hy
  cases hx:lnR (ls.getD i default) i x with
  | error e=>rw[hx] at hy; cases hy
  | ok z =>
   rw[hx] at hy
   exact sy hl d (i+1) z y (by omega) (lnR_pi (by
    rw[List.getD_eq_getElem?_getD,List.getElem?_eq_getElem (show i<ls.length by omega)]
    exact Nat.le_of_lt (hl _ (List.getElem_mem _))) hP hx) hy
theorem FRd_pi {ls:List (List UInt8)} (hl: ∀s∈ls,s.length<1000) {y:List Int×List ST} (h:FRd ls= .ok y):PI ls y.1 ls.length 0 y.2 []:=by
 unfold FRd at h
 cases hx:rdR ls 0 rd0 with
 | error e=>rw[hx] at h; cases h
 | ok x =>
  rw[hx] at h
  have hP:=sy hl ls.length 0 rd0 x (by omega) ⟨rfl,[],rfl,(fun p hp=>by cases hp),List.Pairwise.nil,(fun m hm=>by cases hm),by decide⟩ (by rw[List.drop_zero]; exact hx)
  simp only at h
  split at h
  ·cases h
  ·obtain rfl:=Except.ok.inj h
   exact hP.sub (List.nil_sublist _)
theorem RD_pi {n:List UInt8} {free:Bool} {ls:List (List UInt8)} (hl: ∀s∈ls,s.length<1000) {y:List Int×List ST} (h:RD n free ls= .ok y):PI ls y.1 ls.length 0 y.2 []:=by
 unfold RD at h
 split at h
 ·cases h
 ·cases free
  ·simp only[if_neg (c:=false=true) (by decide)] at h
   cases hx:FX ls with
   | error e=>rw[hx] at h; cases h
   | ok z =>
    rw[hx] at h
    obtain rfl:=Except.ok.inj h
    exact FX_pi hx
  ·simp only[eq_self,if_true] at h
   cases hx:FRd ls with
   | error e=>rw[hx] at h; cases h
   | ok z =>
    rw[hx] at h
    obtain rfl:=Except.ok.inj h
    exact FRd_pi hl hx
end Go.Proofs.YtjcbhbncncbdjaaGreatDoorAi
namespace Go.Proofs.YtjcbhbncncbdjaaGreatDoorAi
open Go Go.RowKit
set_option linter.unusedVariables false
set_option linter.unusedSimpArgs false
theorem m5 {ls:List (List UInt8)} (hl:ls.length<9000000000000000000): ∀(d k:Nat),k+d=ls.length→ ∃r,iter (g_7.b0 ls) (k:Int)=some r∧((∃y,r= .inl y)∧(∀s∈ls.drop k,s.length≤200)∨r= .inr false)
 | 0,k,h=>by
  refine⟨.inl (k:Int),ae (by unfold g_7.b0; rw[if_neg (dn (by omega))]),.inl ⟨⟨_,rfl⟩,?_⟩⟩
  rw[show k=ls.length by omega,List.drop_length]
  intro s hs; cases hs
 | d+1,k,h=>by
  have key:g_7.b0 ls (k:Int)=some (if 200<(ls.getD k default).length then .inr (.inr false) else .inl ((k+1:Nat):Int)):=by
   unfold g_7.b0
   rw[if_pos (decide_eq_true (by omega)),if_pos ⟨by omega,by omega⟩,aQ,up1 (by omega)]
   by_cases h2:200<(ls.getD k default).length
   ·rw[if_pos (decide_eq_true (by omega)),if_pos h2]
   ·rw[if_neg (dn (by omega)),if_neg h2]
  by_cases h2:200<(ls.getD k default).length
  ·rw[if_pos h2] at key
   exact⟨_,ae key,.inr rfl⟩
  ·rw[if_neg h2] at key
   obtain⟨r,r1,r2⟩:=m5 hl d (k+1) (by omega)
   refine⟨r,by rw[ak key]; exact r1,r2.imp (fun q=>⟨q.1,fun s hs=>?_⟩) id⟩
   rw[ay (show k<ls.length by omega)] at hs
   rcases List.mem_cons.1 hs with rfl | hs
   ·omega
   ·exact q.2 s hs
theorem few_f (n:List UInt8) {ls:List (List UInt8)} (hl:ls.length<9000000000000000000): ∃b,g_7.f n ls=some b∧(b=true→Few n ls∧ls.length≤405):=by
 obtain⟨r,r1,r2⟩:=m5 hl ls.length 0 (by omega)
 have r1':iter (g_7.b0 ls) 0=some r:=r1
 unfold g_7.f
 rw[r1',Option.bind_some]
 rcases r2 with⟨⟨y,rfl⟩,hy⟩ | rfl
 ·refine⟨_,rfl,fun hb=>?_⟩
  rw[Bool.and_eq_true,decide_eq_true_eq,decide_eq_true_eq] at hb
  rw[List.drop_zero] at hy
  exact⟨⟨by omega,by omega,fun s hs=>by have:=hy s hs; omega⟩,by omega⟩
 ·exact⟨false,rfl,fun hb=>by cases hb⟩
theorem m6 {ls:List (List UInt8)} (h:ls.length<1000000000):g_1.f ls=some ls:=by
 unfold g_1.f
 rw[if_pos ⟨by omega,by omega⟩,if_pos (by simp)]
theorem oc (n:List UInt8) (free:Bool) {ls:List (List UInt8)} (h:ls.length<1000000000):g_9.f n free ls=some (n,free,ls):=by
 unfold g_9.f
 rw[m6 h,Option.bind_some]
theorem sE (l:List Mk1) (a:Nat):(tx l).getD a default=(l.getD a default).1:=by
 unfold tx
 rw[List.getD_eq_getElem?_getD,List.getElem?_map,List.getD_eq_getElem?_getD]
 cases l[a]? <;> rfl
theorem sF (a b c:Int):g_4.f a b c=some (decide (b≤a)&&decide (a≤c)):=by
 unfold g_4.f
 congr 1
 rw[Bool.eq_iff_iff]
 simp
theorem sG: ∀L:List (Int×List Mk1),(∀p∈L,p.2≠ [])→L.length≤(fl L).length∧ ∀p∈L,p.2.length≤(fl L).length
 | [],h=>⟨Nat.le_refl _,fun p hp=>by cases hp⟩
 | q::L,h=>by
  obtain⟨h1,h2⟩:=sG L (fun p hp=>h p (List.mem_cons_of_mem _ hp))
  have h0:0<q.2.length:=List.length_pos_iff.2 (h q (by simp))
  have e:fl (q::L)=q.2++fl L:=by unfold fl; simp
  rw[e,List.length_append]
  refine⟨by simp only[List.length_cons]; omega,fun p hp=>?_⟩
  rcases List.mem_cons.1 hp with rfl | hp
  ·omega
  ·have:=h2 p hp; omega
end Go.Proofs.YtjcbhbncncbdjaaGreatDoorAi
namespace Go.Proofs.YtjcbhbncncbdjaaGreatDoorAi
open Go Go.RowKit
set_option linter.unusedVariables false
set_option linter.unusedSimpArgs false
def nt (o:List ST):List (Int×List UInt8):=o.map fun s=>(s.1,s.2.1)
theorem sI (s:List UInt8) (l:List (List UInt8)) (i:Nat) (x:Fz):fxR (s::l) i x=match fxL s i x with | .error e=> .error e | .ok y=>fxR l (i+1) y:=rfl
theorem nt_at {o o':List ST} (h:nt o=nt o') (k:Nat):(o.getD k default).1=(o'.getD k default).1∧(o.getD k default).2.1=(o'.getD k default).2.1:=by
 have e: ∀p:List ST,(nt p).getD k default=((p.getD k default).1,(p.getD k default).2.1):=fun p=>by
  unfold nt
  rw[List.getD_eq_getElem?_getD,List.getElem?_map,List.getD_eq_getElem?_getD]
  cases p[k]? <;> rfl
 have:=(e o).symm.trans ((congrArg (fun l=>List.getD l k default) h).trans (e o'))
 exact Prod.mk.inj this
theorem e8 {o o':List ST} (h:nt o=nt o') (hl:o.length=o'.length) (hb:o.length<1000000000): ∀(d k:Nat),k+d=o.length→ ∃y,iter (g_b.b0 o o') (k:Int)=some (.inl y)
 | 0,k,hk=>⟨_,ae (by unfold g_b.b0; rw[if_neg (dn (by omega))])⟩
 | d+1,k,hk=>by
  obtain⟨h1,h2⟩:=nt_at h k
  have key:g_b.b0 o o' (k:Int)=some (.inl ((k+1:Nat):Int)):=by
   unfold g_b.b0
   have hb1:0≤(k:Int)∧(k:Int)<(o.length:Int):=⟨by omega,by omega⟩
   have hb2:0≤(k:Int)∧(k:Int)<(o'.length:Int):=⟨by omega,by omega⟩
   simp only[aQ,if_pos hb1,if_pos hb2,h1,h2]
   rw[if_pos (decide_eq_true hb1.2),if_neg (by simp),if_neg (by simp),up1 (by omega)]
  obtain⟨y,q⟩:=e8 h hl hb d (k+1) (by omega)
  exact⟨y,by rw[ak key]; exact q⟩
theorem m7 {o o':List ST} (h:nt o=nt o') (hb:o.length<1000000000):g_b.f o o'=some true:=by
 have hl:o.length=o'.length:=by
  have:=congrArg List.length h
  unfold nt at this
  simpa using this
 obtain⟨y,q⟩:=e8 h hl hb o.length 0 (by omega)
 have q':iter (g_b.b0 o o') 0=some (.inl y):=q
 unfold g_b.f
 rw[if_neg (by simp[hl]),q',Option.bind_some]; rfl
end Go.Proofs.YtjcbhbncncbdjaaGreatDoorAi
namespace Go.Proofs.YtjcbhbncncbdjaaGreatDoorAi
open Go Go.RowKit
set_option linter.unusedVariables false
set_option linter.unusedSimpArgs false
theorem la {l:List Mk1} {n:Int} {p:List Pl} (hl:l.length<1000000): ∀(d k:Nat),k+d=l.length→iter (g_h.b0 (n,tx l,p)) (k:Int)=some ((k+dgs (l.drop k):Nat):Int)
 | 0,k,h=>by
  rw[show k=l.length by omega,List.drop_length]
  exact ae (by unfold g_h.b0; simp only; rw[if_neg (dn (by rw[bN]; omega))]; rfl)
 | d+1,k,h=>by
  have key:g_h.b0 (n,tx l,p) (k:Int)=some (if dr (l.getD k default).1=true then .inl ((k+1:Nat):Int) else .inr (k:Int)):=by
   unfold g_h.b0
   simp only
   rw[if_pos (decide_eq_true (by rw[bN]; omega)),if_pos ⟨by omega,by rw[bN]; omega⟩,aQ,sE,iu,up1 (by omega)]
   cases dr (l.getD k default).1<;>rfl
  rw[ay (show k<l.length by omega)]
  unfold dgs
  cases hd:dr (l.getD k default).1
  ·rw[hd] at key
   rw[ae key]; rfl
  ·rw[hd] at key
   rw[ak key,if_pos rfl,la hl d (k+1) (by omega)]
   congr 2; omega
theorem qy {y9:List Mk1} {n0:Int} {p:List Pl} {n:Nat} (hn:n≤5) (hle:n≤y9.length) (hd: ∀k,k<n→dr (y9.getD k default).1=true): ∀(d k:Nat) (v:Int),k+d=n→0≤v→v<10 ^ k →
  iter (g_h.b1 (n0,tx y9,p) (n:Int)) (v,(k:Int))=some (vlD ((y9.take n).drop k) v,(n:Int)):=by
 have hlen:(y9.take n).length=n:=by rw[List.length_take]; omega
 intro d
 induction d with
 | zero =>
  intro k v h _ _
  rw[show k=n by omega]
  refine ae ?_
  unfold g_h.b1
  simp only
  rw[if_neg (dn (by omega)),List.drop_eq_nil_of_le (by omega)]; rfl
 | succ d ih =>
  intro k v h h0 h1
  have hk:k<(y9.take n).length:=by omega
  have hp:(10:Int) ^ k≤10 ^ 5:=by
   have:(10:Nat) ^ k≤10 ^ 5:=Nat.pow_le_pow_right (by decide) (by omega)
   exact_mod_cast this
  have hp':(10:Int) ^ 5=100000:=by decide
  have eg:(y9.take n).getD k default=y9.getD k default:=by
   rw[List.getD_eq_getElem?_getD,List.getElem?_take,if_pos (by omega),List.getD_eq_getElem?_getD]
  obtain⟨_,d1,d2⟩:=iy (hd k (by omega))
  have key:g_h.b1 (n0,tx y9,p) (n:Int) (v,(k:Int))=some (.inl (10*v+dv (y9.getD k default).1,((k+1:Nat):Int))):=by
   unfold g_h.b1
   simp only
   rw[if_pos (decide_eq_true (by omega)),if_pos ⟨by omega,by rw[bN]; omega⟩,aQ,sE,iQ,co (x:=10*v) (by omega) (by omega),co (by omega) (by omega),up1 (by omega)]
  rw[ak key,ih (k+1) _ (by omega) (by omega) (by rw[Int.pow_succ]; omega)]
  conv=>rhs; rw[ay hk,eg]
  rfl
theorem pp {M:List Mk1} (hc:M.length<1000000): ∃y,g_h.f 0 (tx M) (pl M)=some y∧y.2.2.2=enE M∧(enE M=0→(y.1,y.2.1,y.2.2.1)=dl (enL M).1 (enL M).2.1):=by
 have h1:=jX (lf M)
 have h2:=jY M
 unfold g_h.f enE enL
 have hb:=mS hc 0 0 (Nat.zero_le _)
 rw[List.drop_zero] at hb
 have hb':g_d.f 0 (tx M) (pl M) 0=some (dl 0 (lf M)):=hb
 rw[hb',Option.bind_some]
 have ht:g_n.f (dl 0 (lf M)).1 (dl 0 (lf M)).2.1 (dl 0 (lf M)).2.2=some (dl 0 (rt (lf M))):=kY (by omega) 0
 rw[ht,Option.bind_some]
 generalize hl:rt (lf M)=l at *
 have hd:=la (l:=l) (n:=0) (p:=pl l) (by omega) l.length 0 (by omega)
 rw[List.drop_zero,Nat.zero_add] at hd
 have hd':iter (g_h.b0 (dl 0 l)) 0=some ((dgs l:Nat):Int):=hd
 rw[hd',Option.bind_some]
 have hdl:=n6 l
 have hw:g_4.f ((dgs l:Nat):Int) 1 5=some (decide (1≤dgs l)&&decide (dgs l≤5)):=by
  rw[sF]
  congr 1
  congr 1
  ·exact decide_eq_decide.2 (by omega)
  ·exact decide_eq_decide.2 (by omega)
 rw[hw,Option.bind_some]
 have e1:(dl 0 l).2.1=tx l:=rfl
 have e2:(dl 0 l).2.2=pl l:=rfl
 have e3:(dl 0 l).1=0:=rfl
 simp only[e1,e2,e3]
 have hcond:(if((decide (1≤dgs l)&&decide (dgs l≤5))&&decide (((dgs l:Nat):Int)<((tx l).length:Int)))=true then(if 0≤((dgs l:Nat):Int)∧((dgs l:Nat):Int)<((tx l).length:Int) then some (((gt (tx l) ((dgs l:Nat):Int)).toNat:Int)==((32:UInt8).toNat:Int)) else none) else some false)=some (decide (1≤dgs l∧dgs l≤5∧dgs l<l.length∧(l.getD (dgs l) default).1=32)):=by
  rw[bN]
  by_cases g1:1≤dgs l∧dgs l≤5∧dgs l<l.length
  ·rw[if_pos (by rw[Bool.and_eq_true,Bool.and_eq_true,decide_eq_true_eq,decide_eq_true_eq,decide_eq_true_eq]; exact⟨⟨g1.1,g1.2.1⟩,by omega⟩),if_pos ⟨by omega,by omega⟩,aQ,sE,cX]
   congr 1
   exact decide_eq_decide.2 ⟨fun q=>⟨g1.1,g1.2.1,g1.2.2,q⟩,fun q=>q.2.2.2⟩
  ·rw[if_neg (by rw[Bool.and_eq_true,Bool.and_eq_true,decide_eq_true_eq,decide_eq_true_eq,decide_eq_true_eq]; intro q; exact g1 ⟨q.1.1,q.1.2,by omega⟩),decide_eq_false (fun q=>g1 ⟨q.1,q.2.1,q.2.2.1⟩)]
 rw[hcond,Option.bind_some]
 by_cases g:1≤dgs l∧dgs l≤5∧dgs l<l.length∧(l.getD (dgs l) default).1=32
 ·have hv:=qy (y9:=l) (n0:=0) (p:=pl l) (n:=dgs l) g.2.1 hdl (iR l) (dgs l) 0 0 (by omega) (Int.le_refl _) (by decide)
  rw[List.drop_zero] at hv
  have hv':iter (g_h.b1 (dl 0 l) ((dgs l:Nat):Int)) (0,0)=some (vlD (l.take (dgs l)) 0,((dgs l:Nat):Int)):=hv
  rw[if_pos (decide_eq_true g),if_pos g,hv',Option.bind_some]
  simp only
  by_cases hz:vlD (l.take (dgs l)) 0=0
  ·rw[if_pos (by rw[hz]; rfl),if_pos hz,Option.bind_some,if_pos (c:=(2:Int)≠0) (by decide)]
   exact⟨_,rfl,rfl,fun q=>absurd q (by decide)⟩
  ·rw[if_neg (by simpa using hz),if_neg hz,mS (by omega) 0 (dgs l) hdl,Option.bind_some,Option.bind_some]
   have e4: ∀k:List Mk1,(dl 0 k).2.1=tx k:=fun _=>rfl
   show ∃y,(if(decide (((tx (lf (l.drop (dgs l)))).length:Int)>1320))=true then _ else _)=some y∧_
   rw[bN,if_neg (c:=(0:Int)≠0) (fun q=>q rfl)]
   by_cases h8:1320<(lf (l.drop (dgs l))).length
   ·rw[if_pos (decide_eq_true (by omega)),if_pos h8]
    exact⟨_,rfl,rfl,fun q=>absurd q (by decide)⟩
   ·rw[if_neg (dn (by omega)),if_neg h8]
    exact⟨_,rfl,rfl,fun _=>rfl⟩
 ·rw[if_neg (dn g),if_neg g,Option.bind_some]
  show ∃y,(if(decide (((tx l).length:Int)>1320))=true then _ else _)=some y∧_
  rw[bN,if_neg (c:=(0:Int)≠0) (fun q=>q rfl)]
  by_cases h8:1320<l.length
  ·rw[if_pos (decide_eq_true (by omega)),if_pos h8]
   exact⟨_,rfl,rfl,fun q=>absurd q (by decide)⟩
  ·rw[if_neg (dn (by omega)),if_neg h8]
   exact⟨_,rfl,rfl,fun _=>rfl⟩
def qn (q c:UInt8):UInt8:=if q=0∧isQ c=true then c else if c=q then 0 else q
def gox (q:UInt8) (r:List UInt8):Bool:=decide (ltr r= [])||(decide (q=0)&&decide ((ltr r).getD 0 default=33))
def lk:List UInt8→Nat→UInt8→Nat×Bool×Bool×UInt8
 | [],a,q=>(a,false,false,q)
 | c::r,a,q =>
  if c=38∧gox q r=true then(a,false,true,q)
  else if q=0∧c=33 then(a,false,false,q)
  else if q=0∧c=38 then(0,true,false,0)
  else lk r (a+1) (qn q c)
theorem qz {s:List UInt8} (hs:s.length<1000) {a:Nat} (ha:a<s.length) (q:UInt8):g_m.b0 s ((a:Int),q)=some (
  if s.getD a default=38∧gox q (s.drop (a+1))=true then .inr (.inr ((a:Int),false,true,q))
  else if q=0∧s.getD a default=33 then .inr (.inl ((a:Int),q))
  else if q=0∧s.getD a default=38 then .inr (.inr (0,true,false,0))
  else .inl (((a+1:Nat):Int),qn q (s.getD a default))):=by
 have e:g_m.b1 s ((a:Int),q)=g_d.b0 (s.drop (a+1)):=by
  funext x
  unfold g_m.b1 g_d.b0
  simp only[up1 (show a<9000000000000000000 by omega),cO]
 have hb:=dX (t:=s.drop (a+1)) (by rw[List.length_drop]; omega) (s.drop (a+1)).length 0 (by omega)
 rw[List.drop_zero] at hb
 have hb':iter (g_d.b0 (s.drop (a+1))) 0=some (((s.drop (a+1)).length-(ltr (s.drop (a+1))).length:Nat):Int):=hb
 have hle:(ltr (s.drop (a+1))).length≤(s.drop (a+1)).length:=eZ _ _
 have hlen:(s.drop (a+1)).length=s.length-(a+1):=List.length_drop
 unfold g_m.b0
 simp only[e]
 rw[if_pos (decide_eq_true (by omega)),if_pos ⟨by omega,by omega⟩,up1 (by omega),if_pos ⟨by omega,by omega,Int.le_refl _⟩,hb',Option.bind_some,aQ,cO]
 generalize hc:s.getD a default=c at *
 generalize hr:s.drop (a+1)=r at *
 have hg:(if(((r.length-(ltr r).length:Nat):Int)==(r.length:Int))=true then some true else Option.bind (if(((q.toNat:Int))==((0:UInt8).toNat:Int))=true then(if 0≤((r.length-(ltr r).length:Nat):Int)∧((r.length-(ltr r).length:Nat):Int)<(r.length:Int) then some (((gt r ((r.length-(ltr r).length:Nat):Int)).toNat:Int)==((33:UInt8).toNat:Int)) else none) else some false) fun z23=>some z23)=some (gox q r):=by
  unfold gox
  cases hz:ltr r with
  | nil=>rw[if_pos (by simp)]; rfl
  | cons c0 l0 =>
   rw[hz] at hle
   have hn:r.length-(c0::l0).length<r.length:=by simp at hle ⊢; omega
   have eg:gt r ((r.length-(c0::l0).length:Nat):Int)=c0:=by
    rw[aQ]
    have:=gS r
    rw[hz] at this
    have h2:=ay hn
    rw[← this] at h2
    exact(List.cons.inj h2).1.symm
   rw[if_neg (by simp; simp at hn; omega),cX,if_pos (c:=0≤_∧_) ⟨by omega,by omega⟩,eg,cX]
   by_cases hq:q=0
   ·rw[decide_eq_true hq]; simp
   ·rw[decide_eq_false hq]; simp
 rw[hg]
 simp only[cX,Option.bind_some]
 by_cases h38:c=38
 ·rw[decide_eq_true h38,if_pos rfl]
  cases hgx:gox q r
  ·rw[Option.bind_some,if_neg (c:=false=true) (by decide),if_neg (c:=c=38∧_) (fun k=>by cases k.2)]
   by_cases hq:q=0
   ·subst hq
    subst h38
    rfl
   ·rw[decide_eq_false hq]
    simp only[Bool.false_and,Bool.false_eq_true,if_false]
    rw[if_neg (c:=q=0∧_) (fun k=>hq k.1),if_neg (c:=q=0∧_) (fun k=>hq k.1)]
    unfold qn
    rw[if_neg (c:=q=0∧_) (fun k=>hq k.1)]
    by_cases h5:c=q
    ·rw[decide_eq_true h5,if_pos h5]; rfl
    ·rw[decide_eq_false h5,if_neg h5]; rfl
  ·rw[Option.bind_some,if_pos (c:=true=true) rfl,if_pos (c:=c=38∧_) ⟨h38,rfl⟩]; rfl
 ·rw[decide_eq_false h38,if_neg (c:=false=true) (by decide),Option.bind_some,if_neg (c:=false=true) (by decide),if_neg (c:=c=38∧_) (fun k=>h38 k.1)]
  by_cases hq:q=0
  ·rw[decide_eq_true hq]
   simp only[Bool.true_and,Bool.and_false,Bool.false_eq_true,if_false]
   by_cases h33:c=33
   ·rw[decide_eq_true h33,if_pos (c:=true=true) rfl,if_pos ⟨hq,h33⟩]; rfl
   ·rw[decide_eq_false h33,if_neg (c:=false=true) (by decide),if_neg (c:=q=0∧c=33) (fun k=>h33 k.2),if_neg (c:=q=0∧c=38) (fun k=>h38 k.2)]
    unfold qn
    have hi:(decide (c=39)||decide (c=34))=isQ c:=rfl
    rw[hi]
    cases hqc:isQ c
    ·rw[if_neg (c:=false=true) (by decide),if_neg (c:=q=0∧_) (fun k=>by cases k.2)]
     by_cases h5:c=q
     ·rw[decide_eq_true h5,if_pos h5]; rfl
     ·rw[decide_eq_false h5,if_neg h5]; rfl
    ·rw[if_pos (c:=true=true) rfl,if_pos ⟨hq,rfl⟩]; rfl
  ·rw[decide_eq_false hq]
   simp only[Bool.false_and,Bool.false_eq_true,if_false]
   rw[if_neg (c:=q=0∧_) (fun k=>hq k.1),if_neg (c:=q=0∧_) (fun k=>hq k.1)]
   unfold qn
   rw[if_neg (c:=q=0∧_) (fun k=>hq k.1)]
   by_cases h5:c=q
   ·rw[decide_eq_true h5,if_pos h5]; rfl
   ·rw[decide_eq_false h5,if_neg h5]; rfl
theorem lc {s:List UInt8} (hs:s.length<1000): ∀(d a:Nat) (q:UInt8),a+d=s.length→ ∃r,iter (g_m.b0 s) ((a:Int),q)=some r∧(match r with | .inl y=>(y.1,false,false,y.2) | .inr v=>v)=(((lk (s.drop a) a q).1:Int),(lk (s.drop a) a q).2)
 | 0,a,q,h=>by
  rw[List.drop_eq_nil_of_le (by omega)]
  exact⟨.inl ((a:Int),q),ae (by unfold g_m.b0; simp only; rw[if_neg (dn (by omega))]),rfl⟩
 | d+1,a,q,h=>by
  have key:=qz hs (a:=a) (by omega) q
  rw[ay (show a<s.length by omega)]
  unfold lk
  by_cases h1:s.getD a default=38∧gox q (s.drop (a+1))=true
  ·rw[if_pos h1] at key ⊢
   exact⟨_,ae key,rfl⟩
  ·rw[if_neg h1] at key ⊢
   by_cases h2:q=0∧s.getD a default=33
   ·rw[if_pos h2] at key ⊢
    exact⟨_,ae key,rfl⟩
   ·rw[if_neg h2] at key ⊢
    by_cases h3:q=0∧s.getD a default=38
    ·rw[if_pos h3] at key ⊢
     exact⟨_,ae key,rfl⟩
    ·rw[if_neg h3] at key ⊢
     obtain⟨r,r1,r2⟩:=lc hs d (a+1) (qn q (s.getD a default)) (by omega)
     exact⟨r,by rw[ak key]; exact r1,r2⟩
theorem look_f {s:List UInt8} (hs:s.length<1000) {a:Nat} (ha:a≤s.length) (q:UInt8):g_m.f s (a:Int) q=some (((lk (s.drop a) a q).1:Int),(lk (s.drop a) a q).2):=by
 obtain⟨r,r1,r2⟩:=lc hs (s.length-a) a q (by omega)
 unfold g_m.f
 rw[r1,Option.bind_some,← r2]
 cases r<;>rfl
def pas (i:Nat):List UInt8→Nat→Rw→Rw
 | [],_,x=>x
 | c::r,a,x=>if x.q=0∧c=59 then pas i r (a+1) (dm x) else pas i r (a+1) (dP x c i a (qn x.q c))
theorem gox_q {q:UInt8} (h:q≠0) (r:List UInt8):gox q r=bl r:=by
 unfold gox
 rw[decide_eq_false h,Bool.false_and,Bool.or_false]
 rw[Bool.eq_iff_iff,decide_eq_true_eq]
 unfold ltr bl
 rw[ga,List.all_eq_true]
theorem gox_0 (r:List UInt8):gox 0 r=kq r:=rfl
theorem gT (i:Nat): ∀(l:List UInt8) (a:Nat) (x:Rw),(cv i l a x).2.1=(lk l a x.q).2.2.1∧(cv i l a x).2.2=(lk l a x.q).2.1 ∧
  ((lk l a x.q).2.1=false→ ∃n,n≤l.length∧(lk l a x.q).1=a+n∧(cv i l a x).1=pas i (l.take n) a x∧(lk l a x.q).2.2.2=(pas i (l.take n) a x).q)
 | [],a,x=>⟨rfl,rfl,fun _=>⟨0,Nat.le_refl _,rfl,rfl,rfl⟩⟩
 | c::r,a,x=>by
  unfold cv lk
  have go: ∀y:Rw,pas i (c::r.take 0) a x=pas i [] (a+1) y∨True:=fun _=> .inr trivial
  by_cases hq:x.q=0
  ·rw[if_neg (c:=x.q≠0) (fun k=>k hq)]
   by_cases h33:c=33
   ·rw[if_pos h33,if_neg (c:=c=38∧_) (fun k=>by rw[h33] at k; exact absurd k.1 (by decide)),if_pos (c:=x.q=0∧_) ⟨hq,h33⟩]
    exact⟨rfl,rfl,fun _=>⟨0,Nat.zero_le _,rfl,rfl,rfl⟩⟩
   ·rw[if_neg h33]
    by_cases h59:c=59
    ·rw[if_pos h59,if_neg (c:=c=38∧_) (fun k=>by rw[h59] at k; exact absurd k.1 (by decide)),if_neg (c:=x.q=0∧c=33) (fun k=>h33 k.2),if_neg (c:=x.q=0∧c=38) (fun k=>by rw[h59] at k; exact absurd k.2 (by decide))]
     have hqn:qn x.q c=(dm x).q:=by
      unfold qn
      rw[h59,hq,if_neg (by decide),if_neg (by decide)]
      show 0=x.q
      exact hq.symm
     rw[hqn]
     obtain⟨p1,p2,p3⟩:=gT i r (a+1) (dm x)
     refine⟨p1,p2,fun hs=>?_⟩
     obtain⟨n,n1,n2,n3,n4⟩:=p3 hs
     refine⟨n+1,by simp; omega,by omega,?_,?_⟩
     ·rw[List.take_succ_cons]; unfold pas; rw[if_pos ⟨hq,h59⟩]; exact n3
     ·rw[List.take_succ_cons]; unfold pas; rw[if_pos ⟨hq,h59⟩]; exact n4
    ·rw[if_neg h59]
     by_cases h38:c=38
     ·rw[if_pos h38,hq,gox_0]
      cases hn:kq r
      ·rw[if_neg (by decide),if_neg (c:=c=38∧_) (fun k=>by cases k.2),if_neg (c:=(0:UInt8)=0∧c=33) (fun k=>h33 k.2),if_pos (c:=(0:UInt8)=0∧c=38) ⟨rfl,h38⟩]
       exact⟨rfl,rfl,fun k=>by cases k⟩
      ·rw[if_pos rfl,if_pos (c:=c=38∧_) ⟨h38,rfl⟩]
       exact⟨rfl,rfl,fun _=>⟨0,Nat.zero_le _,rfl,rfl,hq.symm⟩⟩
     ·rw[if_neg h38,if_neg (c:=c=38∧_) (fun k=>h38 k.1),if_neg (c:=x.q=0∧c=33) (fun k=>h33 k.2),if_neg (c:=x.q=0∧c=38) (fun k=>h38 k.2)]
      have hqn:(if isQ c=true then c else 0)=qn x.q c:=by
       unfold qn
       rw[hq]
       by_cases h6:isQ c=true
       ·rw[if_pos h6,if_pos ⟨rfl,h6⟩]
       ·rw[if_neg h6,if_neg (fun k=>h6 k.2)]
        split<;>rfl
      rw[hqn]
      obtain⟨p1,p2,p3⟩:=gT i r (a+1) (dP x c i a (qn x.q c))
      refine⟨p1,p2,fun hs=>?_⟩
      obtain⟨n,n1,n2,n3,n4⟩:=p3 hs
      have n2:(lk r (a+1) (qn x.q c)).1=a+1+n:=n2
      refine⟨n+1,by simp; omega,by omega,?_,?_⟩
      ·rw[List.take_succ_cons]; unfold pas; rw[if_neg (fun k=>h59 k.2)]; exact n3
      ·rw[List.take_succ_cons]; unfold pas; rw[if_neg (fun k=>h59 k.2)]; exact n4
  ·rw[if_pos (c:=x.q≠0) hq,gox_q hq]
   by_cases h1:c=38∧bl r=true
   ·rw[if_pos h1,if_pos h1]
    exact⟨rfl,rfl,fun _=>⟨0,Nat.zero_le _,rfl,rfl,rfl⟩⟩
   ·rw[if_neg h1,if_neg h1,if_neg (c:=x.q=0∧_) (fun k=>hq k.1),if_neg (c:=x.q=0∧_) (fun k=>hq k.1)]
    have hqn:(if c=x.q then 0 else x.q)=qn x.q c:=by
     unfold qn
     rw[if_neg (c:=x.q=0∧_) (fun k=>hq k.1)]
    rw[hqn]
    obtain⟨p1,p2,p3⟩:=gT i r (a+1) (dP x c i a (qn x.q c))
    refine⟨p1,p2,fun hs=>?_⟩
    obtain⟨n,n1,n2,n3,n4⟩:=p3 hs
    have n2:(lk r (a+1) (qn x.q c)).1=a+1+n:=n2
    refine⟨n+1,by simp; omega,by omega,?_,?_⟩
    ·rw[List.take_succ_cons]; unfold pas; rw[if_neg (fun k=>hq k.1)]; exact n3
    ·rw[List.take_succ_cons]; unfold pas; rw[if_neg (fun k=>hq k.1)]; exact n4
theorem sJ (i:Nat): ∀(l:List UInt8) (a:Nat) (x:Rw),x.e≠0→(pas i l a x).e=x.e
 | [],a,x,h=>rfl
 | c::r,a,x,h=>by
  unfold pas
  split
  ·have he:(dm x).e=x.e:=by unfold dm; simp only; rw[if_pos h]
   rw[sJ i r _ _ (by rw[he]; exact h),he]
  ·exact sJ i r _ _ h
end Go.Proofs.YtjcbhbncncbdjaaGreatDoorAi
namespace Go.Proofs.YtjcbhbncncbdjaaGreatDoorAi
open Go Go.RowKit
set_option linter.unusedVariables false
set_option linter.unusedSimpArgs false
theorem od {M N:List Mk1} (h:lf M=lf N):enL M=enL N:=by unfold enL; rw[h]
theorem l7 {M N:List Mk1} (h:lf M=lf N):enE M=enE N:=by unfold enE; rw[od h]
theorem bl_tx (M:List Mk1):bl (tx M)=decide (lf M= []):=by
 rw[Bool.eq_iff_iff,decide_eq_true_eq,← tx_nil',sj]
 unfold bl ltr
 rw[ga,List.all_eq_true]
where tx_nil' {l:List Mk1}:tx l= []↔l= []:=List.map_eq_nil_iff
abbrev RV:Type:=List ST×List Int×Int×Int
abbrev RS8:Type:=Int×List UInt8×List Pl×UInt8×Int×Bool×List ST×List Int
abbrev B7:Type:=Int×Int×List UInt8×List Pl×UInt8×Int×List ST
def kdI (b:Bool):Int:=if b=true then 1 else 2
def j7 (M:List Mk1) (x:Rw) (a:Nat):B7:=((a:Int),kdI x.st,tx M,pl M,x.q,(x.f:Int),x.out)
theorem sK (M:List Mk1) (m:Mk1):lf (M++ [m])=if lf M= [] then lf [m] else lf M++ [m]:=by
 unfold lf
 induction M with
 | nil=>rfl
 | cons x M ih =>
  rw[List.cons_append,List.dropWhile_cons,List.dropWhile_cons]
  cases gb x
  ·rw[if_neg (c:=false=true) (by decide),if_neg (c:=false=true) (by decide),if_neg (by simp)]; rfl
  ·rw[if_pos (c:=true=true) rfl,if_pos (c:=true=true) rfl]; exact ih
theorem putR_lf {x:Rw} {M:List Mk1} (h:lf M=lf x.ch) (c:UInt8) (i a:Nat) (q:UInt8):lf (M++ [(c,0,(i:Int),((a+1:Nat):Int))])=lf (dP x c i a q).ch:=by
 unfold dP
 simp only
 rw[sK,sK,h]
 unfold j5
 by_cases h1:lf x.ch= []
 ·rw[if_pos h1]
  by_cases h2:c=32
  ·rw[decide_eq_false (show ¬ c≠32 from fun k=>k h2),Bool.false_and,if_neg (c:=false=true) (by decide),if_pos h1]
  ·rw[decide_eq_true (show c≠32 from h2),decide_eq_true h1]; rfl
 ·rw[decide_eq_false h1,Bool.and_false,if_neg h1,if_neg (c:=false=true) (by decide),if_neg h1]
theorem putR_st {x:Rw} {M:List Mk1} (h:lf M=lf x.ch) (c:UInt8) (i a:Nat) (q:UInt8):(if(decide (c≠32)&&bl (tx M))=true then 1 else kdI x.st)=kdI (dP x c i a q).st:=by
 rw[bl_tx,h]
 show _=kdI (if j5 x c=true then true else x.st)
 have e:j5 x c=(decide (c≠32)&&decide (lf x.ch= [])):=rfl
 rw[← e]
 cases j5 x c<;>rfl
theorem sL {α:Type} [Inhabited α] {l:List α} {a:Nat} (h:a<l.length):(l.take (a+1)).drop a= [l.getD a default]:=by
 rw[List.getD_eq_getElem?_getD,List.getElem?_eq_getElem h,List.take_succ_eq_append_getElem h,List.drop_append_of_le_length (by rw[List.length_take]; omega),List.drop_eq_nil_of_le (by rw[List.length_take]; omega)]; rfl
theorem b2_step {ls:List (List UInt8)} {i:Nat} {x5:RS8} (h5:x5.1=(i:Int)) {y117:Int×Bool×Bool×UInt8} {e:Nat} (hy:y117.1=(e:Int)) (hs:(ls.getD i default).length<1000) (he:e≤(ls.getD i default).length) {a:Nat} (ha:a<e) {M:List Mk1} (hM:M.length<900000) {x:Rw} (ho:x.out.length<900000000) (h:lf M=lf x.ch) :
  g_j.b2 ls x5 y117 (j7 M x a)=some (
   let c:=(ls.getD i default).getD a default
   if x.q=0∧c=59 then(if enE x.ch≠0 then .inr (.inr ([],[],(i:Int),enE x.ch)) else .inl (j7 [] (dm x) (a+1)))
   else .inl (j7 (M++ [(c,0,(i:Int),((a+1:Nat):Int))]) (dP x c i a (qn x.q c)) (a+1))):=by
 have hb:0≤(a:Int)∧(a:Int)<((ls.getD i default).length:Int):=⟨by omega,by omega⟩
 unfold g_j.b2 j7
 simp only[h5,hy,aQ,up1 (show a<9000000000000000000 by omega),if_pos hb,cX,fw]
 rw[if_pos (decide_eq_true (show(a:Int)<(e:Int) by omega))]
 generalize hc:(ls.getD i default).getD a default=c
 by_cases hq:x.q=0∧c=59
 ·obtain⟨y,y1,y2,y3⟩:=pp (M:=M) (by omega)
  rw[l7 h,od h] at y3
  rw[l7 h] at y2
  rw[if_pos (by rw[decide_eq_true hq.1,decide_eq_true hq.2]; rfl),if_pos hq,y1,Option.bind_some]
  by_cases hE:enE x.ch=0
  ·have y3:=y3 hE
   rw[if_neg (by rw[y2,hE]; decide),if_neg (c:=enE x.ch≠0) (fun k=>k hE)]
   have t1:y.1=(enL x.ch).1:=congrArg (·.1) y3
   have t2:y.2.1=tx (enL x.ch).2.1:=congrArg (·.2.1) y3
   have hout:(dm x).out=enO x.ch x.out:=rfl
   unfold enO at hout
   by_cases hn:(enL x.ch).2.1= []
   ·rw[if_pos hn] at hout
    rw[if_neg (by rw[t2,hn]; decide),Option.bind_some,hout]
    rw[show(dm x).q=0 from hq.1]
    rfl
   ·rw[if_neg hn] at hout
    rw[if_pos (by
     rw[t2,Bool.not_eq_true',decide_eq_false_iff_not]
     exact fun k=>hn (List.map_eq_nil_iff.1 k)),if_pos (by simp; omega),Option.bind_some,hout,y3]
    rw[show(dm x).q=0 from hq.1]
    rfl
  ·rw[if_pos (by rw[y2]; simpa using hE),if_pos hE,y2]
 ·rw[if_neg (by
   intro k
   rw[Bool.and_eq_true,decide_eq_true_eq,decide_eq_true_eq] at k
   exact hq k),if_neg hq,ey (by rw[bN]; omega)]
  have e1:(Option.bind (if(!decide (c=32))=true then Option.bind (some (bl (tx M))) fun y205=>some y205 else some false) fun z203=>if z203=true then some (1:Int) else some (kdI x.st))=some (kdI (dP x c i a (qn x.q c)).st):=by
   rw[← putR_st h]
   by_cases h32:c=32
   ·rw[decide_eq_true h32,decide_eq_false (show ¬ c≠32 from fun k=>k h32)]; rfl
   ·rw[decide_eq_false h32,decide_eq_true (show c≠32 from h32)]
    cases bl (tx M)<;>rfl
  have e2:(if(decide (x.q=0)&&(decide (c=39)||decide (c=34)))=true then some c else if decide (c=x.q)=true then some (0:UInt8) else some x.q)=some (qn x.q c):=by
   unfold qn isQ
   by_cases h1:x.q=0
   ·rw[decide_eq_true h1,Bool.true_and]
    by_cases h2:(decide (c=39)||decide (c=34))=true
    ·rw[if_pos h2,if_pos ⟨h1,h2⟩]
    ·rw[if_neg h2,if_neg (c:=x.q=0∧_) (fun k=>h2 k.2)]
     by_cases h3:c=x.q
     ·rw[decide_eq_true h3,if_pos h3]; rfl
     ·rw[decide_eq_false h3,if_neg h3]; rfl
   ·rw[decide_eq_false h1,Bool.false_and,if_neg (c:=false=true) (by decide),if_neg (c:=x.q=0∧_) (fun k=>h1 k.1)]
    by_cases h3:c=x.q
    ·rw[decide_eq_true h3,if_pos h3]; rfl
    ·rw[decide_eq_false h3,if_neg h3]; rfl
  rw[e1,Option.bind_some,e2,Option.bind_some]
  have hm:mid (ls.getD i default) (a:Int) ((a+1:Nat):Int)= [c]:=by
   show((ls.getD i default).take (a+1)).drop a= [c]
   rw[sL (by omega),hc]
  rw[hm,if_pos ⟨by omega,by omega,by omega⟩,if_pos (by rw[bN]; simp; omega),if_pos (by rw[jZ]; simp; omega)]
  unfold tx pl
  rw[List.map_append,List.map_append]
  rfl
theorem l8 {ls:List (List UInt8)} {i:Nat} {x5:RS8} (h5:x5.1=(i:Int)) {y117:Int×Bool×Bool×UInt8} {e:Nat} (hy:y117.1=(e:Int)) (hs:(ls.getD i default).length<1000) (he:e≤(ls.getD i default).length) (hi':i<800): ∀(d a:Nat) (M:List Mk1) (x:Rw),a+d=e→M.length≤1000*i+a→x.out.length≤1001*i+a→lf M=lf x.ch→x.e=0 →
  if(pas i (((ls.getD i default).take e).drop a) a x).e≠0 then iter (g_j.b2 ls x5 y117) (j7 M x a)=some (.inr ([],[],(i:Int),(pas i (((ls.getD i default).take e).drop a) a x).e))
  else ∃M',iter (g_j.b2 ls x5 y117) (j7 M x a)=some (.inl (j7 M' (pas i (((ls.getD i default).take e).drop a) a x) e))∧lf M'=lf (pas i (((ls.getD i default).take e).drop a) a x).ch∧M'.length≤1000*i+e∧(pas i (((ls.getD i default).take e).drop a) a x).out.length≤1001*i+e
 | 0,a,M,x,h,hM,ho,hl,hx=>by
  rw[List.drop_eq_nil_of_le (by rw[List.length_take]; omega)]
  obtain rfl:a=e:=by omega
  unfold pas
  rw[if_neg (fun k=>k hx)]
  refine⟨M,ae ?_,hl,hM,ho⟩
  unfold g_j.b2 j7
  simp only[hy]
  rw[if_neg (dn (by omega))]
 | d+1,a,M,x,h,hM,ho,hl,hx=>by
  have key:=b2_step (ls:=ls) (i:=i) h5 hy hs he (a:=a) (by omega) (M:=M) (by omega) (x:=x) (by omega) hl
  simp only at key
  have hat:a<((ls.getD i default).take e).length:=by rw[List.length_take]; omega
  have hg:((ls.getD i default).take e).getD a default=(ls.getD i default).getD a default:=by
   rw[List.getD_eq_getElem?_getD,List.getElem?_take_of_lt (by omega),← List.getD_eq_getElem?_getD]
  rw[ay hat,hg]
  generalize hc:(ls.getD i default).getD a default=c at *
  unfold pas
  by_cases hq:x.q=0∧c=59
  ·rw[if_pos hq] at key
   simp only[if_pos hq]
   have hee:(dm x).e=enE x.ch:=by unfold dm; simp only; rw[if_neg (fun k=>k hx)]
   by_cases hE:enE x.ch=0
   ·rw[if_neg (fun k=>k hE)] at key
    have hout:=ph x.ch x.out
    have ih:=l8 h5 hy hs he hi' d (a+1) [] (dm x) (by omega) (by simp) (by unfold dm; simp only; omega) rfl (by rw[hee]; exact hE)
    rw[ak key]
    exact ih
   ·rw[if_pos hE] at key
    have hpe:=sJ i (((ls.getD i default).take e).drop (a+1)) (a+1) (dm x) (by rw[hee]; exact hE)
    rw[hpe,hee,if_pos hE]
    exact ae key
  ·rw[if_neg hq] at key
   simp only[if_neg hq]
   have ih:=l8 h5 hy hs he hi' d (a+1) (M++ [(c,0,(i:Int),((a+1:Nat):Int))]) (dP x c i a (qn x.q c)) (by omega) (by simp; omega) (by unfold dP; simp only; omega) (putR_lf hl c i a _) hx
   rw[ak key]
   exact ih
end Go.Proofs.YtjcbhbncncbdjaaGreatDoorAi
namespace Go.Proofs.YtjcbhbncncbdjaaGreatDoorAi
open Go Go.RowKit
set_option linter.unusedVariables false
set_option linter.unusedSimpArgs false
abbrev E2:Type:=RS8⊕(RS8⊕RV)
abbrev Z7:Type:=List Int×List UInt8×List Pl×UInt8×Int×Bool×List ST
theorem sM {s:List UInt8} (hs:s.length<1000):iter (g_d.b0 s) 0=some ((s.length-(ltr s).length:Nat):Int):=by
 have hb:=dX (t:=s) (by omega) s.length 0 (by omega)
 rw[List.drop_zero] at hb
 exact hb
theorem pq {s:List UInt8} {c0:UInt8} {l0:List UInt8} (hz:ltr s=c0::l0):s.length-(ltr s).length<s.length∧s.getD (s.length-(ltr s).length) default=c0∧s.drop (s.length-(ltr s).length+1)=l0:=by
 have hle:(ltr s).length≤s.length:=eZ _ _
 have hn:s.length-(ltr s).length<s.length:=by rw[hz] at hle ⊢; simp at hle ⊢; omega
 have h1:=gS s
 have h2:=((ay hn).symm.trans (h1.symm.trans hz))
 exact⟨hn,(List.cons.inj h2).1,(List.cons.inj h2).2⟩
theorem rskp_f {s:List UInt8} (q:UInt8):(if(((q.toNat:Int))==((0:UInt8).toNat:Int))=true then Option.bind (if(((s.length-(ltr s).length:Nat):Int)==(s.length:Int))=true then some true else(if 0≤((s.length-(ltr s).length:Nat):Int)∧((s.length-(ltr s).length:Nat):Int)<(s.length:Int) then some (((gt s ((s.length-(ltr s).length:Nat):Int)).toNat:Int)==((33:UInt8).toNat:Int)) else none)) fun z73=>some z73 else some false)=some (skp s q):=by
 unfold skp kq
 rw[cX]
 by_cases hq:q=0
 ·rw[decide_eq_true hq,if_pos rfl,Bool.true_and]
  cases hz:ltr s with
  | nil=>rw[if_pos (by simp)]; rfl
  | cons c0 l0 =>
   obtain⟨h1,h2,h3⟩:=pq hz
   rw[hz] at h1 h2
   rw[if_neg (by simp only[beq_iff_eq]; omega),if_pos ⟨by omega,by omega⟩,aQ,h2,cX]
   simp
 ·rw[decide_eq_false hq]; rfl
theorem start_f {s:List UInt8} (hs:s.length<1000) (q:UInt8) (f:Nat) (hf:f≤39) (g:Bool) (i:Int) :
  (if g=true then Option.bind (Option.bind (if(decide (((s.length-(ltr s).length:Nat):Int)<(s.length:Int)))=true then(if 0≤((s.length-(ltr s).length:Nat):Int)∧((s.length-(ltr s).length:Nat):Int)<(s.length:Int) then some (((gt s ((s.length-(ltr s).length:Nat):Int)).toNat:Int)==((38:UInt8).toNat:Int)) else none) else some false) fun z88=>(if z88=true then(if 0≤(w64 (((s.length-(ltr s).length:Nat):Int)+1))∧(w64 (((s.length-(ltr s).length:Nat):Int)+1))≤(s.length:Int)∧(s.length:Int)≤(s.length:Int) then Option.bind (g_k.f (mid s (w64 (((s.length-(ltr s).length:Nat):Int)+1)) (s.length:Int))) fun y93=>(if y93=true then Option.bind (g_o.f i 3) fun y96=>some (.inr (.inr (.inr (.inr (.inr (y96.1,y96.2.1,y96.2.2.1,y96.2.2.2)))))) else some (.inl (w64 (((s.length-(ltr s).length:Nat):Int)+1)))) else none) else(if((((q.toNat:Int)) != ((0:UInt8).toNat:Int)))=true then Option.bind (g_o.f i 3) fun y107=>some (.inr (.inr (.inr (.inr (.inr (y107.1,y107.2.1,y107.2.2.1,y107.2.2.2)))))) else some (.inl 0)))) fun z86=>bj z86 fun z87=>some (.inl (z87,(w64 ((f:Int)+1)))) else some (.inl ((0:Int),(f:Int))))
  = (some (if g=true∧bgE s q≠0 then .inr (.inr (.inr (.inr ([],[],i,3)))) else .inl (((if g=true then bgA s else 0:Nat):Int),((if g=true then f+1 else f:Nat):Int))):Option ((Int×Int)⊕(Z7⊕E2))):=by
 cases g
 ·rfl
 ·simp only[eq_self,if_true,true_and]
  rw[fw,up1 (show f<9000000000000000000 by omega),up1 (show s.length-(ltr s).length<9000000000000000000 by omega)]
  cases hz:ltr s with
  | nil =>
   have hm:bgM s=false:=by unfold bgM; rw[hz]; rfl
   unfold bgE bgA
   rw[hm,if_neg (dn (by simp)),Option.bind_some]
   by_cases hq:q=0
   ·subst hq; rfl
   ·rw[decide_eq_false hq]
    simp only[if_pos (show q≠0 from hq)]
    rfl
  | cons c0 l0 =>
   obtain⟨h1,h2,h3⟩:=pq hz
   have hl0:l0.length<9000000000000000000:=by rw[← h3,List.length_drop]; omega
   have hm:bgM s=decide (c0=38):=by unfold bgM; rw[hz]; simp
   have hA:bgA s=if bgM s=true then s.length-(ltr s).length+1 else 0:=rfl
   have hE:bgE s q=if bgM s=true then(if bl ((ltr s).drop 1)=true then 3 else 0) else if q≠0 then 3 else 0:=rfl
   rw[hA,hE,hm,hz]
   rw[hz] at h1 h2 h3
   rw[if_pos (decide_eq_true (show((s.length-(c0::l0).length:Nat):Int)<(s.length:Int) by omega)),if_pos (c:=0≤_∧_) ⟨by omega,by omega⟩,aQ,h2,cX,Option.bind_some]
   by_cases h38:c0=38
   ·rw[decide_eq_true h38,if_pos (c:=true=true) rfl,if_pos (c:=0≤_∧_) ⟨by omega,by omega,Int.le_refl _⟩,cO,h3,ey hl0,Option.bind_some]
    show _=(some (if(if true=true then(if bl l0=true then(3:Int) else 0) else if q≠0 then 3 else 0)≠0 then _ else _):Option ((Int×Int)⊕(Z7⊕E2)))
    cases bl l0<;>rfl
   ·rw[decide_eq_false h38]
    by_cases hq:q=0
    ·subst hq; rfl
    ·rw[decide_eq_false hq]
     simp only[if_pos (show q≠0 from hq)]
     rfl
def d6 (M:List Mk1) (x:Rd) (i:Nat):RS8:=((i:Int),tx M,pl M,x.q,(x.f:Int),x.go,x.out,x.kd)
theorem errs5 (a:Int) (b c d:Prop) [Decidable b] [Decidable c] [Decidable d] (e:Int):dk [a,if b then 7 else 0,if c then 8 else 0,if d then 21 else 0,e]=if a≠0 then a else if b then 7 else if c then 8 else if d then 21 else e:=by
 by_cases h:a=0<;>by_cases hb:b<;>by_cases hc:c<;>by_cases hd:d<;>by_cases he:e=0<;>simp[dk,h,hb,hc,hd,he]
theorem oe {ls:List (List UInt8)} (hS:Sh ls) {i:Nat} (hi:i<ls.length) {x:Rd} (h:RdI x i) {M:List Mk1} (hM:lf M=lf x.ch) (hMl:M.length≤1000*i) :
  match lnR (ls.getD i default) i x with
  | .error e=>g_j.b0 ls (d6 M x i)=some (.inr (.inr ([],[],(e.1:Int),e.2)))
  | .ok y=> ∃M',g_j.b0 ls (d6 M x i)=some (.inl (d6 M' y (i+1)))∧lf M'=lf y.ch∧M'.length≤1000*(i+1):=by
 obtain⟨hs1,hs2⟩:=hS.at hi
 have hl:=hS.l
 have i1:=h.ch
 have i2:=h.out
 have i3:=h.kd
 have i4:=h.f
 have e64:iter (g_j.b1 ls (d6 M x i)) 0=some (((ls.getD i default).length-(ltr (ls.getD i default)).length:Nat):Int):=sM (s:=ls.getD i default) (by omega)
 have hA:=n8 (ls.getD i default) x
 have hlook:=look_f (s:=ls.getD i default) (by omega) hA x.q
 obtain⟨p1,p2,p3⟩:=gT i ((ls.getD i default).drop (lnA (ls.getD i default) x)) (lnA (ls.getD i default) x) ⟨x.ch,x.q,lnF x,false,x.out,0⟩
 have hPe:cv i ((ls.getD i default).drop (lnA (ls.getD i default) x)) (lnA (ls.getD i default) x) ⟨x.ch,x.q,lnF x,false,x.out,0⟩=lnP (ls.getD i default) i x:=rfl
 rw[hPe] at p1 p2 p3
 have hAe:(if x.go=true then bgA (ls.getD i default) else 0)=lnA (ls.getD i default) x:=rfl
 have hFe:(if x.go=true then x.f+1 else x.f)=lnF x:=rfl
 have hst:=start_f (s:=ls.getD i default) (by omega) x.q x.f i4 x.go (i:Int)
 rw[hAe,hFe] at hst
 have hsk:=rskp_f (s:=ls.getD i default) x.q
 have hlo:(i:Int)<(ls.length:Int):=by omega
 have hb:0≤(i:Int)∧(i:Int)<(ls.length:Int):=⟨by omega,hlo⟩
 have hF39: ¬ (x.go=true∧39<x.f+1)→lnF x≤39:=fun k=>by
  unfold lnF
  split
  ·rename_i hg
   apply Decidable.byContradiction
   intro q
   exact k ⟨hg,by omega⟩
  ·exact i4
 unfold g_j.b0
 have hx1:(d6 M x i).1=(i:Int):=rfl
 have hx2:(d6 M x i).2.1=tx M:=rfl
 have hx3:(d6 M x i).2.2.1=pl M:=rfl
 have hx4:(d6 M x i).2.2.2.1=x.q:=rfl
 have hx5:(d6 M x i).2.2.2.2.1=(x.f:Int):=rfl
 have hx6:(d6 M x i).2.2.2.2.2.1=x.go:=rfl
 have hx7:(d6 M x i).2.2.2.2.2.2.1=x.out:=rfl
 have hx8:(d6 M x i).2.2.2.2.2.2.2=x.kd:=rfl
 simp only[hx1,hx2,hx3,hx4,hx5,hx6,hx7,hx8,e64,aQ,Option.bind_some]
 simp only[aQ] at hst hsk
 rw[if_pos (decide_eq_true hlo),if_pos hb,hsk,Option.bind_some]
 cases hk:skp (ls.getD i default) x.q
 ·rw[if_neg (c:=false=true) (by decide)]
  have hE:dk (dY (ls.getD i default) i x)=_:=errs5 (if x.go=true then bgE (ls.getD i default) x.q else 0) ((lnP (ls.getD i default) i x).2.2=true) (x.go=true∧39<x.f+1) ((lnP (ls.getD i default) i x).2.1=false∧(lnP (ls.getD i default) i x).1.q≠0) (lnX (ls.getD i default) i x).e
  have hErr: ∀v:Int,dk (dY (ls.getD i default) i x)=v→v≠0→lnR (ls.getD i default) i x= .error (i,v):=fun v hv h0=>by
   unfold lnR
   rw[hk,if_neg (by decide),hv,if_pos h0]
  have hOk:dk (dY (ls.getD i default) i x)=0→lnR (ls.getD i default) i x= .ok (lnY (ls.getD i default) i x):=fun hv=>by
   unfold lnR
   rw[hk,if_neg (by decide),hv,if_neg (by decide)]
  rw[hst,Option.bind_some]
  by_cases c0:x.go=true∧bgE (ls.getD i default) x.q≠0
  ·have hb3:bgE (ls.getD i default) x.q=3:=by
    have:=c0.2
    unfold bgE at this ⊢
    split at this
    ·rename_i q
     rw[if_pos q]
     split at this
     ·rename_i q2; rw[if_pos q2]
     ·exact absurd rfl this
    ·rename_i q
     rw[if_neg q]
     split at this
     ·rename_i q2; rw[if_pos q2]
     ·exact absurd rfl this
   rw[if_pos (c:=x.go=true) c0.1,hb3,if_pos (c:=(3:Int)≠0) (by decide)] at hE
   rw[hErr 3 hE (by decide),if_pos c0]
   rfl
  ·rw[if_neg c0]
   have c0':(if x.go=true then bgE (ls.getD i default) x.q else 0)=0:=by
    split
    ·rename_i hg
     apply Decidable.byContradiction
     exact fun q=>c0 ⟨hg,q⟩
    ·rfl
   rw[c0',if_neg (c:=(0:Int)≠0) (by decide)] at hE
   simp only[bj]
   rw[hlook,Option.bind_some]
   simp only
   rw[← p1,← p2]
   cases hst7:(lnP (ls.getD i default) i x).2.2
   ·rw[hst7] at p2
    rw[hst7,if_neg (c:=false=true) (by decide)] at hE
    obtain⟨n,n1,n2,n3,n4⟩:=p3 p2.symm
    rw[n4,← n3,n2,if_neg (c:=false=true) (by decide)]
    by_cases c8:x.go=true∧39<x.f+1
    ·have hF:lnF x=x.f+1:=by unfold lnF; rw[if_pos c8.1]
     rw[if_pos c8] at hE
     rw[hErr 8 hE (by decide),if_pos (c:=decide ((lnF x:Int)>39)=true) (decide_eq_true (by omega))]
     rfl
    ·have hF:=hF39 c8
     rw[if_neg c8] at hE
     rw[if_neg (c:=decide ((lnF x:Int)>39)=true) (dn (by omega)),fw]
     by_cases c21:(lnP (ls.getD i default) i x).2.1=false∧(lnP (ls.getD i default) i x).1.q≠0
     ·rw[if_pos c21] at hE
      rw[hErr 21 hE (by decide),if_pos (c:=(!decide ((lnP (ls.getD i default) i x).1.q=0)&& !(lnP (ls.getD i default) i x).2.1)=true) (by rw[decide_eq_false c21.2,c21.1]; rfl)]
      rfl
     ·rw[if_neg c21] at hE
      rw[if_neg (c:=(!decide ((lnP (ls.getD i default) i x).1.q=0)&& !(lnP (ls.getD i default) i x).2.1)=true) (by
       intro k
       rw[Bool.and_eq_true,Bool.not_eq_true',Bool.not_eq_true',decide_eq_false_iff_not] at k
       exact c21 ⟨k.2,k.1⟩)]
      have hlen:n≤(ls.getD i default).length-lnA (ls.getD i default) x:=by rw[List.length_drop] at n1; exact n1
      have hb2:=fun y117 (hy:y117.1=((lnA (ls.getD i default) x+n:Nat):Int))=>l8 (ls:=ls) (i:=i) (x5:=d6 M x i) rfl (y117:=y117) (e:=lnA (ls.getD i default) x+n) hy (by omega) (by omega) (by omega) n (lnA (ls.getD i default) x) M ⟨x.ch,x.q,lnF x,false,x.out,0⟩ rfl (by omega) (by simp only; omega) hM rfl
      have htd:((ls.getD i default).take (lnA (ls.getD i default) x+n)).drop (lnA (ls.getD i default) x)=((ls.getD i default).drop (lnA (ls.getD i default) x)).take n:=by
       rw[List.drop_take]; congr 1; omega
      rw[htd,← n3] at hb2
      have heX:(lnX (ls.getD i default) i x).e=if(lnP (ls.getD i default) i x).1.e≠0 then(lnP (ls.getD i default) i x).1.e else if(lnP (ls.getD i default) i x).2.1=true then 0 else enE (lnP (ls.getD i default) i x).1.ch:=by
       unfold lnX
       by_cases hg:(lnP (ls.getD i default) i x).2.1=true
       ·rw[if_pos hg]
        by_cases he:(lnP (ls.getD i default) i x).1.e=0
        ·rw[he,if_neg (fun k=>k rfl),if_pos hg]
        ·rw[if_pos he]
       ·rw[if_neg hg,if_neg hg]; rfl
      rw[heX] at hE
      have hY:lnY (ls.getD i default) i x=⟨(lnX (ls.getD i default) i x).ch,(lnX (ls.getD i default) i x).q,(lnP (ls.getD i default) i x).2.1,(lnX (ls.getD i default) i x).f,(lnP (ls.getD i default) i x).1.st,x.kd++ [if(lnP (ls.getD i default) i x).1.st=true then 1 else 2],(lnX (ls.getD i default) i x).out⟩:=rfl
      have hXX:lnX (ls.getD i default) i x=if(lnP (ls.getD i default) i x).2.1=true then(lnP (ls.getD i default) i x).1 else { dm (lnP (ls.getD i default) i x).1 with q:=0 }:=rfl
      rw[hXX] at hY
      rw[hY] at hOk
      clear hXX hY heX hst hsk hlook p1 p2 p3 n3 n4 n2 e64 hPe c21 hst7
      generalize lnP (ls.getD i default) i x=P at *
      obtain⟨w,g,e⟩:=P
      simp only at hb2 hE hOk ⊢
      by_cases he:w.e=0
      ·simp only[he,ne_eq,not_true,if_false] at hb2 hE
       obtain⟨M',m1,m2,m3,m4⟩:=hb2 (_,_) rfl
       rw[show((lnA (ls.getD i default) x:Int),(2:Int),tx M,pl M,x.q,(lnF x:Int),x.out)=j7 M ⟨x.ch,x.q,lnF x,false,x.out,0⟩ (lnA (ls.getD i default) x) from rfl,m1,Option.bind_some]
       simp only[f4,j7]
       rw[if_pos (c:=_<1000000000) (by simp; omega)]
       cases g
       ·simp only[Bool.false_eq_true,if_false] at hE hOk ⊢
        obtain⟨y,y1,y2,y3⟩:=pp (M:=M') (by omega)
        rw[l7 m2,od m2] at y3
        rw[l7 m2] at y2
        rw[y1,Option.bind_some]
        by_cases hE0:enE w.ch=0
        ·have y3:=y3 hE0
         have t2:y.2.1=tx (enL w.ch).2.1:=congrArg (·.2.1) y3
         rw[hOk (hE.trans hE0),if_neg (c:=(y.2.2.2 != 0)=true) (by rw[y2,hE0]; decide)]
         have hout:(dm w).out=enO w.ch w.out:=rfl
         unfold enO at hout
         by_cases hn:(enL w.ch).2.1= []
         ·rw[if_pos hn] at hout
          rw[if_neg (c:=(!decide (y.2.1= []))=true) (by rw[t2,hn]; decide)]
          refine⟨[],?_,rfl,by simp⟩
          rw[up1 (by omega)]
          unfold d6
          simp only[hout]
          rfl
         ·rw[if_neg hn] at hout
          refine⟨[],?_,rfl,by simp⟩
          rw[if_pos (c:=(!decide (y.2.1= []))=true) (by
           rw[t2,Bool.not_eq_true',decide_eq_false_iff_not]
           exact fun k=>hn (List.map_eq_nil_iff.1 k))]
          rw[y3,up1 (by omega)]
          unfold d6
          rw[hout]
          have hz: ∀{β:Type} {c:Prop} [Decidable c] {v:β} {f:β→Option (RS8⊕(RS8⊕RV))} {r},c→f v=r→Option.bind (if c then some v else none) f=r:=by
           intro β c _ v f r hc hv
           rw[if_pos hc]; exact hv
          exact hz (by simp; omega) rfl
        ·rw[hErr _ hE hE0,if_pos (c:=(y.2.2.2 != 0)=true) (by rw[y2]; simpa using hE0),y2]
         rfl
       ·simp only[if_true] at hE hOk ⊢
        rw[hOk hE]
        refine⟨M',?_,m2,by omega⟩
        rw[up1 (by omega)]
        rfl
      ·simp only[ne_eq,he,not_false_eq_true,if_true] at hb2 hE
       rw[show((lnA (ls.getD i default) x:Int),(2:Int),tx M,pl M,x.q,(lnF x:Int),x.out)=j7 M ⟨x.ch,x.q,lnF x,false,x.out,0⟩ (lnA (ls.getD i default) x) from rfl,hb2 (_,_) rfl,Option.bind_some,hErr _ hE he]
       rfl
   ·rw[hst7,if_pos (c:=true=true) rfl] at hE
    rw[hErr 7 hE (by decide)]
    rfl
 ·have hR:lnR (ls.getD i default) i x= .ok { x with kd:=x.kd++ [0] }:=by
   unfold lnR
   rw[hk,if_pos rfl]
  rw[hR,if_pos (c:=true=true) rfl,if_pos (c:=_<1000000000) (by simp; omega)]
  refine⟨M,?_,hM,by omega⟩
  simp only[Option.bind_some,bj]
  rw[up1 (by omega)]
  rfl
end Go.Proofs.YtjcbhbncncbdjaaGreatDoorAi
namespace Go.Proofs.YtjcbhbncncbdjaaGreatDoorAi
open Go Go.RowKit
set_option linter.unusedVariables false
set_option linter.unusedSimpArgs false
theorem j8 {ls:List (List UInt8)} (hS:Sh ls): ∀(d i:Nat) (x:Rd) (M:List Mk1),i+d=ls.length→RdI x i→lf M=lf x.ch→M.length≤1000*i →
  match rdR (ls.drop i) i x with
  | .error e=>iter (g_j.b0 ls) (d6 M x i)=some (.inr ([],[],(e.1:Int),e.2))
  | .ok y=> ∃M',iter (g_j.b0 ls) (d6 M x i)=some (.inl (d6 M' y ls.length))
 | 0,i,x,M,h,hI,hM,hl=>by
  obtain rfl:i=ls.length:=by omega
  rw[List.drop_length]
  refine⟨M,ae ?_⟩
  unfold g_j.b0 d6
  simp only
  rw[if_neg (dn (by omega))]
 | d+1,i,x,M,h,hI,hM,hl=>by
  obtain⟨r,r1,r2⟩:=pk hS (i:=i) (by omega) hI
  have key:=oe hS (i:=i) (by omega) hI hM hl
  rw[ay (show i<ls.length by omega)]
  unfold rdR
  cases hx:lnR (ls.getD i default) i x with
  | error e =>
   rw[hx] at key
   exact ae key
  | ok y =>
   rw[hx] at key r2
   obtain⟨M',k1,k2,k3⟩:=key
   have ih:=j8 hS d (i+1) y M' (by omega) r2.2 k2 k3
   rw[ak k1]
   exact ih
theorem rfree_f {ls:List (List UInt8)} (hS:Sh ls):g_j.f ls=some (match FRd ls with | .error e=>([],[],(e.1:Int),e.2) | .ok y=>(y.2,y.1,0,0)):=by
 have key:=j8 hS ls.length 0 rd0 [] (by omega) ⟨by decide,by decide,by decide,by decide⟩ rfl (by simp)
 have hl:=hS.l
 rw[List.drop_zero] at key
 unfold g_j.f
 have e0:((0:Int),([]:List UInt8),([]:List (Int×Int×Int)),(0:UInt8),(0:Int),false,([]:List (Int×List UInt8×(List (Int×Int×Int)))),([]:List Int))=d6 [] rd0 0:=rfl
 rw[e0]
 unfold FRd
 cases hx:rdR ls 0 rd0 with
 | error e =>
  rw[hx] at key
  simp only at key
  rw[key]; rfl
 | ok x =>
  rw[hx] at key
  obtain⟨M',k1⟩:=key
  rw[k1,Option.bind_some]
  unfold d6
  simp only[bj]
  by_cases hg:x.go=true
  ·have hne:0<ls.length:=by
    cases ls with
    | nil =>
     have:x=rd0:=(Except.ok.inj hx).symm
     rw[this] at hg
     cases hg
    | cons=>simp
   simp only[if_pos hg]
   rw[co (by omega) (by omega)]
   show some (([]:List ST),([]:List Int),(ls.length:Int)-1,(39:Int))=some ([],[],((ls.length-1:Nat):Int),39)
   rw[show(ls.length:Int)-1=((ls.length-1:Nat):Int) by omega]
  ·simp only[if_neg hg]
theorem iz {n:Nat} (hn:n<1000): ∀(d k:Nat),k+d=n→iter (g_e.b0 (n:Int)) (List.replicate k 32,(k:Int))=some (List.replicate n 32,(n:Int))
 | 0,k,h=>by
  obtain rfl:k=n:=by omega
  exact ae (by unfold g_e.b0; simp only; rw[if_neg (dn (by omega))])
 | d+1,k,h=>by
  have key:g_e.b0 (n:Int) (List.replicate k 32,(k:Int))=some (.inl (List.replicate (k+1) 32,((k+1:Nat):Int))):=by
   unfold g_e.b0
   simp only
   rw[if_pos (decide_eq_true (by omega)),if_pos (by simp; omega),up1 (by omega),List.replicate_succ']
  rw[ak key]
  exact iz hn d (k+1) (by omega)
theorem sN {n:Nat} (hn:n<1000):g_e.f (n:Int)=some (List.replicate n 32):=by
 have h:iter (g_e.b0 (n:Int)) ([],0)=some (List.replicate n 32,(n:Int)):=iz hn n 0 (by omega)
 unfold g_e.f
 rw[h]; rfl
def pad (s:List UInt8):List UInt8:=s++List.replicate (80-s.length) 32
theorem iS {s:List UInt8} (h:s.length≤80):(pad s).length=80:=by unfold pad; rw[List.length_append,List.length_replicate]; omega
theorem l9 {s:List UInt8} (h:s.length≤80) {k:Nat} (hk:k<80):(pad s).getD k default=s.getD k 32:=by
 unfold pad
 by_cases h1:k<s.length
 ·rw[gd_l h1]; exact l4 h1
 ·rw[gd_r (by omega),List.getD_eq_getElem?_getD,List.getElem?_replicate,if_pos (by omega),List.getD_eq_getElem?_getD,List.getElem?_eq_none (by omega)]; rfl
theorem bl_app (a b:List UInt8):bl (a++b)=(bl a&&bl b):=by unfold bl; rw[List.all_append]
theorem bl_rep (n:Nat):bl (List.replicate n 32)=true:=by
 unfold bl
 rw[List.all_eq_true]
 intro x hx
 rw[List.eq_of_mem_replicate hx]; rfl
theorem m8 {s:List UInt8} (n:Nat):bl ((pad s).take n)=bl (s.take n):=by
 unfold pad
 rw[List.take_append,bl_app,List.take_replicate,bl_rep,Bool.and_true]
theorem sO {s:List UInt8} (h:s.length≤80) (i:Nat):mid (pad s) (6:Int) 72=tx (cols s i):=by
 show((pad s).take 72).drop 6=_
 have hp:=iS h
 apply List.ext_getElem
 ·rw[List.length_drop,List.length_take,bN,gQ]; omega
 ·intro k h1 h2
  rw[List.length_drop,List.length_take] at h1
  have e:=l9 h (k:=6+k) (by omega)
  rw[List.getD_eq_getElem?_getD,List.getElem?_eq_getElem (by omega)] at e
  have e:(pad s)[6+k]'(by omega)=s.getD (6+k) 32:=e
  simp only[List.getElem_drop,List.getElem_take,e]
  unfold tx cols
  simp
theorem iA {i:Nat} (ch:List Mk1) (hc:ch.length<100000000) (s:List UInt8): ∀(d j:Nat),j+d=66 →
  iter (g_g.b0 (i:Int)) (((7+j:Nat):Int),pl ch++(List.range j).map fun j=>((0:Int),(i:Int),((7+j:Nat):Int)))=some (73,pl ch++pl (cols s i))
 | 0,j,h=>by
  obtain rfl:j=66:=by omega
  have e:pl (cols s i)=(List.range 66).map fun j=>((0:Int),(i:Int),((7+j:Nat):Int)):=by
   unfold pl cols
   rw[List.map_map]; rfl
  rw[e]
  exact ae (by unfold g_g.b0; rfl)
 | d+1,j,h=>by
  have key:g_g.b0 (i:Int) (((7+j:Nat):Int),pl ch++(List.range j).map fun j=>((0:Int),(i:Int),((7+j:Nat):Int)))=some (.inl (((7+(j+1):Nat):Int),pl ch++(List.range (j+1)).map fun j=>((0:Int),(i:Int),((7+j:Nat):Int)))):=by
   unfold g_g.b0
   simp only
   rw[if_pos (decide_eq_true (by omega)),if_pos (by simp[jZ]; omega),up1 (by omega),List.range_succ,List.map_append,List.append_assoc]
   rfl
  rw[ak key]
  exact iA ch hc s d (j+1) (by omega)
theorem iD {s:List UInt8} (h:s.length≤80) {i:Nat} (n:Int) {ch:List Mk1} (hc:ch.length<100000):g_g.f n (tx ch) (pl ch) (pad s) (i:Int)=some (n,tx (ch++cols s i),pl (ch++cols s i)):=by
 unfold g_g.f
 have hi:=iA (i:=i) ch (by omega) s 66 0 (by omega)
 have e:((7:Int),pl ch)=(((7+0:Nat):Int),pl ch++(List.range 0).map fun j=>((0:Int),(i:Int),((7+j:Nat):Int))):=by simp
 rw[if_pos ⟨by decide,by decide,by rw[iS h]; decide⟩,sO h i,if_pos (by rw[bN,bN,gQ]; omega),e,hi,Option.bind_some]
 unfold tx pl
 rw[List.map_append,List.map_append]
end Go.Proofs.YtjcbhbncncbdjaaGreatDoorAi
namespace Go.Proofs.YtjcbhbncncbdjaaGreatDoorAi
open Go Go.RowKit
set_option linter.unusedVariables false
set_option linter.unusedSimpArgs false
abbrev RS9:Type:=Bool×Int×Int×Int×Int×List UInt8×List Pl×List ST×List Int
def kr (x:Fz) (i:Nat):RS9:=(x.o,(x.b:Int),(x.f:Int),(i:Int),x.lb,tx x.ch,pl x.ch,x.out,x.kd)
theorem ij {x5:RS9} {i:Nat} (h5:x5.2.2.2.1=(i:Int)) {s:List UInt8} (h80:s.length≤80): ∀(d k:Nat) (v:Int) (g:Nat),k+d=5→0≤v→v<10 ^ k→g≤k →
  iter (g_i.b1 x5 (pad s)) (v,(g:Int),(k:Int))=some (match lbK s d k v g with | none=> .inr ([],[],(i:Int),7) | some y=> .inl (y.1,(y.2:Int),5))
 | 0,k,v,g,h,h0,h1,hg=>by
  obtain rfl:k=5:=by omega
  exact ae (by unfold g_i.b1; rfl)
 | d+1,k,v,g,h,h0,h1,hg=>by
  have hp:(10:Int) ^ k≤10 ^ 5:=by
   have:(10:Nat) ^ k≤10 ^ 5:=Nat.pow_le_pow_right (by decide) (by omega)
   exact_mod_cast this
  have hp':(10:Int) ^ 5=100000:=by decide
  have hb:0≤(k:Int)∧(k:Int)<((pad s).length:Int):=by rw[iS h80]; exact⟨by omega,by omega⟩
  have key:g_i.b1 x5 (pad s) (v,(g:Int),(k:Int))=some (if dr (s.getD k 32)=true then .inl (10*v+dv (s.getD k 32),((g+1:Nat):Int),((k+1:Nat):Int)) else if s.getD k 32=32 then .inl (v,(g:Int),((k+1:Nat):Int)) else .inr (.inr ([],[],(i:Int),7))):=by
   unfold g_i.b1
   simp only[if_pos hb,aQ,l9 h80 (show k<80 by omega),iu,Option.bind_some,h5]
   rw[if_pos (decide_eq_true (by omega)),up1 (n:=k) (by omega)]
   cases hd:dr (s.getD k 32)
   ·rw[if_neg (c:=false=true) (by decide),if_neg (c:=false=true) (by decide),fw]
    by_cases hb2:s.getD k 32=32
    ·rw[decide_eq_true hb2,if_pos hb2]; rfl
    ·rw[decide_eq_false hb2,if_neg hb2]; rfl
   ·obtain⟨_,d1,d2⟩:=iy hd
    rw[if_pos (c:=true=true) rfl,if_pos (c:=true=true) rfl,iQ,co (x:=10*v) (by omega) (by omega),co (by omega) (by omega),up1 (n:=g) (by omega)]; rfl
  unfold lbK
  cases hd:dr (s.getD k 32)
  ·rw[hd,if_neg (by decide)] at key
   rw[if_neg (by decide)]
   by_cases hb2:s.getD k 32=32
   ·rw[if_pos hb2] at key ⊢
    rw[ak key]
    exact ij h5 h80 d (k+1) v g (by omega) h0 (by rw[Int.pow_succ]; omega) (by omega)
   ·rw[if_neg hb2] at key ⊢
    exact ae key
  ·obtain⟨_,d1,d2⟩:=iy hd
   rw[hd,if_pos rfl] at key
   rw[if_pos rfl,ak key]
   exact ij h5 h80 d (k+1) (10*v+dv (s.getD k 32)) (g+1) (by omega) (by omega) (by rw[Int.pow_succ]; omega) (by omega)
theorem rcm_f {s:List UInt8} (h80:s.length≤80):cm s=(bl ((pad s).take 72)||decide (s.getD 0 32=67)||decide (s.getD 0 32=99)||decide (s.getD 0 32=42)||decide (s.getD 0 32=33)):=by
 unfold cm
 rw[m8]
 generalize s.getD 0 32=c
 generalize bl (s.take 72)=b
 rw[Bool.eq_iff_iff]
 simp only[List.contains_cons,List.contains_nil,Bool.or_false,Bool.or_eq_true,beq_iff_eq,decide_eq_true_eq]
 constructor
 ·rintro((h | h | h | h) | h)<;>simp[h]
 ·rintro((((h | h) | h) | h) | h)<;>simp[h]
theorem sP {x:Fz} {i:Nat} (h:FxI x i) (hi:i<1000) {E:Type} (er:RV→E) :
  (if x.o=true then Option.bind (g_n.f x.lb (tx x.ch) (pl x.ch)) fun y165=>(if(decide (y165.2.1= []))=true then Option.bind (g_o.f (x.b:Int) 17) fun y171=>some (.inr (er (y171.1,y171.2.1,y171.2.2.1,y171.2.2.2))) else(if x.out.length+([(y165.1,y165.2.1,y165.2.2)]:List (Int×List UInt8×(List (Int×Int×Int)))).length<1000000000 then some (.inl (true,y165.1,y165.2.1,y165.2.2,(x.out++([(y165.1,y165.2.1,y165.2.2)]:List (Int×List UInt8×(List (Int×Int×Int))))))) else none)) else some (.inl (false,x.lb,tx x.ch,pl x.ch,x.out)))
  = (some (match fxE x with | none=> .inr (er ([],[],(x.b:Int),17)) | some o=> .inl (x.o,x.lb,(if x.o=true then tx (rt x.ch) else tx x.ch),(if x.o=true then pl (rt x.ch) else pl x.ch),o)):Option ((Bool×Int×List UInt8×List Pl×List ST)⊕E)):=by
 have h2:=h.f
 have h3:=h.ch
 have h5:=h.out
 unfold fxE
 cases ho:x.o
 ·rfl
 ·rw[if_pos (c:=true=true) rfl,kY (by omega),Option.bind_some,if_neg (c:=true=false) (by decide)]
  have e1:(dl x.lb (rt x.ch)).2.1=tx (rt x.ch):=rfl
  by_cases hz:rt x.ch= []
  ·rw[if_pos (c:=decide ((dl x.lb (rt x.ch)).2.1= [])=true) (decide_eq_true (by rw[e1,hz]; rfl)),if_pos hz]
   rfl
  ·rw[if_neg (c:=decide ((dl x.lb (rt x.ch)).2.1= [])=true) (dn (fun k=>hz (List.map_eq_nil_iff.1 k))),if_neg hz,if_pos (by simp; omega)]
   rfl
theorem qA {ls:List (List UInt8)} (hl:ls.length≤400) (h80: ∀s∈ls,s.length≤80) {i:Nat} (hi:i<ls.length) {x:Fz} (h:FxI x i) :
  g_i.b0 ls (kr x i)=some (match fxL (ls.getD i default) i x with | .error e=> .inr (.inr ([],[],(e.1:Int),e.2)) | .ok y=> .inl (kr y (i+1))):=by
 have hs:(ls.getD i default).length≤80:=by
  rw[List.getD_eq_getElem?_getD,List.getElem?_eq_getElem hi]
  exact h80 _ (List.getElem_mem hi)
 have h2:=h.f
 have h3:=h.ch
 have h4:=h.kd
 have h5:=h.out
 have hb:0≤(i:Int)∧(i:Int)<(ls.length:Int):=⟨by omega,by omega⟩
 have hpl:=iS hs
 have hb72:0≤(0:Int)∧(0:Int)≤72∧72≤((pad (ls.getD i default)).length:Int):=by rw[hpl]; decide
 have hb0:0≤(0:Int)∧(0:Int)<((pad (ls.getD i default)).length:Int):=by rw[hpl]; decide
 have hb5:0≤(5:Int)∧(5:Int)<((pad (ls.getD i default)).length:Int):=by rw[hpl]; decide
 have hb55:0≤(0:Int)∧(0:Int)≤5∧5≤((pad (ls.getD i default)).length:Int):=by rw[hpl]; decide
 have ebl:g_e.f (w64 (80-((ls.getD i default).length:Int)))=some (List.replicate (80-(ls.getD i default).length) 32):=by
  rw[co (by omega) (by omega),show(80:Int)-((ls.getD i default).length:Int)=((80-(ls.getD i default).length:Nat):Int) by omega]
  exact sN (by omega)
 have e0:gt (pad (ls.getD i default)) (0:Int)=(ls.getD i default).getD 0 32:=l9 hs (k:=0) (by omega)
 have e5:gt (pad (ls.getD i default)) (5:Int)=(ls.getD i default).getD 5 32:=l9 hs (k:=5) (by omega)
 have e72:mid (pad (ls.getD i default)) (0:Int) 72=(pad (ls.getD i default)).take 72:=ew _ 72
 have e55:mid (pad (ls.getD i default)) (0:Int) 5=(pad (ls.getD i default)).take 5:=ew _ 5
 have hpd:ls.getD i default++List.replicate (80-(ls.getD i default).length) 32=pad (ls.getD i default):=rfl
 have hlt:(ls.getD i default).length+(List.replicate (80-(ls.getD i default).length) (32:UInt8)).length<1000000000:=by rw[List.length_replicate]; omega
 have hkd0:x.kd.length+([0]:List Int).length<1000000000:=by simp; omega
 have hkd2:x.kd.length+([2]:List Int).length<1000000000:=by simp; omega
 have hkd1:x.kd.length+([1]:List Int).length<1000000000:=by simp; omega
 have hcm:=rcm_f hs
 unfold g_i.b0 kr
 simp only[aQ,ebl,Option.bind_some,hpd,if_pos hb,if_pos hlt,if_pos hb72,if_pos hb0,if_pos hb5,if_pos hb55,e0,e5,e72,e55,ey (show((pad (ls.getD i default)).take 72).length<9000000000000000000 by rw[List.length_take]; omega),ey (show((pad (ls.getD i default)).take 5).length<9000000000000000000 by rw[List.length_take]; omega),cX,fw,if_pos hkd0,if_pos hkd1,if_pos hkd2,up1 (show i<9000000000000000000 by omega),up1 (show x.f<9000000000000000000 by omega)]
 rw[if_pos (c:=decide ((i:Int)≤(ls.length:Int))=true) (decide_eq_true (by omega)),if_pos (c:=decide ((i:Int)<(ls.length:Int))=true) (decide_eq_true (by omega))]
 have hchain: ∀(a b c d e:Bool) {β:Type} (f:Bool→Option β),(Option.bind (if a=true then some true else some b) fun z78=>Option.bind (if z78=true then some true else some c) fun z81=>Option.bind (if z81=true then some true else some d) fun z84=>Option.bind (if z84=true then some true else some e) f)=f (a||b||c||d||e):=by
  intro a b c d e β f
  cases a<;>cases b<;>cases c<;>cases d<;>rfl
 have hmore: ∀{β:Type} (f:Bool→Option β),Option.bind (if(!decide ((ls.getD i default).getD 5 32=32))=true then some (!decide ((ls.getD i default).getD 5 32=48)) else some false) f=f (decide (dO (ls.getD i default))):=by
  intro β f
  by_cases h1:(ls.getD i default).getD 5 32=32
  ·rw[decide_eq_true h1,decide_eq_false (p:=dO (ls.getD i default)) (fun k=>k.1 h1)]; rfl
  ·rw[decide_eq_false h1]
   by_cases h2:(ls.getD i default).getD 5 32=48
   ·rw[decide_eq_true h2,decide_eq_false (p:=dO (ls.getD i default)) (fun k=>k.2 h2)]; rfl
   ·rw[decide_eq_false h2,decide_eq_true (p:=dO (ls.getD i default)) ⟨h1,h2⟩]; rfl
 rw[hchain,← hcm,hmore]
 unfold fxL
 cases hc:cm (ls.getD i default)
 ·rw[if_neg (c:=false=true) (by decide),if_neg (c:=false=true) (by decide)]
  by_cases hm:dO (ls.getD i default)
  ·rw[if_pos (c:=decide (dO (ls.getD i default))=true) (decide_eq_true hm),if_pos hm]
   unfold goE
   rw[m8,iD hs x.lb (by omega)]
   cases ho:x.o
   ·rfl
   ·rw[if_neg (c:=(!true)=true) (by decide),if_neg (c:=true=false) (by decide)]
    cases hb5':bl ((ls.getD i default).take 5)
    ·rfl
    ·rw[if_neg (c:=(!true)=true) (by decide),if_neg (c:=true=false) (by decide)]
     by_cases h19:19<x.f+1
     ·rw[if_pos (c:=decide (((x.f+1:Nat):Int)>19)=true) (decide_eq_true (by omega)),if_pos h19]
      rfl
     ·rw[if_neg (c:=decide (((x.f+1:Nat):Int)>19)=true) (dn (by omega)),if_neg h19]
      rfl
  ·rw[if_neg (c:=decide (dO (ls.getD i default))=true) (dn hm),if_neg hm,Option.bind_some]
   simp only[bj]
   have hr:=sP h (by omega) (E:=(List Int×Int×Int×List UInt8×List Pl×Bool×Int×List ST)⊕(RS9⊕(RS9⊕RV))) (er:=fun v=> .inr (.inr (.inr v)))
   rw[hr]
   cases hE:fxE x with
   | none=>rfl
   | some o =>
    simp only[Option.bind_some]
    have hlab:=ij (x5:=(x.o,(x.b:Int),(x.f:Int),(i:Int),x.lb,tx x.ch,pl x.ch,x.out,x.kd)) (i:=i) rfl hs 5 0 0 0 rfl (Int.le_refl _) (by decide) (Nat.le_refl _)
    have hlab':iter (g_i.b1 (x.o,(x.b:Int),(x.f:Int),(i:Int),x.lb,tx x.ch,pl x.ch,x.out,x.kd) (pad (ls.getD i default))) (0,0,0)=_:=hlab
    rw[if_neg (c:=((i:Int)==(ls.length:Int))=true) (by simp only[beq_iff_eq]; omega),hlab',Option.bind_some]
    unfold lab
    cases hk:lbK (ls.getD i default) 5 0 0 0 with
    | none=>rfl
    | some y =>
     obtain⟨v,g⟩:=y
     simp only[f4]
     have hcol:=iD hs (i:=i) v (ch:=[]) (by decide)
     have hcol':g_g.f v [] [] (pad (ls.getD i default)) (i:Int)=some (v,tx (cols (ls.getD i default) i),pl (cols (ls.getD i default) i)):=hcol
     obtain⟨l1,l2⟩:=l6 (ls.getD i default) 5 0 0 0 (v,g) (by decide) (by decide) hk
     have l1:0≤v:=l1
     rw[hcol']
     by_cases hv:g=0∨0<v
     ·rw[if_neg (c:=(decide ((g:Int)>0)&&v==0)=true) (by
       intro k
       rw[Bool.and_eq_true,decide_eq_true_eq,beq_iff_eq] at k
       omega),if_pos hv]
      rfl
     ·rw[if_pos (c:=(decide ((g:Int)>0)&&v==0)=true) (by
       rw[Bool.and_eq_true,decide_eq_true_eq,beq_iff_eq]
       omega),if_neg hv]
      rfl
 ·rw[if_pos (c:=true=true) rfl,if_pos (c:=true=true) rfl]
  rfl
end Go.Proofs.YtjcbhbncncbdjaaGreatDoorAi
namespace Go.Proofs.YtjcbhbncncbdjaaGreatDoorAi
open Go Go.RowKit
set_option linter.unusedVariables false
set_option linter.unusedSimpArgs false
theorem qB {ls:List (List UInt8)} (hl:ls.length≤400) {x:Fz} (h:FxI x ls.length) :
  match fxE x with
  | none=>g_i.b0 ls (kr x ls.length)=some (.inr (.inr ([],[],(x.b:Int),17)))
  | some o=> ∃st:RS9,g_i.b0 ls (kr x ls.length)=some (.inr (.inl st))∧st.2.2.2.2.2.2.2.1=o∧st.2.2.2.2.2.2.2.2=x.kd:=by
 have hr:=sP h (by omega) (E:=(List Int×Int×Int×List UInt8×List Pl×Bool×Int×List ST)⊕(RS9⊕(RS9⊕RV))) (er:=fun v=> .inr (.inr (.inr v)))
 unfold g_i.b0 kr
 simp only
 rw[if_pos (c:=decide ((ls.length:Int)≤(ls.length:Int))=true) (decide_eq_true (by omega)),if_neg (c:=decide ((ls.length:Int)<(ls.length:Int))=true) (dn (by omega)),Option.bind_some]
 simp only[bj] at hr ⊢
 rw[hr]
 cases hE:fxE x with
 | none=>rfl
 | some o =>
  simp only[Option.bind_some]
  rw[if_pos (c:=((ls.length:Int)==(ls.length:Int))=true) (by simp)]
  exact⟨_,rfl,rfl,rfl⟩
theorem lg {ls:List (List UInt8)} (hl:ls.length≤400) (h80: ∀s∈ls,s.length≤80): ∀(d i:Nat) (x:Fz),i+d=ls.length→FxI x i →
  match fxR (ls.drop i) i x with
  | .error e=>iter (g_i.b0 ls) (kr x i)=some (.inr ([],[],(e.1:Int),e.2))
  | .ok y=>match fxE y with
   | none=>iter (g_i.b0 ls) (kr x i)=some (.inr ([],[],(y.b:Int),17))
   | some o=> ∃st:RS9,iter (g_i.b0 ls) (kr x i)=some (.inl st)∧st.2.2.2.2.2.2.2.1=o∧st.2.2.2.2.2.2.2.2=y.kd
 | 0,i,x,h,hI=>by
  obtain rfl:i=ls.length:=by omega
  rw[List.drop_length]
  have key:=qB hl hI
  show match fxE x with | none=>_ | some o=>_
  cases hE:fxE x with
  | none =>
   rw[hE] at key
   exact ae key
  | some o =>
   rw[hE] at key
   obtain⟨st,k1,k2,k3⟩:=key
   exact⟨st,ae k1,k2,k3⟩
 | d+1,i,x,h,hI=>by
  have key:=qA hl h80 (i:=i) (by omega) hI
  rw[ay (show i<ls.length by omega),sI]
  cases hx:fxL (ls.getD i default) i x with
  | error e =>
   rw[hx] at key
   exact ae key
  | ok y =>
   rw[hx] at key
   have ih:=lg hl h80 d (i+1) y (by omega) (pf hI hx)
   rw[ak key]
   exact ih
theorem rfix_f {ls:List (List UInt8)} (hl:ls.length≤400) (h80: ∀s∈ls,s.length≤80):g_i.f ls=some (match FX ls with | .error e=>([],[],(e.1:Int),e.2) | .ok y=>(y.2,y.1,0,0)):=by
 have key:=lg hl h80 ls.length 0 fx0 (by omega) ⟨by decide,by decide,by decide,by decide,by decide⟩
 rw[List.drop_zero] at key
 unfold g_i.f FX
 have e0:(false,(0:Int),(0:Int),(0:Int),(0:Int),([]:List UInt8),([]:List (Int×Int×Int)),([]:List (Int×List UInt8×(List (Int×Int×Int)))),([]:List Int))=kr fx0 0:=rfl
 rw[e0]
 cases hx:fxR ls 0 fx0 with
 | error e =>
  rw[hx] at key
  simp only at key
  rw[key]; rfl
 | ok y =>
  rw[hx] at key
  simp only at key ⊢
  cases hE:fxE y with
  | none =>
   rw[hE] at key
   simp only at key
   rw[key]; rfl
  | some o =>
   rw[hE] at key
   obtain⟨st,k1,k2,k3⟩:=key
   rw[k1,Option.bind_some]
   show some (st.2.2.2.2.2.2.2.1,st.2.2.2.2.2.2.2.2,(0:Int),(0:Int))=_
   rw[k2,k3]
theorem Text_f {n:List UInt8} {free:Bool} {ls:List (List UInt8)} (h:Few n ls):g_c.f n free ls=some (match RD n free ls with | .error e=>([],[],e.1,e.2) | .ok y=>(y.2,y.1,0,0)):=by
 unfold g_c.f RD
 rw[eY h,Option.bind_some]
 by_cases hz:(ckT n free ls).2=0
 ·have hS:=sq hz
  rw[if_neg (by rw[hz]; decide),if_neg (c:=(ckT n free ls).2≠0) (fun q=>q hz)]
  cases free
  ·have h80: ∀s∈ls,s.length≤80:=by
    unfold ckT at hz
    split at hz
    ·exact absurd hz (by decide)
    ·split at hz
     ·exact absurd hz (by decide)
     ·exact fun s hs=>(l5 _ _ _ hz s hs).1
   simp only[if_neg (c:=false=true) (by decide)]
   rw[rfix_f hS.l h80,Option.bind_some]
   cases FX ls<;>rfl
  ·simp only[eq_self,if_true]
   rw[rfree_f hS,Option.bind_some]
   cases FRd ls<;>rfl
 ·rw[if_pos (by simpa using hz),if_pos hz]
theorem iE {o:List ST} {k:Nat} (hk:k<o.length) (hb:(o.getD k default).2.2.length<1000000000): ∀(d a:Nat),a+d=(o.getD k default).2.2.length→ ∃y,iter (g_a.b1 o o (k:Int)) (a:Int)=some (.inl y)
 | 0,a,h=>⟨(a:Int),ae (by
   unfold g_a.b1
   rw[if_pos ⟨by omega,by omega⟩,aQ,if_neg (dn (by omega))])⟩
 | d+1,a,h=>by
  have key:g_a.b1 o o (k:Int) (a:Int)=some (.inl ((a+1:Nat):Int)):=by
   unfold g_a.b1
   have h1:0≤(k:Int)∧(k:Int)<(o.length:Int):=⟨by omega,by omega⟩
   have h2:0≤(a:Int)∧(a:Int)<((o.getD k default).2.2.length:Int):=⟨by omega,by omega⟩
   rw[show gt o (k:Int)=o.getD k default from rfl]
   simp only[if_pos h1,if_pos h2]
   rw[if_pos (decide_eq_true h2.2),if_neg (by simp),up1 (by omega)]
  obtain⟨y,q⟩:=iE hk hb d (a+1) (by omega)
  exact⟨y,by rw[ak key]; exact q⟩
theorem iF {o:List ST} (ho:o.length<1000000000) (hb: ∀k,k<o.length→(o.getD k default).2.2.length<1000000000): ∀(d k:Nat),k+d=o.length→ ∃y,iter (g_a.b0 o o) (k:Int)=some (.inl y)
 | 0,k,h=>⟨(k:Int),ae (by unfold g_a.b0; rw[if_neg (dn (by omega))])⟩
 | d+1,k,h=>by
  have hk:k<o.length:=by omega
  obtain⟨y,q⟩:=iE hk (hb k hk) (o.getD k default).2.2.length 0 (by omega)
  have q':iter (g_a.b1 o o (k:Int)) 0=some (.inl y):=q
  have key:g_a.b0 o o (k:Int)=some (.inl ((k+1:Nat):Int)):=by
   unfold g_a.b0
   have h1:0≤(k:Int)∧(k:Int)<(o.length:Int):=⟨by omega,by omega⟩
   rw[show gt o (k:Int)=o.getD k default from rfl]
   simp only[if_pos h1]
   rw[if_pos (decide_eq_true h1.2),if_neg (by simp),q',Option.bind_some,up1 (by omega)]
   rfl
  obtain⟨y',p⟩:=iF ho hb d (k+1) (by omega)
  exact⟨y',by rw[ak key]; exact p⟩
theorem sQ {o:List ST} (ho:o.length<1000000000) (hb: ∀k,k<o.length→(o.getD k default).2.2.length<1000000000):g_a.f o o=some true:=by
 obtain⟨y,q⟩:=iF ho hb o.length 0 (by omega)
 have q':iter (g_a.b0 o o) 0=some (.inl y):=q
 unfold g_a.f
 rw[m7 rfl ho,Option.bind_some,if_neg (by decide),q',Option.bind_some]; rfl
end Go.Proofs.YtjcbhbncncbdjaaGreatDoorAi
namespace Go.Proofs.YtjcbhbncncbdjaaGreatDoorAi
open Go Go.RowKit
set_option linter.unusedVariables false
set_option linter.unusedSimpArgs false
theorem fixO_at {X R:Type} {body:(X→Option R)→X→Option R} {x:X} {r:R} (h:iI body 100000 x=some r):rG body x=some r:=by
 unfold rG
 rw[h]
def ltL:List Int→List Int→Bool
 | [],[]=>false
 | [],_::_=>true
 | _::_,[]=>false
 | x::a,y::b=>decide (x<y)||(x==y&&ltL a b)
theorem lh: ∀(n:Nat) (a b:List Int),a.length<n→iI (fun self (x:List Int×List Int)=>g_0.F self x.1 x.2) n (a,b)=some (ltL a b)
 | 0,a,b,h=>absurd h (by omega)
 | n+1,[],b,h=>by
  show g_0.F _ _ _=_
  unfold g_0.F
  cases b with
  | nil=>rfl
  | cons y b=>rw[if_pos (by simp)]; simp[ltL]<;>omega
 | n+1,x::a,[],h=>by
  show g_0.F _ _ _=_
  unfold g_0.F
  rw[if_pos (by simp)]; simp[ltL]<;>omega
 | n+1,x::a,y::b,h=>by
  have ih:=lh n a b (by simp at h; omega)
  show g_0.F (iI (fun self (x:List Int×List Int)=>g_0.F self x.1 x.2) n) (x::a) (y::b)=_
  generalize iI (fun self (x:List Int×List Int)=>g_0.F self x.1 x.2) n=f at ih ⊢
  unfold g_0.F
  have hg: ∀(z:Int) (l:List Int),gt (z::l) (0:Int)=z:=fun _ _=>rfl
  have hm: ∀(z:Int) (l:List Int),mid (z::l) (1:Int) (((z::l).length:Nat):Int)=l:=fun z l=>by
   rw[show(1:Int)=((1:Nat):Int) from rfl,cO]; rfl
  have hlen: ∀(z:Int) (l:List Int),((z::l).length:Int)=(l.length:Int)+1:=fun z l=>by simp
  have c1: ∀(z:Int) (l:List Int),0≤(0:Int)∧(0:Int)<((z::l).length:Int):=fun z l=>⟨Int.le_refl _,by have:=hlen z l; omega⟩
  have c2: ∀(z:Int) (l:List Int),0≤(1:Int)∧(1:Int)≤((z::l).length:Int)∧((z::l).length:Int)≤((z::l).length:Int):=fun z l=>⟨by omega,by have:=hlen z l; omega,Int.le_refl _⟩
  rw[if_neg (by have:=hlen x a; have:=hlen y b; simp; omega)]
  simp only[if_pos (c1 _ _),if_pos (c2 _ _),hg,hm,ih,Option.bind_some]
  rw[show ltL (x::a) (y::b)=(decide (x<y)||(x==y&&ltL a b)) from rfl]
  by_cases h1:x<y
  ·rw[if_pos (decide_eq_true h1),decide_eq_true h1]; rfl
  ·rw[if_neg (by simpa using h1),decide_eq_false h1,Bool.false_or]
   cases hq:(x==y)
   ·rfl
   ·rw[if_pos rfl,Bool.true_and]
theorem sR {a b:List Int} (h:a.length<100000):g_0.f a b=some (ltL a b):=by
 unfold g_0.f
 exact fixO_at (lh 100000 a b h)
theorem m9: ∀a:List Int,ltL a a=false
 | []=>rfl
 | x::a=>by
  unfold ltL
  rw[m9 a,Bool.and_false,Bool.or_false]
  exact decide_eq_false (by omega)
theorem ints_f {a:List Int} (h:a.length<100000):g_2.f a a=some true:=by
 unfold g_2.f
 rw[sR h,m9]
 simp
theorem law06 (n:List UInt8) (free:Bool) (ls:List (List UInt8)) (hl:ls.length<9000000000000000000):g_6.f n free ls=some true:=by
 obtain⟨b,b1,b2⟩:=few_f n hl
 unfold g_6.f
 rw[show g_awake.f=some true from rfl,Option.bind_some,if_neg (by decide),b1,Option.bind_some]
 cases b
 ·rfl
 ·obtain⟨hF,h405⟩:=b2 rfl
  rw[if_neg (by decide)]
  have hcp:=oc n free (ls:=ls) (by omega)
  simp only[hcp,Option.bind_some]
  have e1:=iv (free:=free) hF
  have e2:=j6 (free:=free) hF
  have e3:=qx (free:=free) hF
  have e4:=eY (free:=free) hF
  have e5:=Text_f (free:=free) hF
  obtain⟨_,hne⟩:=oa (free:=free) hF
  cases hx:RD n free ls with
  | error e =>
   have h0:=hne e hx
   rw[hx] at e2 e3 e5
   simp only at e2 e3 e5
   simp only[e1,e2,e3,e4,e5,Option.bind_some]
   rw[if_neg (by simp),if_neg (by simp),if_pos (by simpa using h0)]
   rfl
  | ok y =>
   rw[hx] at e2 e3 e5
   simp only at e2 e3 e5
   obtain⟨hk,L,g1,g2,g3,g4,g5⟩:=RD_pi hF.e hx
   rw[List.append_nil] at g5
   have hb:=sG L (fun p hp=>(g2 p hp).1)
   have s1:y.2.length<1000000000:=by rw[g1,List.length_map]; omega
   have s2: ∀k,k<y.2.length→(y.2.getD k default).2.2.length<1000000000:=fun k hk'=>by
    rw[g1,List.length_map] at hk'
    have e:(y.2.getD k default)=dl (L.getD k default).1 (L.getD k default).2:=by
     rw[g1,List.getD_eq_getElem?_getD,List.getElem?_map,List.getD_eq_getElem?_getD,List.getElem?_eq_getElem hk']; rfl
    have hm:L.getD k default∈L:=by
     rw[List.getD_eq_getElem?_getD,List.getElem?_eq_getElem hk']
     exact List.getElem_mem hk'
    have:=hb.2 _ hm
    rw[e]
    show(pl _).length<_
    rw[jZ]
    omega
   simp only[e1,e2,e3,e4,e5,Option.bind_some]
   rw[if_neg (by simp),if_neg (by simp),if_neg (by decide),sQ s1 s2,Option.bind_some,if_pos rfl,ints_f (by omega)]
   rfl
theorem law06_calls {w:World} {μ:Mu} {nx:Nat} {ks:List cS} (gs:GS 11 w μ nx ks) {a:Option Addr} {z:Nat} {y:List UInt8×Bool×List (List UInt8)} {v:Value} (hf:Frz (elS 9) (Fk ks) a z y.2.2) (hb:y.2.2.length*16≤reachBytes) (hv:VR μ (.agg [aa y.1,.bool y.2.1,.slice a y.2.2.length z].toArray) v) :
  Calls Tryz.prog 6 #[v] w fun e w'=>e= .returned (.bool true)∧Below w.heap.size w w' :=
 calls_M gs (qq hv (rU μ)) Tryz.func6 rfl (fun _ _=>rfl) rfl (Cl.mono (g_6.ok (law06 y.1 y.2.1 y.2.2 (by
  have:reachBytes<2 ^ 47:=by decide
  omega)) hf) fun v S F h=>h.2.1)
end Go.Proofs.YtjcbhbncncbdjaaGreatDoorAi
