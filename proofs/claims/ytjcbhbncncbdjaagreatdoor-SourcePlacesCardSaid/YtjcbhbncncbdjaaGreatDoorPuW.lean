/-
PuT0, PuT1, PuT2, PuT3, PuT4, PuT5, PuT6, PuT7, PuT8, PuT9, PuT10
-/
import Derived.Test.YtjcbhbncncbdjaaGreatDoorApX1b
import Derived.Test.YtjcbhbncncbdjaaGreatDoorApL
namespace Go.Proofs.YtjcbhbncncbdjaaGreatDoorAi
open Go Go.RowKit
set_option linter.unusedVariables false
set_option linter.unusedSimpArgs false
theorem dm {x:Int} (h1: -9223372036854775808≤x) (h2:x≤9223372036854775807):w64 x=x:=by
 unfold w64
 simp[IntKind.wrap,IntKind.bits,IntKind.signed]; omega
theorem up1 {n:Nat} (h:n<9000000000000000000):w64 ((n:Int)+1)=((n+1:Nat):Int):=by
 rw[dm (by omega) (by omega)]; rfl
theorem aQ {α:Type} [Inhabited α] (l:List α) (n:Nat):gt l (n:Int)=l.getD n default:=rfl
def eP (c:UInt8):Bool:=decide (48≤c.toNat)&&decide (c.toNat≤57)
theorem qD {c:UInt8}:eP c=true↔48≤c.toNat∧c.toNat≤57:=by simp[eP]
theorem iP (c:UInt8):g_p.f c=some (eP c):=by
 unfold g_p.f eP
 congr 2
 ·exact decide_eq_decide.2 (by show((48:Nat):Int)≤_↔_; omega)
 ·exact decide_eq_decide.2 (by show _≤((57:Nat):Int)↔_; omega)
theorem f3 {α:Type} (l:List α) (n:Nat):mid l (n:Int) (l.length:Int)=l.drop n:=by
 unfold mid
 simp
theorem iQ {α:Type} (l:List α) (n:Nat):mid l (0:Int) (n:Int)=l.take n:=by
 unfold mid
 simp
theorem f4 (a b:UInt8):((a.toNat:Int)==(b.toNat:Int))=decide (a=b):=by
 rw[Bool.eq_iff_iff]
 simp only[beq_iff_eq,decide_eq_true_eq]
 constructor
 ·intro h; exact UInt8.toNat_inj.1 (by omega)
 ·intro h; rw[h]
theorem iR (a b:UInt8):((a.toNat:Int) != (b.toNat:Int))= !decide (a=b):=by
 rw[bne,f4]
theorem f5 (l:List UInt8) (c:UInt8):g_14.f l c=some (iN l c):=rfl
theorem nH (l:List UInt8) (c:UInt8):decide (iN l c≥0)=l.contains c:=by
 unfold iN
 cases h:l.findIdx? (· == c) with
 | none =>
  rw[List.findIdx?_eq_none_iff] at h
  symm
  show l.contains c=false
  rw[Bool.eq_false_iff]
  intro hc
  have:=h c (List.contains_iff_mem.1 hc)
  simp at this
 | some i =>
  rw[decide_eq_true (show(i:Int)≥0 by omega)]
  symm
  obtain⟨hi,h1,_⟩:=List.findIdx?_eq_some_iff_getElem.1 h
  rw[List.contains_iff_mem]
  have:l[i]=c:=by simpa using h1
  rw[← this]; exact List.getElem_mem hi
theorem idxB_lt (l:List UInt8) (c:UInt8):decide (iN l c<0)= !l.contains c:=by
 rw[← nH]
 by_cases h:iN l c≥0
 ·rw[decide_eq_true h,decide_eq_false (by omega)]; rfl
 ·rw[decide_eq_false h,decide_eq_true (by omega)]; rfl
theorem lD (l:List UInt8) (i:Nat):(⟨l.toArray⟩:ByteArray).get! i=l.getD i default:=by
 show l.toArray[i]! = _
 simp[List.getD_eq_getElem?_getD]
theorem qE {l:List UInt8} {p:Nat} (h:(l.getD p default).toNat<128):dec l p=((l.getD p default).toNat,1):=by
 unfold dec Utf8.decode
 simp only[Nat.add_zero,lD]
 rw[if_pos h]
theorem dec_hi {l:List UInt8} {p:Nat} (h: ¬ (l.getD p default).toNat<128):126<(dec l p).1:=by
 unfold dec Utf8.decode
 simp only[Nat.add_zero,lD]
 rw[if_neg h]
 split
 ·split
  ·simp only; omega
  ·decide
 ·split
  ·split
   ·rename_i h2
    simp only[Bool.and_eq_true,decide_eq_true_eq] at h2
    simp only; omega
   ·decide
  ·split
   ·split
    ·rename_i h2
     simp only[Bool.and_eq_true,decide_eq_true_eq] at h2
     simp only; omega
    ·decide
   ·decide
theorem aF {α:Type} [Inhabited α] {t:List α} {a:Nat} (h:a<t.length):t.drop a=t.getD a default::t.drop (a+1):=by
 rw[List.drop_eq_getElem_cons h,List.getD_eq_getElem?_getD,List.getElem?_eq_getElem h]; rfl
theorem kE {α:Type} {l:List α} {d e:α} {k:Nat} (h:k<l.length):l.getD k d=l.getD k e:=by
 rw[List.getD_eq_getElem?_getD,List.getElem?_eq_getElem h,List.getD_eq_getElem?_getD,List.getElem?_eq_getElem h]; rfl
def shw (f c:UInt8):Bool:=decide (f.toNat≤c.toNat)&&decide (c.toNat≤126)
theorem lE (r:Nat) {f:UInt8} (hf:f.toNat<128):g_t.f (r:Int) f=some (!(decide (f.toNat≤r)&&decide (r≤126))):=by
 unfold g_t.f
 have:IntKind.i32.wrap ((f.toNat:Nat):Int)=f.toNat:=by
  simp[IntKind.wrap,IntKind.bits,IntKind.signed]; omega
 rw[this]
 congr 1
 by_cases h1:f.toNat≤r<;>by_cases h2:r≤126<;>simp[h1,h2]<;>omega
theorem eq {f:UInt8} (hf:f.toNat<128) (t:List UInt8): ∀d x:Nat,x+d=t.length →
  if(t.drop x).all (shw f)=true then iter (g_18.b0 t f true) x=some (.inl t.length) else ∃k:Nat,iter (g_18.b0 t f true) x=some (.inr (k:Int))
 | 0,x,h=>by
  rw[show x=t.length by omega,List.drop_length]
  exact aj (by unfold g_18.b0; rw[if_neg (by simp)])
 | d+1,x,h=>by
  have ih:=eq hf t d (x+1) (by omega)
  have key:g_18.b0 t f true x=if(decide (f.toNat≤(dec t x).1)&&decide ((dec t x).1≤126))=true then some (.inl (x+(dec t x).2)) else some (.inr (.inr (x:Int))):=by
   unfold g_18.b0
   rw[if_pos (decide_eq_true (by omega)),lE _ hf,Option.bind_some]
   cases(decide (f.toNat≤(dec t x).1)&&decide ((dec t x).1≤126))<;>rfl
  rw[aF (by omega),List.all_cons]
  by_cases hb:(t.getD x default).toNat<128
  ·rw[qE hb] at key
   cases hs:shw f (t.getD x default)
   ·rw[Bool.false_and,if_neg (by decide)]
    unfold shw at hs
    exact⟨x,aj (key.trans (if_neg (by rw[hs]; decide)))⟩
   ·rw[Bool.true_and]
    unfold shw at hs
    rw[az (key.trans (if_pos hs))]
    exact ih
  ·have hh:=dec_hi hb
   have hs:shw f (t.getD x default)=false:=by unfold shw; rw[decide_eq_false (show ¬ (t.getD x default).toNat≤126 by omega),Bool.and_false]
   rw[hs,Bool.false_and,if_neg (by decide)]
   exact⟨x,aj (key.trans (if_neg (by rw[decide_eq_false (show ¬ (dec t x).1≤126 by omega),Bool.and_false]; decide)))⟩
theorem jJ {f:UInt8} (hf:f.toNat<128) (t:List UInt8):g_s.f t f=some (t.all (shw f)):=by
 have h:=eq hf t t.length 0 (by omega)
 rw[List.drop_zero] at h
 unfold g_s.f g_15.f g_18.f
 cases hs:t.all (shw f)
 ·rw[hs,if_neg (by decide)] at h
  obtain⟨k,hk⟩:=h
  rw[hk]
  simp[dy]
 ·rw[hs,if_pos rfl] at h
  rw[h]
  simp[dy]
theorem dn {p:Prop} [Decidable p] (h: ¬ p): ¬ decide p=true:=by simpa using h
theorem eu (b:Bool) (e:Int):g_11.f b e=some (if b=true then 0 else e):=by
 unfold g_11.f; cases b<;>rfl
theorem oF {l:List Int} {k:Nat} (h:k=l.length):iter (g_a.b0 l) (k:Int)=some (.inl (l.length:Int)):=by
 subst h
 exact aj (by unfold g_a.b0; rw[if_neg (by simp)])
def dG:List Int→Int
 | []=>0
 | a::l=>if a≠0 then a else dG l
theorem iS {l:List Int} (hl:l.length<1000): ∀(d k:Nat),k+d=l.length→ ∃r,iter (g_a.b0 l) (k:Int)=some r∧(match r with | .inl _=>(0:Int) | .inr e=>e)=dG (l.drop k)
 | 0,k,h=>by
  refine⟨.inl (l.length:Int),oF (by omega),?_⟩
  rw[show k=l.length by omega,List.drop_length]; rfl
 | d+1,k,h=>by
  have key:g_a.b0 l (k:Int)=some (if(l.getD k default)≠0 then .inr (.inr (l.getD k default)) else .inl ((k+1:Nat):Int)):=by
   unfold g_a.b0
   rw[if_pos (decide_eq_true (by omega)),if_pos ⟨by omega,by omega⟩,aQ,up1 (by omega)]
   by_cases h0:l.getD k default=0
   ·rw[h0]; rfl
   ·rw[if_pos (by simpa using h0),if_pos h0]
  rw[aF (by omega)]
  unfold dG
  by_cases h0:l.getD k default=0
  ·rw[if_neg (by simpa using h0)] at key ⊢
   obtain⟨r,h1,h2⟩:=iS hl d (k+1) (by omega)
   exact⟨r,by rw[az key]; exact h1,h2⟩
  ·rw[if_pos h0] at key ⊢
   exact⟨.inr (l.getD k default),aj key,rfl⟩
theorem dB {l:List Int} (hl:l.length<1000):g_a.f l=some (dG l):=by
 unfold g_a.f
 obtain⟨r,h1,h2⟩:=iS hl l.length 0 (by omega)
 have h1':iter (g_a.b0 l) 0=some r:=h1
 rw[h1',Option.bind_some]
 rw[List.drop_zero] at h2
 rw[← h2]
 cases r<;>rfl
def bl (l:List UInt8):Bool:=l.all (· == 32)
def ltr (l:List UInt8):List UInt8:=l.dropWhile (· == 32)
theorem iT {α:Type} {p:α→Bool}: ∀{l:List α},l.dropWhile p= []↔ ∀x∈l,p x=true
 | []=>by simp
 | a::l=>by
  rw[List.dropWhile_cons]
  by_cases h:p a=true
  ·rw[if_pos h,iT]
   constructor
   ·intro k x hx
    rcases List.mem_cons.1 hx with rfl | hx
    ·exact h
    ·exact k x hx
   ·intro k x hx; exact k x (List.mem_cons_of_mem _ hx)
  ·rw[if_neg h]
   constructor
   ·intro k; cases k
   ·intro k; exact absurd (k a List.mem_cons_self) h
theorem qF (l:List UInt8):decide (Lib.trimB l 32= [])=bl l:=by
 unfold Lib.trimB Lib.trimLeftB Lib.trimRightB bl
 rw[Bool.eq_iff_iff,decide_eq_true_eq,List.all_eq_true]
 constructor
 ·intro h x hx
  rw[iT] at h
  apply Decidable.byContradiction
  intro hb
  -- the last character that is no blank stays
  have: ∃y∈(l.reverse.dropWhile (· == 32)).reverse,¬ (y==32)=true:=by
   have hd:l.reverse.dropWhile (· == 32)≠ []:=by
    intro e
    rw[iT] at e
    exact hb (e x (List.mem_reverse.2 hx))
   have hh:=List.head_dropWhile_not (· == (32:UInt8)) (l:=l.reverse) hd
   exact⟨_,List.mem_reverse.2 (List.head_mem hd),by simpa using hh⟩
  obtain⟨y,h1,h2⟩:=this
  exact h2 (h y h1)
 ·intro h
  have:l.reverse.dropWhile (· == 32)= []:=by
   rw[iT]
   exact fun x hx=>h x (List.mem_reverse.1 hx)
  rw[this]; rfl
theorem eK {l:List UInt8} (hl:l.length<9223372036854775807):g_n.f l=some (bl l):=by
 unfold g_n.f g_Trim.f
 simp only
 rw[if_pos ⟨by decide,by omega⟩,Option.bind_some,qF]
theorem eU: ∀l:List UInt8,iter (g_1a.b0 32) l=some (ltr l)
 | []=>aj rfl
 | c::l=>by
  have hg:gt (c::l) (0:Int)=c:=rfl
  have hm:mid (c::l) (1:Int) (((c::l).length:Nat):Int)=l:=by
   rw[show(1:Int)=((1:Nat):Int) from rfl,f3]; rfl
  have key:g_1a.b0 32 (c::l)=some (if c=32 then .inl l else .inr (c::l)):=by
   unfold g_1a.b0
   rw[if_pos (decide_eq_true (by simp)),if_pos ⟨by omega,by simp⟩,Option.bind_some,hg,f4]
   by_cases h:c=32
   ·rw[decide_eq_true h,if_pos h,if_pos rfl,if_pos ⟨by omega,by simp; omega,Int.le_refl _⟩,hm]
   ·rw[decide_eq_false h,if_neg h]; rfl
  unfold ltr
  rw[List.dropWhile_cons]
  by_cases h:c=32
  ·rw[if_pos h] at key
   rw[az key,if_pos (by simpa using h)]
   exact eU l
  ·rw[if_neg h] at key
   rw[aj key,if_neg (by simpa using h)]
theorem iU (l:List UInt8):g_17.f l [32]=some (ltr l):=by
 unfold g_17.f
 by_cases h:l= []
 ·subst h; rfl
 ·rw[if_neg (by simpa using h),if_pos (by decide),if_pos ⟨by decide,by decide⟩,Option.bind_some,if_pos (by decide),if_pos ⟨by decide,by decide⟩]
  unfold g_1a.f
  have hg:gt ([32]:List UInt8) (0:Int)=32:=rfl
  rw[hg,eU]; rfl
theorem f6 {s:List UInt8} (hs:s.length<1000000) (n:Nat):g_9.f s ((n+1:Nat):Int)=some (s.getD n 32):=by
 unfold g_9.f
 have hw:n<s.length→w64 (((n+1:Nat):Int)-1)=(n:Int):=fun h=>by rw[dm (by omega) (by omega)]; omega
 by_cases h:n<s.length
 ·rw[if_neg (by simp; omega),hw h,if_pos ⟨by omega,by omega⟩,aQ,kE h]
 ·rw[if_pos (by simp; omega),List.getD_eq_getElem?_getD,List.getElem?_eq_none (by omega)]; rfl
def cm (s:List UInt8):Bool:=([67,99,42,33]:List UInt8).contains (s.getD 0 32)||bl (s.take 72)
theorem lF {s:List UInt8} (hs:s.length<1000000):g_o.f s=some (cm s):=by
 unfold g_o.f cm
 have h1:g_9.f s 1=some (s.getD 0 32):=f6 hs 0
 rw[h1,Option.bind_some,f5,Option.bind_some,nH]
 have hm:mid s (0:Int) (if(72:Int)<(s.length:Int) then 72 else(s.length:Int))=s.take 72:=by
  by_cases h:72<s.length
  ·rw[if_pos (by omega)]; exact iQ s 72
  ·rw[if_neg (by omega),iQ,List.take_length,List.take_of_length_le (by omega)]
 rw[hm]
 cases([67,99,42,33]:List UInt8).contains (s.getD 0 32)
 ·rw[if_neg (by decide),if_pos (by split<;>omega),eK (by rw[List.length_take]; omega)]; rfl
 ·rfl
end Go.Proofs.YtjcbhbncncbdjaaGreatDoorAi
namespace Go.Proofs.YtjcbhbncncbdjaaGreatDoorAi
open Go Go.RowKit
set_option linter.unusedVariables false
set_option linter.unusedSimpArgs false
def nmE (n:List UInt8):Bool:=decide (1≤n.length)&&decide (n.length≤31)&&n.all (shw 33)&& !n.contains 39
def lnE (m:Nat) (s:List UInt8):Int:=if m<s.length then 8 else if s.all (shw 32)=true then 0 else 3
def ckL (m:Nat):List (List UInt8)→Nat→Int×Int
 | [],_=>(0,0)
 | s::r,i=>if lnE m s≠0 then((i:Int),lnE m s) else ckL m r (i+1)
def wd (free:Bool):Nat:=if free=true then 132 else 80
def ckT (n:List UInt8) (free:Bool) (ls:List (List UInt8)):Int×Int:=if nmE n=false then(0,4) else if 400<ls.length then(0,8) else ckL (wd free) ls 0
structure Few (n:List UInt8) (ls:List (List UInt8)):Prop where
 n:n.length<1000
 l:ls.length<1000
 e: ∀s∈ls,s.length<1000
theorem Few.at {n:List UInt8} {ls:List (List UInt8)} (h:Few n ls) {k:Nat} (hk:k<ls.length):(ls.getD k default).length<1000:=by
 rw[List.getD_eq_getElem?_getD,List.getElem?_eq_getElem hk]
 exact h.e _ (List.getElem_mem hk)
theorem qG {n:List UInt8} (h:n.length<1000):g_q.f n=some (nmE n):=by
 unfold g_q.f g_12.f nmE
 rw[jJ (by decide),f5,Option.bind_some]
 simp only[Option.bind_some,idxB_lt]
 have e:((decide ((1:Int)≤(n.length:Int)))&&(decide ((n.length:Int)≤31)))=(decide (1≤n.length)&&decide (n.length≤31)):=by
  congr 1
  ·exact decide_eq_decide.2 (by omega)
  ·exact decide_eq_decide.2 (by omega)
 rw[e]
 cases(decide (1≤n.length)&&decide (n.length≤31))
 ·rfl
 ·cases n.all (shw 33)<;>rfl
theorem frst2 (a b:Int):dG [a,b]=if a≠0 then a else b:=by
 unfold dG dG dG
 by_cases h:a=0
 ·by_cases h2:b=0<;>simp[h,h2]
 ·simp[h]
theorem iV {n:List UInt8} {ls:List (List UInt8)} (h:Few n ls) (m:Nat) (hm:m<1000): ∀(d k:Nat),k+d=ls.length →
  ∃r,iter (g_6.b0 ls (m:Int)) (k:Int)=some r∧(match r with | .inl _=>((0:Int),(0:Int)) | .inr e=>e)=ckL m (ls.drop k) k
 | 0,k,hk=>by
  refine⟨.inl (k:Int),aj (by unfold g_6.b0; rw[if_neg (by simp; omega)]),?_⟩
  rw[show k=ls.length by omega,List.drop_length]; rfl
 | d+1,k,hk=>by
  have hl:=h.l
  have key:g_6.b0 ls (m:Int) (k:Int)=some (if lnE m (ls.getD k default)≠0 then .inr (.inr ((k:Int),lnE m (ls.getD k default))) else .inl ((k+1:Nat):Int)):=by
   unfold g_6.b0
   simp only[eu]
   rw[if_pos (decide_eq_true (by omega)),if_pos ⟨by omega,by omega⟩,aQ,up1 (by omega),jJ (by decide)]
   unfold lnE
   by_cases h1:m<(ls.getD k default).length
   ·rw[if_neg (dn (by omega)),if_pos h1]
    cases(ls.getD k default).all (shw 32)
    ·simp only[Bool.false_eq_true,if_false,Option.bind_some,dB (show([(8:Int),3]:List Int).length<1000 by decide)]; rfl
    ·simp only[if_true,Option.bind_some,dB (show([(8:Int),0]:List Int).length<1000 by decide)]; rfl
   ·rw[if_pos (decide_eq_true (by omega)),if_neg h1]
    cases(ls.getD k default).all (shw 32)
    ·simp only[Bool.false_eq_true,if_false,Option.bind_some,dB (show([(0:Int),3]:List Int).length<1000 by decide)]; rfl
    ·simp only[if_true,Option.bind_some,dB (show([(0:Int),0]:List Int).length<1000 by decide)]; rfl
  rw[aF (by omega)]
  unfold ckL
  by_cases h0:lnE m (ls.getD k default)=0
  ·rw[if_neg (by simpa using h0)] at key ⊢
   obtain⟨r,h1,h2⟩:=iV h m hm d (k+1) (by omega)
   exact⟨r,by rw[az key]; exact h1,h2⟩
  ·rw[if_pos h0] at key ⊢
   exact⟨_,aj key,rfl⟩
theorem lG {n:List UInt8} {free:Bool} {ls:List (List UInt8)} (h:Few n ls):g_6.f n free ls=some (ckT n free ls):=by
 have hl:=h.l
 unfold g_6.f ckT
 rw[qG h.n,Option.bind_some]
 simp only[eu,Option.bind_some]
 have hf: ∀a b:Int,g_a.f [a,b]=some (if a≠0 then a else b):=fun a b=>by rw[dB (by show 2<1000; decide),frst2]
 simp only[hf,Option.bind_some]
 cases hn:nmE n
 ·rfl
 ·rw[if_neg (show ¬ true=false by decide)]
  by_cases h4:400<ls.length
  ·rw[if_neg (c:=decide _=true) (dn (by omega)),if_pos h4]; rfl
  ·rw[if_pos (c:=decide _=true) (decide_eq_true (by omega)),if_neg h4]
   have hw:(if free=true then some (132:Int) else some 80)=some ((wd free:Nat):Int):=by unfold wd; cases free<;>rfl
   obtain⟨r,h1,h2⟩:=iV h (wd free) (by unfold wd; cases free<;>decide) ls.length 0 (by omega)
   have h1':iter (g_6.b0 ls ((wd free:Nat):Int)) 0=some r:=h1
   rw[List.drop_zero] at h2
   rw[hw,← h2]
   show Option.bind (iter (g_6.b0 ls ((wd free:Nat):Int)) 0) _=_
   rw[h1',Option.bind_some]
   cases r<;>rfl
end Go.Proofs.YtjcbhbncncbdjaaGreatDoorAi
namespace Go.Proofs.YtjcbhbncncbdjaaGreatDoorAi
open Go Go.RowKit
set_option linter.unusedVariables false
set_option linter.unusedSimpArgs false
abbrev Pl:Type:=Int×Int×Int
abbrev Mk1:Type:=UInt8×Int×Int×Int
abbrev ST:Type:=Int×List UInt8×List Pl
def tx (l:List Mk1):List UInt8:=l.map (·.1)
def pl (l:List Mk1):List Pl:=l.map (·.2)
def jf (m:Mk1):Bool:=m.1==32
def lf (l:List Mk1):List Mk1:=l.dropWhile jf
def rt (l:List Mk1):List Mk1:=(l.reverse.dropWhile jf).reverse
theorem gq {α:Type} (p:α→Bool): ∀l:List α,(l.dropWhile p).length≤l.length
 | []=>Nat.le_refl _
 | a::l=>by
  rw[List.dropWhile_cons]
  split
  ·exact Nat.le_succ_of_le (gq p l)
  ·exact Nat.le_refl _
theorem nI: ∀l:List Mk1,iter g_v.b0 l=some (lf l)
 | []=>aj rfl
 | c::l=>by
  have hg:gt (c::l) (0:Int)=c:=rfl
  have hm:mid (c::l) (1:Int) (((c::l).length:Nat):Int)=l:=by
   rw[show(1:Int)=((1:Nat):Int) from rfl,f3]; rfl
  have key:g_v.b0 (c::l)=some (if jf c=true then .inl l else .inr (c::l)):=by
   unfold g_v.b0 jf
   rw[if_pos (decide_eq_true (by simp)),if_pos ⟨by omega,by simp⟩,Option.bind_some,hg,f4]
   by_cases h:c.1=32
   ·rw[decide_eq_true h,h,if_pos rfl,if_pos ⟨by omega,by simp; omega,Int.le_refl _⟩,hm]; rfl
   ·rw[decide_eq_false h,if_neg (by decide),if_neg (c:=(c.1==32)=true) (by simpa using h)]
  unfold lf
  rw[List.dropWhile_cons]
  cases h:jf c
  ·rw[h] at key
   rw[aj key]; rfl
  ·rw[h] at key
   rw[az key]
   exact nI l
theorem mE (l:List Mk1):g_v.f l=some (lf l):=by
 unfold g_v.f
 rw[nI]; rfl
theorem rt_snoc (l:List Mk1) (c:Mk1):rt (l++ [c])=if jf c=true then rt l else l++ [c]:=by
 unfold rt
 rw[List.reverse_append,List.reverse_cons,List.reverse_nil,List.nil_append,List.cons_append,List.nil_append,List.dropWhile_cons]
 split
 ·rfl
 ·rw[List.reverse_cons,List.reverse_reverse]
theorem nJ: ∀(n:Nat) (l:List Mk1),l.length=n→n<1000000→iter g_x.b0 l=some (rt l)
 | 0,l,h,_=>by
  cases l with
  | nil=>exact aj rfl
  | cons _ _=>simp at h
 | n+1,l,h,hn=>by
  have hne:l≠ []:=by intro e; rw[e] at h; cases h
  obtain⟨l0,c,rfl⟩: ∃l0 c,l=l0++ [c]:=⟨l.dropLast,l.getLast hne,(List.dropLast_concat_getLast hne).symm⟩
  have hl:l0.length=n:=by simpa using h
  have hw:w64 (((l0++ [c]).length:Int)-1)=(l0.length:Int):=by
   have e:((l0++ [c]).length:Int)=(l0.length:Int)+1:=by simp
   rw[e,dm (by omega) (by omega)]; omega
  have hg:gt (l0++ [c]) (l0.length:Int)=c:=by
   rw[aQ,List.getD_eq_getElem?_getD,List.getElem?_append_right (Nat.le_refl _)]; simp
  have hm:mid (l0++ [c]) (0:Int) (l0.length:Int)=l0:=by rw[iQ]; simp
  have key:g_x.b0 (l0++ [c])=some (if jf c=true then .inl l0 else .inr (l0++ [c])):=by
   unfold g_x.b0 jf
   have e:((l0++ [c]).length:Int)=(l0.length:Int)+1:=by simp
   rw[hw,if_pos (decide_eq_true (by omega)),if_pos ⟨by omega,by omega⟩,Option.bind_some,hg,f4]
   by_cases h:c.1=32
   ·rw[decide_eq_true h,h,if_pos rfl,if_pos ⟨by omega,by omega,by omega⟩,hm]; rfl
   ·rw[decide_eq_false h,if_neg (by decide),if_neg (c:=(c.1==32)=true) (by simpa using h)]
  rw[rt_snoc]
  cases h:jf c
  ·rw[h] at key
   rw[aj key]; rfl
  ·rw[h] at key
   rw[az key]
   exact nJ n l0 hl (by omega)
theorem nK {l:List Mk1} (h:l.length<1000000):g_x.f l=some (rt l):=by
 unfold g_x.f
 rw[nJ l.length l rfl h]; rfl
theorem mF (l:List Mk1):(rt l).length≤l.length:=by
 unfold rt
 rw[List.length_reverse]
 exact Nat.le_trans (gq _ _) (by rw[List.length_reverse]; exact Nat.le_refl _)
theorem mG (l:List Mk1):(lf l).length≤l.length:=gq _ _
theorem jK {l:List Mk1} (hl:l.length<1000000): ∀(d k:Nat) (b:Bool) (acc:List UInt8),k+d=l.length→acc.length=k→ ∃b',iter (g_y.b0 l) ((k:Int),b,acc)=some ((l.length:Int),b',acc++tx (l.drop k))
 | 0,k,b,acc,h,ha=>by
  refine⟨b,aj ?_⟩
  unfold g_y.b0
  simp only
  rw[if_neg (dn (by omega)),show k=l.length by omega,List.drop_length]
  simp[tx]
 | d+1,k,b,acc,h,ha=>by
  have key:g_y.b0 l ((k:Int),b,acc)=some (.inl (((k+1:Nat):Int),true,acc++ [(l.getD k default).1])):=by
   unfold g_y.b0 g_13.f g_copyCheck.f
   simp only
   rw[if_pos (decide_eq_true (by omega)),if_pos ⟨by omega,by omega⟩,aQ,up1 (by omega),Option.bind_some,if_pos (by simp; omega)]; rfl
  obtain⟨b',h1⟩:=jK hl d (k+1) true (acc++ [(l.getD k default).1]) (by omega) (by simp; omega)
  refine⟨b',by rw[az key,h1,aF (show k<l.length by omega)]; simp[tx]⟩
theorem text_f {l:List Mk1} (hl:l.length<1000000):g_y.f l=some (tx l):=by
 unfold g_y.f
 obtain⟨b',h1⟩:=jK hl l.length 0 false [] (by omega) rfl
 have h1':iter (g_y.b0 l) (0,false,([]:List UInt8))=some ((l.length:Int),b',tx l):=by simpa using h1
 rw[h1',Option.bind_some]
 unfold g_BString.f
 have e:(tx l).length=l.length:=by unfold tx; rw[List.length_map]
 simp only
 rw[if_pos (by omega)]; rfl
theorem gG {l:List Mk1} (hl:l.length<1000000): ∀(d k:Nat) (acc:List Pl),k+d=l.length→acc.length=k→iter (g_w.b0 l) (acc,(k:Int))=some (acc++pl (l.drop k),(l.length:Int))
 | 0,k,acc,h,ha=>by
  refine aj ?_
  unfold g_w.b0
  simp only
  rw[if_neg (dn (by omega)),show k=l.length by omega,List.drop_length]
  simp[pl]
 | d+1,k,acc,h,ha=>by
  have key:g_w.b0 l (acc,(k:Int))=some (.inl (acc++ [(l.getD k default).2],((k+1:Nat):Int))):=by
   unfold g_w.b0
   simp only
   rw[if_pos (decide_eq_true (by omega)),if_pos ⟨by omega,by omega⟩,aQ,up1 (by omega),if_pos (by simp; omega)]
  rw[az key,gG hl d (k+1) _ (by omega) (by simp; omega),aF (show k<l.length by omega)]
  simp[pl]
theorem qH {l:List Mk1} (hl:l.length<1000000):g_w.f l=some (pl l):=by
 unfold g_w.f
 have h1:=gG hl l.length 0 [] (by omega) rfl
 have h1':iter (g_w.b0 l) (([]:List Pl),0)=some (pl l,(l.length:Int)):=by simpa using h1
 rw[h1']; rfl
def dp (n:Int) (l:List Mk1):ST:=(n,tx l,pl l)
theorem add_f {o:List ST} (ho:o.length<900000000) {l:List Mk1} (hl:l.length<1000000) (n:Int):g_10.f o n l=some (o++ [dp n l]):=by
 unfold g_10.f
 rw[text_f hl,qH hl,Option.bind_some,Option.bind_some,if_pos (by simp; omega)]; rfl
theorem lf_drop (l:List Mk1):lf l=l.drop (l.length-(lf l).length):=by
 have: ∀l:List Mk1,∃a,l=a++lf l:=fun l=>by
  induction l with
  | nil=>exact⟨[],rfl⟩
  | cons c l ih =>
   obtain⟨a,ha⟩:=ih
   unfold lf
   rw[List.dropWhile_cons]
   split
   ·exact⟨c::a,by show c::l=c::(a++lf l); rw[← ha]⟩
   ·exact⟨[],rfl⟩
 obtain⟨a,ha⟩:=this l
 conv=>rhs; rw[ha]
 rw[List.length_append,show a.length+(lf l).length-(lf (a++lf l)).length=a.length by rw[← ha]; omega]
 simp
theorem kF (l:List Mk1):(tx l).length=l.length:=by unfold tx; rw[List.length_map]
theorem qI (l:List Mk1):(pl l).length=l.length:=by unfold pl; rw[List.length_map]
theorem rt_take (l:List Mk1):rt l=l.take (rt l).length:=by
 have h:=lf_drop l.reverse
 unfold lf at h
 unfold rt
 rw[List.length_reverse]
 conv=>lhs; rw[h]
 rw[List.length_reverse,List.reverse_drop,List.reverse_reverse,List.length_reverse]
 congr 1
 have:=gq jf l.reverse
 rw[List.length_reverse] at this
 omega
end Go.Proofs.YtjcbhbncncbdjaaGreatDoorAi
namespace Go.Proofs.YtjcbhbncncbdjaaGreatDoorAi
open Go Go.RowKit
set_option linter.unusedVariables false
set_option linter.unusedSimpArgs false
def cols (s:List UInt8) (i:Nat):List Mk1:=(List.range 66).map fun j=>(s.getD (6+j) 32,0,(i:Int),((7+j:Nat):Int))
theorem lH (s:List UInt8) (i:Nat):(cols s i).length=66:=by unfold cols; rw[List.length_map,List.length_range]
theorem jL {ls:List (List UInt8)} {i:Nat} (hi:i<ls.length) (hs:(ls.getD i default).length<1000000) (ch:List Mk1) (hc:ch.length<100000000): ∀(d j:Nat),j+d=66 →
  iter (g_e.b0 ls (i:Int)) (((7+j:Nat):Int),ch++(List.range j).map fun j=>((ls.getD i default).getD (6+j) 32,0,(i:Int),((7+j:Nat):Int)))=some (73,ch++cols (ls.getD i default) i)
 | 0,j,h=>by
  obtain rfl:j=66:=by omega
  exact aj (by unfold g_e.b0; rfl)
 | d+1,j,h=>by
  have key:g_e.b0 ls (i:Int) (((7+j:Nat):Int),ch++(List.range j).map fun j=>((ls.getD i default).getD (6+j) 32,0,(i:Int),((7+j:Nat):Int)))=some (.inl (((7+(j+1):Nat):Int),ch++(List.range (j+1)).map fun j=>((ls.getD i default).getD (6+j) 32,0,(i:Int),((7+j:Nat):Int)))):=by
   unfold g_e.b0
   simp only
   rw[if_pos (decide_eq_true (by omega)),if_pos ⟨by omega,by omega⟩,aQ]
   have hcol:g_9.f (ls.getD i default) ((7+j:Nat):Int)=some ((ls.getD i default).getD (6+j) 32):=by rw[show 7+j=(6+j)+1 by omega]; exact f6 hs _
   rw[hcol,Option.bind_some,if_pos (by simp; omega),up1 (by omega),List.range_succ,List.map_append,List.append_assoc]
   rfl
  rw[az key]
  exact jL hi hs ch hc d (j+1) (by omega)
theorem qJ {ls:List (List UInt8)} {i:Nat} (hi:i<ls.length) (hs:(ls.getD i default).length<1000000) {ch:List Mk1} (hc:ch.length<100000000):g_e.f ls ch (i:Int)=some (ch++cols (ls.getD i default) i):=by
 unfold g_e.f
 have h:=jL hi hs ch hc 66 0 (by omega)
 have e:((7:Int),ch)=(((7+0:Nat):Int),ch++(List.range 0).map fun j=>((ls.getD i default).getD (6+j) 32,(0:Int),(i:Int),((7+j:Nat):Int))):=by simp
 rw[e,h]; rfl
def dv (c:UInt8):Int:=((c-48).toNat:Int)
theorem lI {c:UInt8} (h:eP c=true):dv c=(c.toNat:Int)-48∧0≤dv c∧dv c≤9:=by
 rw[qD] at h
 have:(c-48).toNat=c.toNat-48:=by
  rw[UInt8.toNat_sub_of_le]
  ·rfl
  ·show(48:UInt8).toNat≤c.toNat; exact h.1
 unfold dv
 rw[this]
 omega
theorem nL {c:UInt8}:IntKind.i64.wrap (((c-48).toNat:Nat):Int)=dv c:=by
 have:=(c-48).toNat_lt
 show w64 _=_
 rw[dm (by omega) (by omega)]; rfl
def lbK (s:List UInt8):Nat→Nat→Int→Nat→Option (Int×Nat)
 | 0,_,v,g=>some (v,g)
 | d+1,k,v,g=>if eP (s.getD k 32)=true then lbK s d (k+1) (10*v+dv (s.getD k 32)) (g+1) else if s.getD k 32=32 then lbK s d (k+1) v g else none
def lab (s:List UInt8):Int×Int:=match lbK s 5 0 0 0 with
 | none=>(0,7)
 | some (v,g)=>(v,if g=0∨0<v then 0 else 2)
theorem iW {s:List UInt8} (hs:s.length<1000000): ∀(d k:Nat) (v:Int) (g:Nat),k+d=5→0≤v→v<10 ^ k→g≤k →
  ∃r,iter (g_u.b0 s) (v,(g:Int),((k+1:Nat):Int))=some r∧match r with | .inl y=> ∃g':Nat,lbK s d k v g=some (y.1,g')∧y.2.1=(g':Int) | .inr e=>lbK s d k v g=none∧e=(0,7)
 | 0,k,v,g,h,h0,h1,hg=>⟨.inl (v,(g:Int),((k+1:Nat):Int)),aj (by unfold g_u.b0; simp only; rw[if_neg (dn (by omega))]),g,rfl,rfl⟩
 | d+1,k,v,g,h,h0,h1,hg=>by
  have hp:(10:Int) ^ k≤10 ^ 5:=by
   have:(10:Nat) ^ k≤10 ^ 5:=Nat.pow_le_pow_right (by decide) (by omega)
   exact_mod_cast this
  have hp':(10:Int) ^ 5=100000:=by decide
  have key:g_u.b0 s (v,(g:Int),((k+1:Nat):Int))=some (if eP (s.getD k 32)=true then .inl (10*v+dv (s.getD k 32),((g+1:Nat):Int),((k+1+1:Nat):Int)) else if s.getD k 32=32 then .inl (v,(g:Int),((k+1+1:Nat):Int)) else .inr (.inr (0,7))):=by
   unfold g_u.b0
   simp only
   rw[if_pos (decide_eq_true (by omega)),f6 hs,Option.bind_some,iP,Option.bind_some,up1 (n:=k+1) (by omega)]
   cases hd:eP (s.getD k 32)
   ·rw[if_neg (by decide),if_neg (c:=false=true) (by decide),iR]
    by_cases hb:s.getD k 32=32
    ·rw[decide_eq_true hb,if_pos hb]; rfl
    ·rw[decide_eq_false hb,if_neg hb]; rfl
   ·obtain⟨_,d1,d2⟩:=lI hd
    rw[if_pos rfl,if_pos rfl,nL,dm (x:=10*v) (by omega) (by omega),dm (by omega) (by omega),up1 (n:=g) (by omega)]; rfl
  unfold lbK
  cases hd:eP (s.getD k 32)
  ·rw[hd,if_neg (by decide)] at key
   rw[if_neg (by decide)]
   by_cases hb:s.getD k 32=32
   ·rw[if_pos hb] at key ⊢
    obtain⟨r,r1,r2⟩:=iW hs d (k+1) v g (by omega) h0 (by rw[Int.pow_succ]; omega) (by omega)
    exact⟨r,by rw[az key]; exact r1,r2⟩
   ·rw[if_neg hb] at key ⊢
    exact⟨_,aj key,rfl,rfl⟩
  ·obtain⟨_,d1,d2⟩:=lI hd
   rw[hd,if_pos rfl] at key
   rw[if_pos rfl]
   obtain⟨r,r1,r2⟩:=iW hs d (k+1) (10*v+dv (s.getD k 32)) (g+1) (by omega) (by omega) (by rw[Int.pow_succ]; omega) (by omega)
   exact⟨r,by rw[az key]; exact r1,r2⟩
theorem oG {s:List UInt8} (hs:s.length<1000000): ∃v,g_u.f s=some (v,(lab s).2)∧((lab s).2=0→v=(lab s).1):=by
 unfold g_u.f lab
 obtain⟨r,r1,r2⟩:=iW hs 5 0 0 0 rfl (Int.le_refl _) (by decide) (Nat.le_refl _)
 have r1':iter (g_u.b0 s) (0,0,1)=some r:=r1
 rw[r1',Option.bind_some]
 cases r with
 | inr e =>
  obtain⟨q1,q2⟩:=r2
  rw[q1,q2]
  exact⟨0,rfl,fun _=>rfl⟩
 | inl y =>
  obtain⟨g',q1,q2⟩:=r2
  rw[q1]
  show ∃v,Option.bind (g_11.f ((y.2.1==0)||decide (y.1>0)) 2) _=_∧_
  rw[eu,q2]
  simp only[Option.bind_some]
  refine⟨y.1,?_,fun _=>rfl⟩
  have e:((((g':Nat):Int)==0)||decide (y.1>0))=decide (g'=0∨0<y.1):=by
   rw[Bool.eq_iff_iff]; simp
  rw[e]
  by_cases h:g'=0∨0<y.1
  ·rw[if_pos (decide_eq_true h),if_pos h]
  ·rw[if_neg (dn h),if_neg h]
structure Fz where
 o:Bool
 b:Nat
 f:Nat
 lb:Int
 ch:List Mk1
 kd:List Int
 out:List ST
def fxE (x:Fz):Option (List ST):=if x.o=false then some x.out else if rt x.ch= [] then none else some (x.out++ [dp x.lb (rt x.ch)])
def goE (s:List UInt8) (x:Fz):Int:=if x.o=false then 9 else if bl (s.take 5)=false then 3 else if 19<x.f+1 then 8 else 0
def kG (s:List UInt8):Prop:=s.getD 5 32≠32∧s.getD 5 32≠48
instance (s:List UInt8):Decidable (kG s):=inferInstanceAs (Decidable (_∧_))
def fxL (s:List UInt8) (i:Nat) (x:Fz):Except (Nat×Int) Fz :=
 if cm s=true then .ok { x with kd:=x.kd++ [0] }
 else if kG s then
  if goE s x≠0 then .error (i,goE s x) else .ok { x with f:=x.f+1,ch:=x.ch++cols s i,kd:=x.kd++ [2] }
 else match fxE x with
  | none=> .error (x.b,17)
  | some out=>if(lab s).2≠0 then .error (i,(lab s).2) else .ok ⟨true,i,0,(lab s).1,cols s i,x.kd++ [1],out⟩
def fxR:List (List UInt8)→Nat→Fz→Except (Nat×Int) Fz
 | [],_,x=> .ok x
 | s::r,i,x=>match fxL s i x with
  | .error e=> .error e
  | .ok y=>fxR r (i+1) y
def fx0:Fz:=⟨false,0,0,0,[],[],[]⟩
def FX (ls:List (List UInt8)):Except (Nat×Int) (List Int×List ST):=match fxR ls 0 fx0 with
 | .error e=> .error e
 | .ok x=>match fxE x with
  | none=> .error (x.b,17)
  | some out=> .ok (x.kd,out)
structure FxI (x:Fz) (i:Nat):Prop where
 b:x.b≤i
 f:x.f≤19
 ch:x.ch.length≤66*(x.f+1)
 kd:x.kd.length≤i
 out:x.out.length≤i
theorem fxE_len {x:Fz} {o:List ST} (h:fxE x=some o):o.length≤x.out.length+1:=by
 unfold fxE at h
 split at h
 ·obtain rfl:=Option.some.inj h; omega
 ·split at h
  ·cases h
  ·obtain rfl:=Option.some.inj h; simp
theorem fxL_inv {s:List UInt8} {i:Nat} {x y:Fz} (h:FxI x i) (hy:fxL s i x= .ok y):FxI y (i+1):=by
 obtain⟨h1,h2,h3,h4,h5⟩:=h
 unfold fxL at hy
 split at hy
 ·obtain rfl:=Except.ok.inj hy
  exact⟨Nat.le_succ_of_le h1,h2,h3,by simp; omega,Nat.le_succ_of_le h5⟩
 ·split at hy
  ·split at hy
   ·cases hy
   ·rename_i hg
    obtain rfl:=Except.ok.inj hy
    have hf:x.f+1≤19:=by
     unfold goE at hg
     apply Decidable.byContradiction
     intro q
     apply hg
     split
     ·decide
     ·split
      ·decide
      ·rw[if_pos (by omega)]; decide
    exact⟨Nat.le_succ_of_le h1,hf,by simp only[List.length_append,lH]; omega,by simp; omega,Nat.le_succ_of_le h5⟩
  ·split at hy
   ·cases hy
   ·rename_i o ho
    split at hy
    ·cases hy
    ·obtain rfl:=Except.ok.inj hy
     have:=fxE_len ho
     exact⟨by simp only; omega,by simp only; omega,by simp only[lH]; omega,by simp; omega,by simp only; omega⟩
theorem end_f {x:Fz} {i:Nat} (h:FxI x i) (hi:i<1000): ∃y,g_b.f x.out x.o x.lb x.ch=some y∧match fxE x with | none=>y.1=17 | some o=>y.1=0∧y.2.2.2=o:=by
 have h3:=h.ch
 have h5:=h.out
 have h2:=h.f
 unfold g_b.f
 cases ho:x.o
 ·have e:fxE x=some x.out:=by unfold fxE; rw[ho,if_pos rfl]
  rw[e]
  exact⟨_,rfl,rfl,rfl⟩
 ·have e:fxE x=if rt x.ch= [] then none else some (x.out++ [dp x.lb (rt x.ch)]):=by unfold fxE; rw[ho,if_neg (by decide)]
  rw[e,if_neg (by decide),nK (by omega),Option.bind_some]
  have hr:=mF x.ch
  by_cases hz:rt x.ch= []
  ·rw[if_pos hz,hz]
   exact⟨_,rfl,rfl⟩
  ·have hz': ¬ (((rt x.ch).length:Int)==0)=true:=by simpa using hz
   rw[if_neg hz,if_neg hz',add_f (by omega) (by omega),Option.bind_some]
   exact⟨_,rfl,rfl,rfl⟩
theorem frst3 (a b c:Int):dG [a,b,c]=if a≠0 then a else if b≠0 then b else c:=by
 show(if a≠0 then a else dG [b,c])=_
 rw[frst2]
theorem qK {ls:List (List UInt8)} {i:Nat} (hi:i<ls.length) (hs:(ls.getD i default).length<1000) (h5:5≤(ls.getD i default).length) {x:Fz} (h:FxI x i) (hi':i<1000) :
  g_c.f ls x.kd x.o (x.f:Int) x.ch (i:Int)=some (goE (ls.getD i default) x,((x.f+1:Nat):Int),x.ch++cols (ls.getD i default) i,x.kd++ [2]):=by
 have h2:=h.f
 have h3:=h.ch
 have h4:=h.kd
 have hm:mid (ls.getD i default) (0:Int) 5=(ls.getD i default).take 5:=iQ _ 5
 unfold g_c.f
 rw[if_pos (c:=0<ls.length) (by omega)]
 simp only[eu,Option.bind_some]
 rw[if_pos (c:=0≤(i:Int)∧(i:Int)<(ls.length:Int)) ⟨by omega,by omega⟩,aQ,if_pos ⟨by omega,by omega,by omega⟩,hm,eK (by rw[List.length_take]; omega),qJ hi (by omega) (by omega),up1 (by omega)]
 simp only[eu,Option.bind_some]
 rw[dB (by show 3<1000; decide),frst3,Option.bind_some,if_pos (by simp; omega)]
 congr 2
 unfold goE
 cases x.o
 ·rfl
 ·cases bl ((ls.getD i default).take 5)
  ·rfl
  ·by_cases hf:19<x.f+1
   ·rw[if_neg (c:=decide _=true) (dn (by omega)),if_pos hf]; rfl
   ·rw[if_pos (c:=decide _=true) (decide_eq_true (by omega)),if_neg hf]; rfl
abbrev FxT:Type:=Int×Bool×Int×Int×Int×List Mk1×List Int×List ST
def lJ (x:Fz) (i:Nat):FxT:=((i:Int),x.o,(x.b:Int),(x.f:Int),x.lb,x.ch,x.kd,x.out)
theorem fx_step {n:List UInt8} {ls:List (List UInt8)} (hF:Few n ls) {i:Nat} (hi:i<ls.length) {x:Fz} (h:FxI x i) :
  ∃r,g_d.b0 ls (lJ x i)=some r∧match fxL (ls.getD i default) i x with | .ok y=>r= .inl (lJ y (i+1)) | .error e=> ∃g,r= .inr (.inr ((e.1:Int),e.2,g))∧e.2≠0:=by
 have hs:=hF.at hi
 have hl:=hF.l
 have h4:=h.kd
 unfold g_d.b0 lJ fxL
 simp only
 rw[if_pos (decide_eq_true (by omega)),if_pos ⟨by omega,by omega⟩,aQ,lF (by omega),Option.bind_some,up1 (by omega)]
 cases hc:cm (ls.getD i default)
 ·rw[if_neg (by decide),if_neg (by decide)]
  have h6:g_9.f (ls.getD i default) 6=some ((ls.getD i default).getD 5 32):=f6 (by omega) 5
  rw[h6,Option.bind_some,iR,iR]
  by_cases hm:kG (ls.getD i default)
  ·rw[if_pos (by rw[decide_eq_false hm.1,decide_eq_false hm.2]; rfl),if_pos hm]
   have h5:5≤(ls.getD i default).length:=by
    apply Decidable.byContradiction
    intro q
    apply hm.1
    rw[List.getD_eq_getElem?_getD,List.getElem?_eq_none (by omega)]; rfl
   rw[qK hi hs h5 h (by omega),Option.bind_some]
   simp only
   by_cases hg:goE (ls.getD i default) x=0
   ·rw[if_neg (by rw[hg]; decide),if_neg (c:=goE (ls.getD i default) x≠0) (fun q=>q hg)]
    exact⟨_,rfl,rfl⟩
   ·rw[if_pos (by simpa using hg),if_pos hg]
    exact⟨_,rfl,_,rfl,hg⟩
  ·rw[if_neg (by
    unfold kG at hm
    intro q
    rw[Bool.and_eq_true,Bool.not_eq_true',Bool.not_eq_true',decide_eq_false_iff_not,decide_eq_false_iff_not] at q
    exact hm q),if_neg hm]
   obtain⟨y,y1,y2⟩:=end_f h (by omega)
   rw[y1,Option.bind_some]
   cases ho:fxE x with
   | none =>
    rw[ho] at y2
    have y2:y.1=17:=y2
    rw[if_pos (by rw[y2]; decide)]
    exact⟨_,rfl,_,by rw[y2],by show(17:Int)≠0; decide⟩
   | some o =>
    rw[ho] at y2
    obtain⟨y2,y3⟩:=y2
    rw[if_neg (by rw[y2]; decide)]
    obtain⟨v,v1,v2⟩:=oG (s:=ls.getD i default) (by omega)
    rw[v1,Option.bind_some]
    simp only
    by_cases hz:(lab (ls.getD i default)).2=0
    ·rw[if_neg (by rw[hz]; decide),if_neg (c:=(lab (ls.getD i default)).2≠0) (fun q=>q hz),if_pos (by simp; omega),qJ hi (by omega) (by simp),Option.bind_some]
     rw[v2 hz,y3]
     exact⟨_,rfl,rfl⟩
    ·rw[if_pos (by simpa using hz),if_pos hz]
     exact⟨_,rfl,_,rfl,hz⟩
 ·rw[if_pos rfl,if_pos rfl,if_pos (by simp; omega)]
  exact⟨_,rfl,rfl⟩
theorem nM {n:List UInt8} {ls:List (List UInt8)} (hF:Few n ls): ∀(d i:Nat) (x:Fz),i+d=ls.length→FxI x i →
  ∃r,iter (g_d.b0 ls) (lJ x i)=some r∧match fxR (ls.drop i) i x with | .ok y=>r= .inl (lJ y ls.length)∧FxI y ls.length | .error e=> ∃g,r= .inr ((e.1:Int),e.2,g)∧e.2≠0
 | 0,i,x,h,hI=>by
  obtain rfl:i=ls.length:=by omega
  refine⟨.inl (lJ x ls.length),aj ?_,?_⟩
  ·unfold g_d.b0 lJ
   simp only
   rw[if_neg (dn (by omega))]
  ·rw[List.drop_length]
   exact⟨rfl,hI⟩
 | d+1,i,x,h,hI=>by
  obtain⟨r,r1,r2⟩:=fx_step hF (i:=i) (by omega) hI
  rw[aF (show i<ls.length by omega)]
  unfold fxR
  cases hx:fxL (ls.getD i default) i x with
  | error e =>
   rw[hx] at r2
   obtain⟨g,rfl,hg⟩:=r2
   exact⟨_,aj r1,g,rfl,hg⟩
  | ok y =>
   rw[hx] at r2
   have r2:r= .inl (lJ y (i+1)):=r2
   subst r2
   obtain⟨r',q1,q2⟩:=nM hF d (i+1) y (by omega) (fxL_inv hI hx)
   exact⟨r',by rw[az r1]; exact q1,q2⟩
theorem lK {n:List UInt8} {ls:List (List UInt8)} (hF:Few n ls): ∃r,g_d.f ls [] [] false 0 0 0 []=some r∧match FX ls with | .error e=>r.1=(e.1:Int)∧r.2.1=e.2∧e.2≠0 | .ok y=>r.2.1=0∧r.2.2.2.2.2.2.2.1=y.1∧r.2.2.2.2.2.2.2.2=y.2:=by
 obtain⟨r,r1,r2⟩:=nM hF ls.length 0 fx0 (by omega) ⟨by decide,by decide,by decide,by decide,by decide⟩
 have r1':iter (g_d.b0 ls) (0,false,0,0,0,[],[],[])=some r:=r1
 unfold g_d.f
 rw[r1',Option.bind_some]
 rw[List.drop_zero] at r2
 cases hx:fxR ls 0 fx0 with
 | error e =>
  rw[hx] at r2
  obtain⟨g,rfl,hg⟩:=r2
  have eF:FX ls= .error e:=by unfold FX; rw[hx]
  rw[eF]
  exact⟨_,rfl,rfl,rfl,hg⟩
 | ok x =>
  rw[hx] at r2
  obtain⟨rfl,hI⟩:=r2
  obtain⟨y,y1,y2⟩:=end_f hI hF.l
  show ∃r,Option.bind (g_b.f x.out x.o x.lb x.ch) _=_∧_
  rw[y1,Option.bind_some]
  refine⟨_,rfl,?_⟩
  cases ho:fxE x with
  | none =>
   have eF:FX ls= .error (x.b,17):=by unfold FX; rw[hx]; simp only[ho]
   rw[ho] at y2
   rw[eF]
   exact⟨rfl,y2,by show(17:Int)≠0; decide⟩
  | some o =>
   have eF:FX ls= .ok (x.kd,o):=by unfold FX; rw[hx]; simp only[ho]
   rw[ho] at y2
   rw[eF]
   exact⟨y2.1,rfl,y2.2⟩
end Go.Proofs.YtjcbhbncncbdjaaGreatDoorAi
namespace Go.Proofs.YtjcbhbncncbdjaaGreatDoorAi
open Go Go.RowKit
set_option linter.unusedVariables false
set_option linter.unusedSimpArgs false
theorem mH (a b c d e v:Int):g_m.f a b c d e 0 v=some (if a=0 then v else a,b,c,d,e):=by
 unfold g_m.f
 by_cases h:a=0
 ·subst h; rfl
 ·have:(a==0)=false:=by simpa using h
  rw[if_neg h]; simp[this]
theorem wrong1 (a b c d e v:Int):g_m.f a b c d e 1 v=some (a,if b=0 then v else b,c,d,e):=by
 unfold g_m.f
 by_cases h:b=0
 ·subst h; rfl
 ·have:(b==0)=false:=by simpa using h
  rw[if_neg h]; simp[this]
theorem wrong2 (a b c d e v:Int):g_m.f a b c d e 2 v=some (a,b,if c=0 then v else c,d,e):=by
 unfold g_m.f
 by_cases h:c=0
 ·subst h; rfl
 ·have:(c==0)=false:=by simpa using h
  rw[if_neg h]; simp[this]
theorem wrong3 (a b c d e v:Int):g_m.f a b c d e 3 v=some (a,b,c,if d=0 then v else d,e):=by
 unfold g_m.f
 by_cases h:d=0
 ·subst h; rfl
 ·have:(d==0)=false:=by simpa using h
  rw[if_neg h]; simp[this]
theorem qL (a b c d e v:Int):g_m.f a b c d e 4 v=some (a,b,c,d,if e=0 then v else e):=by
 unfold g_m.f
 by_cases h:e=0
 ·subst h; rfl
 ·have:(e==0)=false:=by simpa using h
  rw[if_neg h]; simp[this]
def dgs:List Mk1→Nat
 | []=>0
 | m::l=>if eP m.1=true then dgs l+1 else 0
theorem qM: ∀l:List Mk1,dgs l≤l.length
 | []=>Nat.le_refl _
 | m::l=>by
  unfold dgs
  have:=qM l
  split
  ·simp; omega
  ·omega
theorem lL {l:List Mk1} (hl:l.length<1000000): ∀(d k:Nat),k+d=l.length→iter (g_i.b0 l) (k:Int)=some ((k+dgs (l.drop k):Nat):Int)
 | 0,k,h=>by
  rw[show k=l.length by omega,List.drop_length]
  exact aj (by unfold g_i.b0; rw[if_neg (dn (by omega))]; rfl)
 | d+1,k,h=>by
  have key:g_i.b0 l (k:Int)=some (if eP (l.getD k default).1=true then .inl ((k+1:Nat):Int) else .inr (k:Int)):=by
   unfold g_i.b0
   rw[if_pos (decide_eq_true (by omega)),if_pos ⟨by omega,by omega⟩,aQ,iP,up1 (by omega)]
   cases eP (l.getD k default).1<;>rfl
  rw[aF (show k<l.length by omega)]
  unfold dgs
  cases hd:eP (l.getD k default).1
  ·rw[hd] at key
   rw[aj key]; rfl
  ·rw[hd] at key
   rw[az key,if_pos rfl,lL hl d (k+1) (by omega)]
   congr 2; omega
theorem kI: ∀(l:List Mk1) (k:Nat),k<dgs l→eP (l.getD k default).1=true
 | [],k,h=>absurd h (by unfold dgs; omega)
 | m::l,k,h=>by
  unfold dgs at h
  split at h
  ·rename_i hm
   cases k with
   | zero=>exact hm
   | succ k=>exact kI l k (by omega)
  ·omega
def vlD:List Mk1→Int→Int
 | [],v=>v
 | m::l,v=>vlD l (10*v+dv m.1)
theorem qN {y9:List Mk1} {n:Nat} (hn:n≤5) (hle:n≤y9.length) (hd: ∀k,k<n→eP (y9.getD k default).1=true): ∀(d k:Nat) (v:Int),k+d=n→0≤v→v<10 ^ k →
  iter (g_i.b1 y9 (n:Int)) (v,(k:Int))=some (vlD ((y9.take n).drop k) v,(n:Int)):=by
 have hm:mid y9 (0:Int) (n:Int)=y9.take n:=iQ _ n
 have hlen:(y9.take n).length=n:=by rw[List.length_take]; omega
 intro d
 induction d with
 | zero =>
  intro k v h _ _
  rw[show k=n by omega]
  refine aj ?_
  unfold g_i.b1
  simp only
  rw[hm,hlen,if_neg (dn (by omega)),List.drop_eq_nil_of_le (by omega)]; rfl
 | succ d ih =>
  intro k v h h0 h1
  have hk:k<(y9.take n).length:=by omega
  have hp:(10:Int) ^ k≤10 ^ 5:=by
   have:(10:Nat) ^ k≤10 ^ 5:=Nat.pow_le_pow_right (by decide) (by omega)
   exact_mod_cast this
  have hp':(10:Int) ^ 5=100000:=by decide
  have eg:(y9.take n).getD k default=y9.getD k default:=by
   rw[List.getD_eq_getElem?_getD,List.getElem?_take,if_pos (by omega),List.getD_eq_getElem?_getD]
  obtain⟨_,d1,d2⟩:=lI (hd k (by omega))
  have key:g_i.b1 y9 (n:Int) (v,(k:Int))=some (.inl (10*v+dv (y9.getD k default).1,((k+1:Nat):Int))):=by
   unfold g_i.b1
   simp only
   rw[hm,hlen,if_pos (decide_eq_true (by omega)),if_pos ⟨by omega,by omega⟩,aQ,eg,nL,dm (x:=10*v) (by omega) (by omega),dm (by omega) (by omega),up1 (by omega)]
  rw[az key,ih (k+1) _ (by omega) (by omega) (by rw[Int.pow_succ]; omega)]
  conv=>rhs; rw[aF hk,eg]
  rfl
def enL (ch:List Mk1):Int×List Mk1×Int :=
 let l:=rt (lf ch)
 if 1≤dgs l∧dgs l≤5∧dgs l<l.length∧(l.getD (dgs l) default).1=32 then(vlD (l.take (dgs l)) 0,lf (l.drop (dgs l)),if vlD (l.take (dgs l)) 0=0 then 2 else 0) else(0,l,0)
def enE (ch:List Mk1):Int:=if(enL ch).2.2≠0 then(enL ch).2.2 else if 1320<(enL ch).2.1.length then 8 else 0
def enO (ch:List Mk1) (out:List ST):List ST:=if(enL ch).2.1= [] then out else out++ [dp (enL ch).1 (enL ch).2.1]
theorem enL_len (ch:List Mk1):(enL ch).2.1.length≤ch.length:=by
 have h1:=mF (lf ch)
 have h2:=mG ch
 unfold enL
 simp only
 split
 ·have h3:=mG ((rt (lf ch)).drop (dgs (rt (lf ch))))
  rw[List.length_drop] at h3
  simp only; omega
 ·simp only; omega
theorem enO_len (ch:List Mk1) (out:List ST):(enO ch out).length≤out.length+1:=by
 unfold enO
 split
 ·omega
 ·simp
theorem mI {ch:List Mk1} (hc:ch.length<1000000) {out:List ST} (ho:out.length<900000000) (a b c d e:Int) :
  g_i.f out ch a b c d e=some ([],0,a,b,c,d,if e≠0 then e else enE ch,enO ch out):=by
 have h1:=mF (lf ch)
 have h2:=mG ch
 have hL: ∃e',g_i.f out ch a b c d e=(if(((enL ch).2.1.length:Int)==0)=true then some ([],0,a,b,c,d,e',out) else Option.bind (if(decide (((enL ch).2.1.length:Int)>1320))=true then some (a,b,c,d,if e'=0 then 8 else e') else some (a,b,c,d,e')) fun z91=>Option.bind (g_10.f out (enL ch).1 (enL ch).2.1) fun y95=>some ([],0,z91.1,z91.2.1,z91.2.2.1,z91.2.2.2.1,z91.2.2.2.2,y95))∧e'=if e≠0 then e else(enL ch).2.2:=by
  unfold g_i.f enL
  rw[mE,Option.bind_some,nK (by omega),Option.bind_some]
  have hd:=lL (l:=rt (lf ch)) (by omega) (rt (lf ch)).length 0 (by omega)
  rw[List.drop_zero,Nat.zero_add] at hd
  have hd':iter (g_i.b0 (rt (lf ch))) 0=some ((dgs (rt (lf ch)):Nat):Int):=hd
  rw[hd',Option.bind_some]
  have hdl:=qM (rt (lf ch))
  generalize hl:rt (lf ch)=l at *
  simp only
  have hw:g_12.f ((dgs l:Nat):Int) 1 5=some (decide (1≤dgs l)&&decide (dgs l≤5)):=by
   unfold g_12.f
   congr 1
   congr 1
   ·exact decide_eq_decide.2 (by omega)
   ·exact decide_eq_decide.2 (by omega)
  rw[hw,Option.bind_some]
  have hcond:Option.bind (if((decide (1≤dgs l)&&decide (dgs l≤5))&&decide (((dgs l:Nat):Int)<(l.length:Int)))=true then(if 0≤((dgs l:Nat):Int)∧((dgs l:Nat):Int)<(l.length:Int) then some ((((gt l ((dgs l:Nat):Int)).1).toNat:Int)==((32:UInt8).toNat:Int)) else none) else some false) (fun z=>some z)=some (decide (1≤dgs l∧dgs l≤5∧dgs l<l.length∧(l.getD (dgs l) default).1=32)):=by
   by_cases g1:1≤dgs l∧dgs l≤5∧dgs l<l.length
   ·rw[if_pos (by rw[Bool.and_eq_true,Bool.and_eq_true,decide_eq_true_eq,decide_eq_true_eq,decide_eq_true_eq]; exact⟨⟨g1.1,g1.2.1⟩,by omega⟩),if_pos ⟨by omega,by omega⟩,aQ,f4,Option.bind_some]
    congr 1
    exact decide_eq_decide.2 ⟨fun q=>⟨g1.1,g1.2.1,g1.2.2,q⟩,fun q=>q.2.2.2⟩
   ·rw[if_neg (by rw[Bool.and_eq_true,Bool.and_eq_true,decide_eq_true_eq,decide_eq_true_eq,decide_eq_true_eq]; intro q; exact g1 ⟨q.1.1,q.1.2,by omega⟩),decide_eq_false (fun q=>g1 ⟨q.1,q.2.1,q.2.2.1⟩)]; rfl
  have hc2:=Option.bind_eq_some_iff.1 hcond
  obtain⟨z,z1,z2⟩:=hc2
  obtain rfl:=Option.some.inj z2
  rw[z1,Option.bind_some]
  by_cases g:1≤dgs l∧dgs l≤5∧dgs l<l.length∧(l.getD (dgs l) default).1=32
  ·have hv:=qN (y9:=l) (n:=dgs l) g.2.1 hdl (kI l) (dgs l) 0 0 (by omega) (Int.le_refl _) (by decide)
   rw[List.drop_zero] at hv
   have hv':iter (g_i.b1 l ((dgs l:Nat):Int)) (0,0)=some (vlD (l.take (dgs l)) 0,((dgs l:Nat):Int)):=hv
   rw[if_pos (decide_eq_true g),if_pos g,if_pos ⟨by omega,by omega,by omega⟩,hv',Option.bind_some,f3]
   simp only[qL,mE,Option.bind_some]
   by_cases hz:vlD (l.take (dgs l)) 0=0
   ·rw[if_pos (by rw[hz]; rfl),if_pos hz,Option.bind_some,if_pos ⟨by omega,by omega,by omega⟩]
    refine⟨if e=0 then 2 else e,rfl,?_⟩
    by_cases he:e=0
    ·rw[if_pos he,if_neg (fun q=>q he)]
    ·rw[if_neg he,if_pos he]
   ·rw[if_neg (by simpa using hz),if_neg hz,Option.bind_some,if_pos ⟨by omega,by omega,by omega⟩]
    refine⟨e,rfl,?_⟩
    by_cases he:e=0
    ·rw[if_neg (fun q=>q he),he]
    ·rw[if_pos he]
  ·rw[if_neg (dn g),if_neg g]
   simp only[qL,Option.bind_some]
   refine⟨e,rfl,?_⟩
   by_cases he:e=0
   ·rw[if_neg (fun q=>q he),he]
   ·rw[if_pos he]
 obtain⟨e',h3,h4⟩:=hL
 rw[h3]
 have hlen:=enL_len ch
 unfold enO enE
 by_cases hz:(enL ch).2.1= []
 ·rw[if_pos (by rw[hz]; rfl),if_pos hz,h4,hz]
  by_cases he:e=0
  ·rw[if_neg (fun q=>q he),if_neg (fun q=>q he)]
   by_cases h5:(enL ch).2.2=0
   ·rw[if_neg (fun q=>q h5),h5]; rfl
   ·rw[if_pos h5]
  ·rw[if_pos he,if_pos he]
 ·have hz': ¬ (((enL ch).2.1.length:Int)==0)=true:=by simpa using hz
  rw[if_neg hz',if_neg hz,add_f ho (by omega)]
  by_cases h6:1320<(enL ch).2.1.length
  ·rw[if_pos (decide_eq_true (by omega)),Option.bind_some,Option.bind_some,if_pos h6,h4]
   by_cases he:e=0<;>by_cases h5:(enL ch).2.2=0<;>simp[he,h5]
  ·rw[if_neg (dn (by omega)),Option.bind_some,Option.bind_some,if_neg h6,h4]
   by_cases he:e=0<;>by_cases h5:(enL ch).2.2=0<;>simp[he,h5]
structure Rw where
 ch:List Mk1
 q:UInt8
 f:Nat
 st:Bool
 out:List ST
 e:Int
def qO (x:Rw) (c:UInt8):Bool:=decide (c≠32)&&decide (lf x.ch= [])
def gr (x:Rw) (c:UInt8) (i a:Nat) (q:UInt8):Rw:=⟨(if qO x c=true then [] else x.ch)++ [(c,0,(i:Int),((a+1:Nat):Int))],q,x.f,if qO x c=true then true else x.st,x.out,x.e⟩
def jg (x:Rw):Rw:=⟨[],x.q,0,x.st,enO x.ch x.out,if x.e≠0 then x.e else enE x.ch⟩
def isQ (c:UInt8):Bool:=decide (c=39)||decide (c=34)
def mJ (r:List UInt8):Bool:=decide (ltr r= [])||decide ((ltr r).getD 0 default=33)
def cN (i:Nat):List UInt8→Nat→Rw→Rw×Bool×Bool
 | [],_,x=>(x,false,false)
 | c::r,a,x =>
  if x.q≠0 then
   if c=38∧bl r=true then(x,true,false) else cN i r (a+1) (gr x c i a (if c=x.q then 0 else x.q))
  else if c=33 then(x,false,false)
  else if c=59 then cN i r (a+1) (jg x)
  else if c=38 then(if mJ r=true then(x,true,false) else(x,false,true))
  else cN i r (a+1) (gr x c i a (if isQ c=true then c else 0))
structure RwI (x:Rw) (i a:Nat):Prop where
 ch:x.ch.length≤1000*i+a
 out:x.out.length≤1001*i+a
 f:x.f≤1000
theorem put_f {ls:List (List UInt8)} {i a:Nat} (hi:i<ls.length) (ha:a<(ls.getD i default).length) (ha':a<1000) (hi':i<1000) {x:Rw} (h:RwI x i a) (q:UInt8) :
  g_k.f ls x.ch x.st (i:Int) (a:Int)=some ((gr x ((ls.getD i default).getD a default) i a q).ch,(gr x ((ls.getD i default).getD a default) i a q).st):=by
 have hc:=h.ch
 unfold g_k.f gr qO
 rw[if_pos ⟨by omega,by omega⟩,aQ,if_pos ⟨by omega,by omega⟩,aQ,iR,up1 (by omega),mE]
 by_cases h1:(ls.getD i default).getD a default=32
 ·rw[decide_eq_true h1,if_neg (by decide),Option.bind_some,if_pos (by simp; omega),decide_eq_false (by simpa using h1),Bool.false_and]; rfl
 ·rw[decide_eq_false h1,if_pos (by decide),Option.bind_some,decide_eq_true h1,Bool.true_and]
  by_cases h2:lf x.ch= []
  ·rw[h2]; rfl
  ·have h2': ¬ (((lf x.ch).length:Int)==0)=true:=by simpa using h2
   rw[if_neg h2',Option.bind_some,if_pos (by simp; omega),decide_eq_false h2]; rfl
theorem lM {x:Rw} {i a:Nat} (h:RwI x i a) (c q:UInt8):RwI (gr x c i a q) i (a+1):=by
 obtain⟨h1,h2,h3⟩:=h
 refine⟨?_,by unfold gr; simp only; omega,h3⟩
 unfold gr
 simp only[List.length_append,List.length_cons,List.length_nil]
 split
 ·simp only[List.length_nil]; omega
 ·omega
theorem lN {x:Rw} {i a:Nat} (h:RwI x i a):RwI (jg x) i (a+1):=by
 obtain⟨h1,h2,h3⟩:=h
 have:=enO_len x.ch x.out
 exact⟨by unfold jg; simp,by unfold jg; simp only; omega,by unfold jg; simp⟩
end Go.Proofs.YtjcbhbncncbdjaaGreatDoorAi
namespace Go.Proofs.YtjcbhbncncbdjaaGreatDoorAi
open Go Go.RowKit
set_option linter.unusedVariables false
set_option linter.unusedSimpArgs false
abbrev LnT:Type:=Int×List Mk1×UInt8×Bool×Int×Bool×Int×Int×Int×Int×Int×List ST
def f8 (x:Rw) (a:Nat) (g:Bool) (e0 e1 e2 e3:Int):LnT:=((a:Int),x.ch,x.q,g,(x.f:Int),x.st,e0,e1,e2,e3,x.e,x.out)
theorem nxt_f (r:List UInt8):(if decide (ltr r= [])=true then some true else(if 0≤(0:Int)∧(0:Int)<((ltr r).length:Int) then some (((gt (ltr r) (0:Int)).toNat:Int)==((33:UInt8).toNat:Int)) else none))=some (mJ r):=by
 unfold mJ
 cases h:ltr r with
 | nil=>rfl
 | cons c l =>
  rw[if_neg (by simp),if_pos ⟨Int.le_refl _,by simp⟩,show(0:Int)=((0:Nat):Int) from rfl,aQ,f4]; rfl
theorem oH {ls:List (List UInt8)} {i a:Nat} (hi:i<ls.length) (hi':i<1000) (hs:(ls.getD i default).length<1000) (ha:a<(ls.getD i default).length) {x:Rw} (h:RwI x i a) (e0 e2 e3:Int) :
  g_j.b0 ls (i:Int) (f8 x a false e0 0 e2 e3)=some (
   let c:=(ls.getD i default).getD a default
   let r:=(ls.getD i default).drop (a+1)
   if x.q≠0 then
    if c=38∧bl r=true then .inr (f8 x a true e0 0 e2 e3) else .inl (f8 (gr x c i a (if c=x.q then 0 else x.q)) (a+1) false e0 0 e2 e3)
   else if c=33 then .inr (f8 x a false e0 0 e2 e3)
   else if c=59 then .inl (f8 (jg x) (a+1) false e0 0 e2 e3)
   else if c=38 then(if mJ r=true then .inr (f8 x a true e0 0 e2 e3) else .inr (f8 x a false e0 7 e2 e3))
   else .inl (f8 (gr x c i a (if isQ c=true then c else 0)) (a+1) false e0 0 e2 e3)):=by
 have hch:=h.ch
 have hout:=h.out
 unfold g_j.b0 f8 g_h.f
 simp only
 rw[aQ,if_pos (decide_eq_true (by omega)),if_pos ⟨by omega,by omega⟩,if_pos ⟨by omega,by omega⟩,up1 (by omega),if_pos ⟨by omega,by omega,Int.le_refl _⟩,aQ,f3]
 have hp:=fun q=>put_f hi ha (by omega) hi' h q
 have hb:g_n.f ((ls.getD i default).drop (a+1))=some (bl ((ls.getD i default).drop (a+1))):=eK (by rw[List.length_drop]; omega)
 generalize hc:(ls.getD i default).getD a default=c at *
 generalize hr:(ls.getD i default).drop (a+1)=r at *
 by_cases hq:x.q=0
 ·have hq2: ¬ (x.q≠0):=fun k=>k hq
  rw[iR,decide_eq_true hq,if_neg (by decide),if_neg hq2,f4,f4,f4]
  by_cases h33:c=33
  ·rw[decide_eq_true h33,if_pos rfl,if_pos h33]; rfl
  ·rw[decide_eq_false h33,if_neg (by decide),if_neg h33]
   by_cases h59:c=59
   ·rw[decide_eq_true h59,if_pos rfl,if_pos h59,mI (by omega) (by omega)]
    rfl
   ·rw[decide_eq_false h59,if_neg (by decide),if_neg h59]
    by_cases h38:c=38
    ·rw[decide_eq_true h38,if_pos rfl,if_pos h38,iU,Option.bind_some,nxt_f,Option.bind_some]
     cases mJ r
     ·rw[if_neg (by decide),wrong1,Option.bind_some]; rfl
     ·rfl
    ·rw[decide_eq_false h38,if_neg (by decide),if_neg h38,hp (if isQ c=true then c else 0),Option.bind_some]
     unfold g_r.f
     rw[f4,f4,Option.bind_some]
     show Option.bind (if isQ c=true then _ else _) _=_
     cases isQ c
     ·simp only[Bool.false_eq_true,if_false,Option.bind_some,if_true]
      rw[hq]; rfl
     ·rfl
 ·rw[iR,decide_eq_false hq,if_pos (by decide),if_pos hq,f4,f4]
  by_cases h38:c=38
  ·rw[decide_eq_true h38,if_pos rfl,hb,Option.bind_some,Option.bind_some]
   cases bl r
   ·rw[if_neg (by decide),if_neg (fun k=>by cases k.2),hp (if c=x.q then 0 else x.q),Option.bind_some]
    by_cases h5:c=x.q
    ·rw[decide_eq_true h5,if_pos rfl,Option.bind_some,if_pos rfl]
     rw[if_pos h5]; rfl
    ·rw[decide_eq_false h5,if_neg (by decide),Option.bind_some,if_pos rfl]
     rw[if_neg h5]; rfl
   ·rw[if_pos rfl,if_pos ⟨h38,rfl⟩]; rfl
  ·rw[decide_eq_false h38,if_neg (by decide),Option.bind_some,if_neg (by decide),if_neg (fun k=>h38 k.1),hp (if c=x.q then 0 else x.q),Option.bind_some]
   by_cases h5:c=x.q
   ·rw[decide_eq_true h5,if_pos rfl,Option.bind_some,if_pos rfl]
    rw[if_pos h5]; rfl
   ·rw[decide_eq_false h5,if_neg (by decide),Option.bind_some,if_pos rfl]
    rw[if_neg h5]; rfl
theorem jM {ls:List (List UInt8)} {i:Nat} (hi:i<ls.length) (hi':i<1000) (hs:(ls.getD i default).length<1000) (e0 e2 e3:Int): ∀(d a:Nat) (x:Rw),a+d=(ls.getD i default).length→RwI x i a →
  ∃a',iter (g_j.b0 ls (i:Int)) (f8 x a false e0 0 e2 e3)=some (f8 (cN i ((ls.getD i default).drop a) a x).1 a' (cN i ((ls.getD i default).drop a) a x).2.1 e0 (if(cN i ((ls.getD i default).drop a) a x).2.2=true then 7 else 0) e2 e3)∧RwI (cN i ((ls.getD i default).drop a) a x).1 i (ls.getD i default).length
 | 0,a,x,h,hI=>by
  rw[List.drop_eq_nil_of_le (by omega)]
  refine⟨a,aj ?_,by unfold cN; simp only; rw[show a=(ls.getD i default).length by omega] at hI; exact hI⟩
  unfold g_j.b0 f8 cN
  simp only
  rw[aQ,if_neg (dn (by omega))]; rfl
 | d+1,a,x,h,hI=>by
  have key:=oH hi hi' hs (a:=a) (by omega) hI e0 e2 e3
  simp only at key
  have hup: ∀{y:Rw},RwI y i a→RwI y i (ls.getD i default).length:=fun q=>⟨by have:=q.ch; omega,by have:=q.out; omega,q.f⟩
  rw[aF (show a<(ls.getD i default).length by omega)]
  generalize hc:(ls.getD i default).getD a default=c at *
  have ih:=fun y (hy:RwI y i (a+1))=>jM hi hi' hs e0 e2 e3 d (a+1) y (by omega) hy
  unfold cN
  by_cases hq:x.q=0
  ·have hq2: ¬ (x.q≠0):=fun k=>k hq
   rw[if_neg hq2] at key ⊢
   by_cases h33:c=33
   ·rw[if_pos h33] at key ⊢
    exact⟨a,aj key,hup hI⟩
   ·rw[if_neg h33] at key ⊢
    by_cases h59:c=59
    ·rw[if_pos h59] at key ⊢
     obtain⟨a',i1,i2⟩:=ih _ (lN hI)
     exact⟨a',by rw[az key]; exact i1,i2⟩
    ·rw[if_neg h59] at key ⊢
     by_cases h38:c=38
     ·rw[if_pos h38] at key ⊢
      cases hn:mJ ((ls.getD i default).drop (a+1))
      ·rw[hn,if_neg (by decide)] at key
       rw[if_neg (by decide)]
       exact⟨a,aj key,hup hI⟩
      ·rw[hn,if_pos rfl] at key
       rw[if_pos rfl]
       exact⟨a,aj key,hup hI⟩
     ·rw[if_neg h38] at key ⊢
      obtain⟨a',i1,i2⟩:=ih _ (lM hI c (if isQ c=true then c else 0))
      exact⟨a',by rw[az key]; exact i1,i2⟩
  ·rw[if_pos hq] at key ⊢
   by_cases hb:c=38∧bl ((ls.getD i default).drop (a+1))=true
   ·rw[if_pos hb] at key ⊢
    exact⟨a,aj key,hup hI⟩
   ·rw[if_neg hb] at key ⊢
    obtain⟨a',i1,i2⟩:=ih _ (lM hI c (if c=x.q then 0 else x.q))
    exact⟨a',by rw[az key]; exact i1,i2⟩
theorem nN {s:List UInt8} (hs:s.all (shw 32)=true): ∀(d k:Nat),k+d=s.length→(s.take k).all (· == 32)=true →
  ∃r,iter (g_19.b0 s true) k=some r∧(match r with | .inl _=>(-1:Int) | .inr e=>e)=if ltr s= [] then -1 else((s.length-(ltr s).length:Nat):Int)
 | 0,k,h,hb=>by
  refine⟨.inl k,aj (by unfold g_19.b0; rw[if_neg (dn (by omega))]),?_⟩
  rw[show k=s.length by omega,List.take_length] at hb
  have:ltr s= []:=iT.2 (List.all_eq_true.1 hb)
  rw[if_pos this]
 | d+1,k,h,hb=>by
  have hk:k<s.length:=by omega
  have h128:(s.getD k default).toNat<128:=by
   have:=(List.all_eq_true.1 hs) (s.getD k default) (by rw[List.getD_eq_getElem?_getD,List.getElem?_eq_getElem hk]; exact List.getElem_mem hk)
   unfold shw at this
   rw[Bool.and_eq_true,decide_eq_true_eq,decide_eq_true_eq] at this
   omega
  have key:g_19.b0 s true k=some (if s.getD k default=32 then .inl (k+1) else .inr (.inr (k:Int))):=by
   unfold g_19.b0 g_g.f
   rw[if_pos (decide_eq_true hk),qE h128,Option.bind_some]
   by_cases h0:s.getD k default=32
   ·rw[if_pos h0,h0]; rfl
   ·rw[if_neg h0]
    have:(((s.getD k default).toNat:Int) != 32)=true:=by
     rw[bne_iff_ne]
     intro q
     exact h0 (UInt8.toNat_inj.1 (by show(s.getD k default).toNat=32; omega))
    rw[this]; rfl
  have et:s.take (k+1)=s.take k++ [s.getD k default]:=by
   rw[List.take_succ_eq_append_getElem hk,List.getD_eq_getElem?_getD,List.getElem?_eq_getElem hk]; rfl
  by_cases h0:s.getD k default=32
  ·rw[if_pos h0] at key
   obtain⟨r,r1,r2⟩:=nN hs d (k+1) (by omega) (by rw[et,List.all_append,hb,h0]; rfl)
   exact⟨r,by rw[az key]; exact r1,r2⟩
  ·rw[if_neg h0] at key
   refine⟨_,aj key,?_⟩
   have e1:ltr s=s.drop k:=by
    conv=>lhs; rw[← List.take_append_drop k s]
    unfold ltr
    rw[List.dropWhile_append_of_pos (fun x hx=>(List.all_eq_true.1 hb) x hx),aF hk,List.dropWhile_cons,if_neg (by simpa using h0)]
   have e2:ltr s≠ []:=by rw[e1]; intro q; have:=congrArg List.length q; rw[List.length_drop] at this; simp at this; omega
   rw[if_neg e2,e1,List.length_drop]
   show(k:Int)=_
   omega
theorem idx2_f {s:List UInt8} (hs:s.all (shw 32)=true):g_16.f s=some (if ltr s= [] then -1 else((s.length-(ltr s).length:Nat):Int)):=by
 unfold g_16.f g_19.f
 obtain⟨r,r1,r2⟩:=nN hs s.length 0 (by omega) rfl
 rw[r1,Option.bind_some,← r2]
 cases r<;>rfl
theorem lO (s:List UInt8):ltr s=s.drop (s.length-(ltr s).length):=by
 have: ∀l:List UInt8,∃a,l=a++ltr l:=fun l=>by
  induction l with
  | nil=>exact⟨[],rfl⟩
  | cons c l ih =>
   obtain⟨a,ha⟩:=ih
   unfold ltr
   rw[List.dropWhile_cons]
   split
   ·exact⟨c::a,by show c::l=c::(a++ltr l); rw[← ha]⟩
   ·exact⟨[],rfl⟩
 obtain⟨a,ha⟩:=this s
 conv=>rhs; rw[ha]
 rw[List.length_append,show a.length+(ltr s).length-(ltr (a++ltr s)).length=a.length by rw[← ha]; omega]
 simp
def bgM (s:List UInt8):Bool:=decide (ltr s≠ [])&&decide ((ltr s).getD 0 default=38)
def bgA (s:List UInt8):Nat:=if bgM s=true then s.length-(ltr s).length+1 else 0
def bgE (s:List UInt8) (q:UInt8):Int:=if bgM s=true then(if bl ((ltr s).drop 1)=true then 3 else 0) else if q≠0 then 3 else 0
theorem begin_f {s:List UInt8} (hs:s.all (shw 32)=true) (hl:s.length<1000) (q:UInt8) (b c d e:Int):g_f.f q 0 b c d e s=some ((bgA s:Int),bgE s q,b,c,d,e):=by
 have hle:(ltr s).length≤s.length:=gq _ _
 unfold g_f.f bgA bgE
 rw[idx2_f hs,Option.bind_some]
 cases hz:ltr s with
 | nil =>
  have hm:bgM s=false:=by unfold bgM; rw[hz]; rfl
  rw[hm,if_pos rfl,if_pos (by decide),Option.bind_some,if_pos rfl,iR,if_neg (c:=false=true) (by decide),if_neg (c:=false=true) (by decide)]
  by_cases hq:q=0
  ·rw[decide_eq_true hq,if_neg (by decide),if_neg (fun k=>k hq)]; rfl
  ·rw[decide_eq_false hq,if_pos (by decide),mH,if_pos hq]; rfl
 | cons c0 l0 =>
  rw[hz] at hle
  have hn:s.length-(c0::l0).length<s.length:=by simp at hle ⊢; omega
  have eg:gt s ((s.length-(c0::l0).length:Nat):Int)=c0:=by
   rw[aQ]
   have:=lO s
   rw[hz] at this
   have h2:=aF hn
   rw[← this] at h2
   exact(List.cons.inj h2).1.symm
  have er:s.drop (s.length-(c0::l0).length+1)=l0:=by
   have:=lO s
   rw[hz] at this
   have h2:=aF hn
   rw[← this] at h2
   exact(List.cons.inj h2).2.symm
  have hm:bgM s=decide (c0=38):=by unfold bgM; rw[hz]; simp
  have hne: ¬ (c0::l0= []):=by simp
  simp only[if_neg hne]
  rw[if_neg (dn (by omega)),if_pos ⟨by omega,by omega⟩,eg,iR,Option.bind_some,hm]
  by_cases h38:c0=38
  ·rw[decide_eq_true h38,if_neg (by decide),if_pos (c:=true=true) rfl,if_pos (c:=true=true) rfl,up1 (by omega),if_pos ⟨by omega,by omega,Int.le_refl _⟩,f3,er,eK (by simp at hle; omega),Option.bind_some]
   have:(c0::l0).drop 1=l0:=rfl
   rw[this]
   cases bl l0
   ·rfl
   ·rw[if_pos rfl,mH]; rfl
  ·rw[decide_eq_false h38,if_pos (by decide),iR,if_neg (c:=false=true) (by decide),if_neg (c:=false=true) (by decide)]
   by_cases hq:q=0
   ·rw[decide_eq_true hq,if_neg (by decide),if_neg (fun k=>k hq)]; rfl
   ·rw[decide_eq_false hq,if_pos (by decide),mH,if_pos hq]; rfl
end Go.Proofs.YtjcbhbncncbdjaaGreatDoorAi
namespace Go.Proofs.YtjcbhbncncbdjaaGreatDoorAi
open Go Go.RowKit
set_option linter.unusedVariables false
set_option linter.unusedSimpArgs false
structure Rd where
 ch:List Mk1
 q:UInt8
 go:Bool
 f:Nat
 st:Bool
 kd:List Int
 out:List ST
def skp (s:List UInt8) (q:UInt8):Bool:=decide (q=0)&&mJ s
def lnA (s:List UInt8) (r:Rd):Nat:=if r.go=true then bgA s else 0
def lnF (r:Rd):Nat:=if r.go=true then r.f+1 else r.f
def lnP (s:List UInt8) (i:Nat) (r:Rd):Rw×Bool×Bool:=cN i (s.drop (lnA s r)) (lnA s r) ⟨r.ch,r.q,lnF r,false,r.out,0⟩
def lnX (s:List UInt8) (i:Nat) (r:Rd):Rw:=if(lnP s i r).2.1=true then(lnP s i r).1 else { jg (lnP s i r).1 with q:=0 }
def ew (s:List UInt8) (i:Nat) (r:Rd):List Int :=
 [if r.go=true then bgE s r.q else 0,if(lnP s i r).2.2=true then 7 else 0,if r.go=true∧39<r.f+1 then 8 else 0,if(lnP s i r).2.1=false∧(lnP s i r).1.q≠0 then 21 else 0,(lnX s i r).e]
def lnY (s:List UInt8) (i:Nat) (r:Rd):Rd:=⟨(lnX s i r).ch,(lnX s i r).q,(lnP s i r).2.1,(lnX s i r).f,(lnP s i r).1.st,r.kd++ [if(lnP s i r).1.st=true then 1 else 2],(lnX s i r).out⟩
def lnR (s:List UInt8) (i:Nat) (r:Rd):Except (Nat×Int) Rd :=
 if skp s r.q=true then .ok { r with kd:=r.kd++ [0] } else if dG (ew s i r)≠0 then .error (i,dG (ew s i r)) else .ok (lnY s i r)
def rdR:List (List UInt8)→Nat→Rd→Except (Nat×Int) Rd
 | [],_,x=> .ok x
 | s::l,i,x=>match lnR s i x with
  | .error e=> .error e
  | .ok y=>rdR l (i+1) y
def rd0:Rd:=⟨[],0,false,0,false,[],[]⟩
def FRd (ls:List (List UInt8)):Except (Nat×Int) (List Int×List ST):=match rdR ls 0 rd0 with
 | .error e=> .error e
 | .ok x=>if x.go=true then .error (ls.length-1,39) else .ok (x.kd,x.out)
structure RdI (x:Rd) (i:Nat):Prop where
 ch:x.ch.length≤1000*i
 out:x.out.length≤1001*i
 kd:x.kd.length≤i
 f:x.f≤39
theorem bgA_le (s:List UInt8):bgA s≤s.length:=by
 have hle:(ltr s).length≤s.length:=gq _ _
 unfold bgA
 split
 ·rename_i h
  unfold bgM at h
  rw[Bool.and_eq_true,decide_eq_true_eq] at h
  have:(ltr s).length≠0:=fun q=>h.1 (List.eq_nil_of_length_eq_zero q)
  omega
 ·omega
theorem qP (s:List UInt8) (r:Rd):lnA s r≤s.length:=by
 unfold lnA
 split
 ·exact bgA_le s
 ·omega
theorem skp_f (s:List UInt8) (q:UInt8):(if(((q.toNat:Int)==((0:UInt8).toNat:Int))=true) then Option.bind (if decide (ltr s= [])=true then some true else(if 0≤(0:Int)∧(0:Int)<((ltr s).length:Int) then some (((gt (ltr s) (0:Int)).toNat:Int)==((33:UInt8).toNat:Int)) else none)) fun z14=>some z14 else some false)=some (skp s q):=by
 rw[nxt_f,f4]
 unfold skp
 by_cases h:q=0
 ·rw[decide_eq_true h]; rfl
 ·rw[decide_eq_false h]; rfl
theorem gu: ∀l:List Int,dG l=0↔ ∀e∈l,e=0
 | []=>by simp[dG]
 | a::l=>by
  unfold dG
  by_cases h:a=0
  ·rw[if_neg (fun k=>k h),gu l]; simp[h]
  ·rw[if_pos h]; simp[h]
theorem nO {s:List UInt8} {i:Nat} {r:Rd} (hp:RwI (lnP s i r).1 i s.length):RwI (lnX s i r) i (s.length+1):=by
 unfold lnX
 split
 ·exact⟨by have:=hp.ch; omega,by have:=hp.out; omega,hp.f⟩
 ·have:=lN hp
  exact⟨this.ch,this.out,this.f⟩
theorem line_f {ls:List (List UInt8)} {i:Nat} (hi:i<ls.length) (hi':i<1000) (hs:(ls.getD i default).length<999) (h32:(ls.getD i default).all (shw 32)=true) {r:Rd} (h:RdI r i) :
  (skp (ls.getD i default) r.q=false→RwI (lnP (ls.getD i default) i r).1 i (ls.getD i default).length) ∧
  g_j.f ls r.kd r.out r.ch r.q r.go (r.f:Int) r.st 0 0 0 0 0 (i:Int)=some (
   if skp (ls.getD i default) r.q=true then(r.ch,r.q,r.go,(r.f:Int),r.st,0,0,0,0,0,r.kd++ [0],r.out)
   else((lnX (ls.getD i default) i r).ch,(lnX (ls.getD i default) i r).q,(lnP (ls.getD i default) i r).2.1,((lnX (ls.getD i default) i r).f:Int),(lnP (ls.getD i default) i r).1.st,
    (if r.go=true then bgE (ls.getD i default) r.q else 0),(if(lnP (ls.getD i default) i r).2.2=true then 7 else 0),(if r.go=true∧39<r.f+1 then 8 else 0),(if(lnP (ls.getD i default) i r).2.1=false∧(lnP (ls.getD i default) i r).1.q≠0 then 21 else 0),(lnX (ls.getD i default) i r).e,
    r.kd++ [if(lnP (ls.getD i default) i r).1.st=true then 1 else 2],(lnX (ls.getD i default) i r).out)):=by
 have h1:=h.ch
 have h2:=h.out
 have h3:=h.kd
 have h4:=h.f
 have hA:=qP (ls.getD i default) r
 have hI:RwI (⟨r.ch,r.q,lnF r,false,r.out,0⟩:Rw) i (lnA (ls.getD i default) r):=⟨by simp only; omega,by simp only; omega,by simp only; unfold lnF; split<;>omega⟩
 obtain⟨a',i1,i2⟩:=jM hi hi' (by omega) (if r.go=true then bgE (ls.getD i default) r.q else 0) (if r.go=true∧39<r.f+1 then 8 else 0) 0 ((ls.getD i default).length-lnA (ls.getD i default) r) (lnA (ls.getD i default) r) ⟨r.ch,r.q,lnF r,false,r.out,0⟩ (by omega) hI
 refine⟨fun _=>i2,?_⟩
 have hP:cN i ((ls.getD i default).drop (lnA (ls.getD i default) r)) (lnA (ls.getD i default) r) ⟨r.ch,r.q,lnF r,false,r.out,0⟩=lnP (ls.getD i default) i r:=rfl
 rw[hP] at i1 i2
 have hsk:=skp_f (ls.getD i default) r.q
 unfold g_j.f
 rw[if_pos ⟨by omega,by omega⟩,aQ,iU,Option.bind_some]
 rw[hsk,Option.bind_some]
 cases hk:skp (ls.getD i default) r.q
 ·rw[if_neg (c:=false=true) (by decide),if_neg (c:=false=true) (by decide),begin_f h32 (by omega)]
  have hg:(if r.go=true then Option.bind (some ((bgA (ls.getD i default):Int),bgE (ls.getD i default) r.q,(0:Int),(0:Int),(0:Int),(0:Int))) fun y26=>(if(decide ((w64 ((r.f:Int)+1))>39))=true then Option.bind (g_m.f y26.2.1 y26.2.2.1 y26.2.2.2.1 y26.2.2.2.2.1 y26.2.2.2.2.2 2 8) fun y29=>some (y26.1,(w64 ((r.f:Int)+1)),y29.1,y29.2.1,y29.2.2.1,y29.2.2.2.1,y29.2.2.2.2) else some (y26.1,(w64 ((r.f:Int)+1)),y26.2.1,y26.2.2.1,y26.2.2.2.1,y26.2.2.2.2.1,y26.2.2.2.2.2)) else some ((0:Int),(r.f:Int),(0:Int),(0:Int),(0:Int),(0:Int),(0:Int)))=some ((lnA (ls.getD i default) r:Int),(lnF r:Int),(if r.go=true then bgE (ls.getD i default) r.q else 0),(0:Int),(if r.go=true∧39<r.f+1 then(8:Int) else 0),(0:Int),(0:Int)):=by
   unfold lnA lnF
   rw[up1 (by omega)]
   cases r.go
   ·rfl
   ·rw[if_pos (c:=true=true) rfl,Option.bind_some]
    by_cases hf:39<r.f+1
    ·rw[if_pos (c:=decide _=true) (decide_eq_true (by omega)),if_pos (c:=true=true∧_) ⟨rfl,hf⟩,wrong2]; rfl
    ·rw[if_neg (c:=decide _=true) (dn (by omega)),if_neg (c:=true=true∧_) (fun k=>hf k.2)]; rfl
  rw[hg,Option.bind_some]
  show Option.bind (iter (g_j.b0 ls (i:Int)) (f8 (⟨r.ch,r.q,lnF r,false,r.out,0⟩:Rw) (lnA (ls.getD i default) r) false _ 0 _ 0)) _=_
  rw[i1,Option.bind_some]
  have hX:=nO i2
  have hc:=i2.ch
  have ho:=i2.out
  generalize (if r.go=true then bgE (ls.getD i default) r.q else 0)=e0
  generalize (if r.go=true∧39<r.f+1 then(8:Int) else 0)=e2
  unfold f8 lnX
  simp only
  generalize lnP (ls.getD i default) i r=P at *
  obtain⟨x,g,e⟩:=P
  simp only at *
  have hz: ∀{β:Type} (f:Int→Option β),Option.bind (if x.st=true then some (1:Int) else some 2) f=f (if x.st=true then 1 else 2):=by
   intro β f
   cases x.st<;>rfl
  cases g
  ·rw[iR,wrong3,mI (by omega) (by omega),Option.bind_some,Option.bind_some,mI (by omega) (by omega),Option.bind_some]
   by_cases hq:x.q=0
   ·rw[decide_eq_true hq]
    simp only[Bool.not_true,Bool.not_false,Bool.false_eq_true,if_false,if_true,Option.bind_some]
    rw[hz,if_pos (by simp; omega),hq]
    rfl
   ·rw[decide_eq_false hq]
    simp only[Bool.not_true,Bool.not_false,Bool.false_eq_true,if_false,if_true,Option.bind_some]
    rw[hz,if_pos (by simp; omega),if_pos (c:=(True∧_)) ⟨trivial,hq⟩]
    rfl
  ·simp only[Bool.not_true,Bool.not_false,Bool.false_eq_true,if_false,if_true,Option.bind_some]
   rw[hz,if_pos (by simp; omega)]
   rfl
 ·rw[if_pos rfl,if_pos rfl,if_pos (by simp; omega)]
end Go.Proofs.YtjcbhbncncbdjaaGreatDoorAi
namespace Go.Proofs.YtjcbhbncncbdjaaGreatDoorAi
open Go Go.RowKit
set_option linter.unusedVariables false
set_option linter.unusedSimpArgs false
structure Sh (ls:List (List UInt8)):Prop where
 l:ls.length≤400
 e: ∀s∈ls,s.length≤132∧s.all (shw 32)=true
theorem Sh.at {ls:List (List UInt8)} (h:Sh ls) {k:Nat} (hk:k<ls.length):(ls.getD k default).length≤132∧(ls.getD k default).all (shw 32)=true:=by
 rw[List.getD_eq_getElem?_getD,List.getElem?_eq_getElem hk]
 exact h.e _ (List.getElem_mem hk)
theorem Sh.few {n:List UInt8} {ls:List (List UInt8)} (h:Sh ls) (hn:n.length<1000):Few n ls:=⟨hn,by have:=h.l; omega,fun s hs=>by have:=(h.e s hs).1; omega⟩
abbrev RdT:Type:=Int×List Mk1×UInt8×Bool×Int×Bool×Int×Int×Int×Int×Int×List Int×List ST
def lP (x:Rd) (i:Nat):RdT:=((i:Int),x.ch,x.q,x.go,(x.f:Int),x.st,0,0,0,0,0,x.kd,x.out)
theorem lnR_inv {s:List UInt8} {i:Nat} {x y:Rd} (h:RdI x i) (hs:s.length<999) (hp:skp s x.q=false→RwI (lnP s i x).1 i s.length) (hy:lnR s i x= .ok y):RdI y (i+1):=by
 obtain⟨h1,h2,h3,h4⟩:=h
 unfold lnR at hy
 cases hk:skp s x.q
 ·rw[hk,if_neg (by decide)] at hy
  have hX:=nO (hp hk)
  split at hy
  ·cases hy
  ·rename_i he
   obtain rfl:=Except.ok.inj hy
   have hz:dG (ew s i x)=0:=by apply Decidable.byContradiction; exact fun q=>he q
   have h9:=(gu _).1 hz
   have hf:(if x.go=true∧39<x.f+1 then(8:Int) else 0)=0:=h9 _ (by unfold ew; simp)
   refine⟨by unfold lnY; have:=hX.ch; simp only; omega,by unfold lnY; have:=hX.out; simp only; omega,by unfold lnY; simp; omega,?_⟩
   have hff:lnF x≤39:=by
    unfold lnF
    split
    ·rename_i hg
     apply Decidable.byContradiction
     intro q
     rw[if_pos ⟨hg,by omega⟩] at hf
     exact absurd hf (by decide)
    ·exact h4
   unfold lnY lnX
   simp only
   have hfp: ∀(t:List UInt8) (a:Nat) (w:Rw),w.f≤39→(cN i t a w).1.f≤39:=by
    intro t
    induction t with
    | nil=>intro a w hw; exact hw
    | cons c r ih =>
     intro a w hw
     unfold cN
     split
     ·split
      ·exact hw
      ·exact ih _ _ hw
     ·split
      ·exact hw
      ·split
       ·exact ih _ _ (Nat.zero_le _)
       ·split
        ·split
         ·exact hw
         ·exact hw
        ·exact ih _ _ hw
   split
   ·exact hfp _ _ _ hff
   ·exact Nat.zero_le _
 ·rw[hk,if_pos rfl] at hy
  obtain rfl:=Except.ok.inj hy
  exact⟨by simp only; omega,by simp only; omega,by simp; omega,h4⟩
theorem rd_step {ls:List (List UInt8)} (hS:Sh ls) {i:Nat} (hi:i<ls.length) {x:Rd} (h:RdI x i) :
  ∃r,g_l.b0 ls (lP x i)=some r∧match lnR (ls.getD i default) i x with | .ok y=>r= .inl (lP y (i+1))∧RdI y (i+1) | .error e=> ∃g,r= .inr (.inr ((e.1:Int),e.2,g))∧e.2≠0:=by
 obtain⟨hs1,hs2⟩:=hS.at hi
 have hl:=hS.l
 obtain⟨hp,hf⟩:=line_f hi (by omega) (by omega) hs2 h
 have hinv:=fun y (hy:lnR (ls.getD i default) i x= .ok y)=>lnR_inv h (by omega) hp hy
 unfold g_l.b0 lP
 simp only
 rw[if_pos (decide_eq_true (by omega)),hf,Option.bind_some,up1 (by omega)]
 unfold lnR at hinv ⊢
 cases hk:skp (ls.getD i default) x.q
 ·rw[hk,if_neg (by decide)] at hinv
  rw[if_neg (c:=false=true) (by decide),if_neg (c:=false=true) (by decide),dB (by show 5<1000; decide),Option.bind_some]
  have e0:dG ([(if x.go=true then bgE (ls.getD i default) x.q else 0),(if(lnP (ls.getD i default) i x).2.2=true then 7 else 0),(if x.go=true∧39<x.f+1 then 8 else 0),(if(lnP (ls.getD i default) i x).2.1=false∧(lnP (ls.getD i default) i x).1.q≠0 then 21 else 0),(lnX (ls.getD i default) i x).e]:List Int)=dG (ew (ls.getD i default) i x):=rfl
  rw[e0]
  by_cases hz:dG (ew (ls.getD i default) i x)=0
  ·rw[if_neg (c:=dG _≠0) (fun q=>q hz)] at hinv
   rw[if_neg (by rw[hz]; decide),if_neg (c:=dG _≠0) (fun q=>q hz)]
   have h9:=(gu _).1 hz
   have g0:=h9 (if x.go=true then bgE (ls.getD i default) x.q else 0) (by unfold ew; simp)
   have g1:=h9 (if(lnP (ls.getD i default) i x).2.2=true then 7 else 0) (by unfold ew; simp)
   have g2:=h9 (if x.go=true∧39<x.f+1 then 8 else 0) (by unfold ew; simp)
   have g3:=h9 (if(lnP (ls.getD i default) i x).2.1=false∧(lnP (ls.getD i default) i x).1.q≠0 then 21 else 0) (by unfold ew; simp)
   have g4:=h9 (lnX (ls.getD i default) i x).e (by unfold ew; simp)
   rw[g0,g1,g2,g3,g4]
   exact⟨_,rfl,rfl,hinv _ rfl⟩
  ·rw[if_pos (by simpa using hz),if_pos hz]
   exact⟨_,rfl,_,rfl,hz⟩
 ·rw[hk,if_pos rfl] at hinv
  rw[if_pos rfl,if_pos rfl,dB (by show 5<1000; decide),Option.bind_some]
  exact⟨_,rfl,rfl,hinv _ rfl⟩
theorem nP {ls:List (List UInt8)} (hS:Sh ls): ∀(d i:Nat) (x:Rd),i+d=ls.length→RdI x i →
  ∃r,iter (g_l.b0 ls) (lP x i)=some r∧match rdR (ls.drop i) i x with | .ok y=>r= .inl (lP y ls.length) | .error e=> ∃g,r= .inr ((e.1:Int),e.2,g)∧e.2≠0
 | 0,i,x,h,hI=>by
  obtain rfl:i=ls.length:=by omega
  refine⟨.inl (lP x ls.length),aj ?_,?_⟩
  ·unfold g_l.b0 lP
   simp only
   rw[if_neg (dn (by omega))]
  ·rw[List.drop_length]
   rfl
 | d+1,i,x,h,hI=>by
  obtain⟨r,r1,r2⟩:=rd_step hS (i:=i) (by omega) hI
  rw[aF (show i<ls.length by omega)]
  unfold rdR
  cases hx:lnR (ls.getD i default) i x with
  | error e =>
   rw[hx] at r2
   obtain⟨g,rfl,hg⟩:=r2
   exact⟨_,aj r1,g,rfl,hg⟩
  | ok y =>
   rw[hx] at r2
   obtain⟨rfl,hy⟩:=r2
   obtain⟨r',q1,q2⟩:=nP hS d (i+1) y (by omega) hy
   exact⟨r',by rw[az r1]; exact q1,q2⟩
theorem mK {ls:List (List UInt8)} (hS:Sh ls): ∃r,g_l.f ls [] [] [] 0 false 0 false 0 0 0 0 0=some r∧match FRd ls with | .error e=>r.1=(e.1:Int)∧r.2.1=e.2∧e.2≠0 | .ok y=>r.2.1=0∧r.2.2.2.2.2.2.2.2.2.2.2.2.1=y.1∧r.2.2.2.2.2.2.2.2.2.2.2.2.2=y.2:=by
 obtain⟨r,r1,r2⟩:=nP hS ls.length 0 rd0 (by omega) ⟨by decide,by decide,by decide,by decide⟩
 have hl:=hS.l
 have r1':iter (g_l.b0 ls) (0,[],0,false,0,false,0,0,0,0,0,[],[])=some r:=r1
 unfold g_l.f
 rw[r1',Option.bind_some]
 rw[List.drop_zero] at r2
 cases hx:rdR ls 0 rd0 with
 | error e =>
  rw[hx] at r2
  obtain⟨g,rfl,hg⟩:=r2
  have eF:FRd ls= .error e:=by unfold FRd; rw[hx]
  rw[eF]
  exact⟨_,rfl,rfl,rfl,hg⟩
 | ok x =>
  rw[hx] at r2
  have r2:r= .inl (lP x ls.length):=r2
  subst r2
  have eF:FRd ls=if x.go=true then .error (ls.length-1,39) else .ok (x.kd,x.out):=by unfold FRd; rw[hx]
  rw[eF]
  show ∃r,(if x.go=true then _ else _)=some r∧_
  cases hg:x.go
  ·rw[if_neg (by decide),if_neg (by decide)]
   exact⟨_,rfl,rfl,rfl,rfl⟩
  ·rw[if_pos rfl,if_pos rfl]
   have hne:0<ls.length:=by
    cases ls with
    | nil =>
     have:x=rd0:=(Except.ok.inj hx).symm
     rw[this] at hg
     cases hg
    | cons=>simp
   exact⟨_,rfl,by show w64 ((ls.length:Int)-1)=((ls.length-1:Nat):Int); rw[dm (by omega) (by omega)]; omega,rfl,by show(39:Int)≠0; decide⟩
def RD (n:List UInt8) (free:Bool) (ls:List (List UInt8)):Except (Int×Int) (List Int×List ST) :=
 if(ckT n free ls).2≠0 then .error (ckT n free ls)
 else match (if free=true then FRd ls else FX ls) with | .error e=> .error ((e.1:Int),e.2) | .ok y=> .ok y
theorem nQ (m:Nat): ∀(ls:List (List UInt8)) (i:Nat),(ckL m ls i).2=0→ ∀s∈ls,s.length≤m∧s.all (shw 32)=true
 | [],i,h,s,hs=>by cases hs
 | t::r,i,h,s,hs=>by
  unfold ckL at h
  split at h
  ·rename_i hne
   exact absurd h hne
  ·rename_i he
   have he:lnE m t=0:=by apply Decidable.byContradiction; exact fun q=>he q
   rcases List.mem_cons.1 hs with rfl | h2
   ·unfold lnE at he
    split at he
    ·exact absurd he (by decide)
    ·rename_i hm
     refine⟨by omega,?_⟩
     apply Decidable.byContradiction
     intro q
     rw[if_neg q] at he
     exact absurd he (by decide)
   ·exact nQ m r _ h s h2
theorem ckT_sh {n:List UInt8} {free:Bool} {ls:List (List UInt8)} (h:(ckT n free ls).2=0):Sh ls:=by
 unfold ckT at h
 split at h
 ·exact absurd h (by decide)
 ·split at h
  ·exact absurd h (by decide)
  ·refine⟨by omega,fun s hs=>?_⟩
   obtain⟨h1,h2⟩:=nQ _ _ _ h s hs
   refine⟨?_,h2⟩
   unfold wd at h1
   split at h1<;>omega
theorem mL {n:List UInt8} {free:Bool} {ls:List (List UInt8)} (h:Few n ls):g_z.f n free ls=some (match RD n free ls with | .error e=>(none,e.1,e.2) | .ok y=>(some (ls,y.1,y.2),0,0))∧ ∀e,RD n free ls= .error e→e.2≠0:=by
 unfold g_z.f RD
 rw[lG h,Option.bind_some]
 by_cases hz:(ckT n free ls).2=0
 ·have hS:=ckT_sh hz
  rw[if_neg (by rw[hz]; decide),if_neg (c:=(ckT n free ls).2≠0) (fun q=>q hz)]
  cases free
  ·obtain⟨r,r1,r2⟩:=lK (hS.few h.n)
   simp only[if_neg (c:=false=true) (by decide)]
   rw[r1,Option.bind_some,Option.bind_some]
   cases hx:FX ls with
   | error e =>
    rw[hx] at r2
    obtain⟨q1,q2,q3⟩:=r2
    rw[q1,q2,if_pos (by simpa using q3)]
    exact⟨rfl,fun e' he=>by obtain rfl:=Except.error.inj he; exact q3⟩
   | ok y =>
    rw[hx] at r2
    obtain⟨q1,q2,q3⟩:=r2
    rw[q1,q2,q3,if_neg (by decide)]
    exact⟨rfl,fun e' he=>by cases he⟩
  ·obtain⟨r,r1,r2⟩:=mK hS
   simp only[eq_self,if_true]
   rw[r1,Option.bind_some,Option.bind_some]
   cases hx:FRd ls with
   | error e =>
    rw[hx] at r2
    obtain⟨q1,q2,q3⟩:=r2
    rw[q1,q2,if_pos (by simpa using q3)]
    exact⟨rfl,fun e' he=>by obtain rfl:=Except.error.inj he; exact q3⟩
   | ok y =>
    rw[hx] at r2
    obtain⟨q1,q2,q3⟩:=r2
    rw[q1,q2,q3,if_neg (by decide)]
    exact⟨rfl,fun e' he=>by cases he⟩
 ·rw[if_pos (by simpa using hz),if_pos hz]
  exact⟨rfl,fun e' he=>by obtain rfl:=Except.error.inj he; exact hz⟩
theorem iX {n:List UInt8} {free:Bool} {ls:List (List UInt8)} (h:Few n ls):g_8.f n free ls=some (match RD n free ls with | .error e=>([],e.1,e.2) | .ok y=>(y.2,0,0)):=by
 obtain⟨h1,h2⟩:=mL (free:=free) h
 unfold g_8.f
 rw[h1,Option.bind_some]
 cases hx:RD n free ls with
 | error e =>
  have:=h2 e hx
  show(if(e.2 != 0)=true then _ else _)=_
  rw[if_pos (by simpa using this)]
 | ok y=>rfl
theorem oI {n:List UInt8} {free:Bool} {ls:List (List UInt8)} (h:Few n ls):g_7.f n free ls=some (match RD n free ls with | .error e=>([],e.1,e.2) | .ok y=>(y.1,0,0)):=by
 obtain⟨h1,h2⟩:=mL (free:=free) h
 unfold g_7.f
 rw[h1,Option.bind_some]
 cases hx:RD n free ls with
 | error e =>
  have:=h2 e hx
  show(if(e.2 != 0)=true then _ else _)=_
  rw[if_pos (by simpa using this)]
 | ok y=>rfl
end Go.Proofs.YtjcbhbncncbdjaaGreatDoorAi
namespace Go.Proofs.YtjcbhbncncbdjaaGreatDoorAi
open Go Go.RowKit
set_option linter.unusedVariables false
set_option linter.unusedSimpArgs false
def ltP (a b:Int×Int):Prop:=a.1<b.1∨a.1=b.1∧a.2<b.2
def ltM (a b:Mk1):Prop:=ltP a.2.2 b.2.2
def Gm (ls:List (List UInt8)) (kd:List Int) (i a:Nat) (m:Mk1):Prop :=
 m.2.1=0∧ ∃j b:Nat,m.2.2.1=(j:Int)∧m.2.2.2=((b+1:Nat):Int)∧m.1=(ls.getD j default).getD b 32∧(j<i∧kd.getD j 0≠0∨j=i∧b<a)
def fl (L:List (Int×List Mk1)):List Mk1:=(L.map (·.2)).flatten
structure PI (ls:List (List UInt8)) (kd:List Int) (i a:Nat) (out:List ST) (ch:List Mk1):Prop where
 k:kd.length=i
 e: ∃L:List (Int×List Mk1),out=L.map (fun p=>dp p.1 p.2)∧(∀p∈L,p.2≠ []∧0≤p.1∧p.1≤99999)∧(fl L++ch).Pairwise ltM∧(∀m∈fl L++ch,Gm ls kd i a m)∧(fl L++ch).length≤1000*i+a
theorem PI.sub {ls kd i a out ch ch'} (h:PI ls kd i a out ch) (hs:List.Sublist ch' ch):PI ls kd i a out ch':=by
 obtain⟨hk,L,h1,h2,h3,h4,h5⟩:=h
 have hs':List.Sublist (fl L++ch') (fl L++ch):=List.Sublist.append (List.Sublist.refl _) hs
 exact⟨hk,L,h1,h2,h3.sublist hs',fun m hm=>h4 m (hs'.subset hm),Nat.le_trans hs'.length_le h5⟩
theorem PI.up {ls kd i a a' out ch} (h:PI ls kd i a out ch) (ha:a≤a'):PI ls kd i a' out ch:=by
 obtain⟨hk,L,h1,h2,h3,h4,h5⟩:=h
 refine⟨hk,L,h1,h2,h3,fun m hm=>?_,by omega⟩
 obtain⟨q0,j,b,q1,q2,q3,q4⟩:=h4 m hm
 exact⟨q0,j,b,q1,q2,q3,q4.imp id fun q=>⟨q.1,by omega⟩⟩
theorem PI.put {ls kd i a out ch} (h:PI ls kd i a out ch):PI ls kd i (a+1) out (ch++ [((ls.getD i default).getD a 32,0,(i:Int),((a+1:Nat):Int))]):=by
 obtain⟨hk,L,h1,h2,h3,h4,h5⟩:=h
 refine⟨hk,L,h1,h2,?_,fun m hm=>?_,by rw[← List.append_assoc,List.length_append]; show _+1≤_; omega⟩
 ·rw[← List.append_assoc,List.pairwise_append]
  refine⟨h3,List.pairwise_singleton _ _,fun m hm m' hm'=>?_⟩
  obtain rfl:=List.mem_singleton.1 hm'
  obtain⟨q0,j,b,q1,q2,q3,q4⟩:=h4 m hm
  unfold ltM ltP
  rw[q1,q2]
  rcases q4 with q | q
  ·exact .inl (by show(j:Int)<(i:Int); omega)
  ·exact .inr ⟨by show(j:Int)=(i:Int); omega,by show((b+1:Nat):Int)<((a+1:Nat):Int); omega⟩
 ·rw[← List.append_assoc] at hm
  rcases List.mem_append.1 hm with hm | hm
  ·obtain⟨q0,j,b,q1,q2,q3,q4⟩:=h4 m hm
   exact⟨q0,j,b,q1,q2,q3,q4.imp id fun q=>⟨q.1,by omega⟩⟩
  ·obtain rfl:=List.mem_singleton.1 hm
   exact⟨rfl,i,a,rfl,rfl,rfl,.inr ⟨rfl,by omega⟩⟩
theorem PI.fin {ls kd i a out ch} (h:PI ls kd i a out ch) {n:Int} (h0:0≤n) (h1:n≤99999) {l:List Mk1} (hl:l≠ []) (hs:List.Sublist l ch):PI ls kd i a (out++ [dp n l]) []:=by
 obtain⟨hk,L,g1,g2,g3,g4,g5⟩:=h.sub hs
 refine⟨hk,L++ [(n,l)],by rw[g1,List.map_append]; rfl,fun p hp=>?_,?_,?_,?_⟩
 ·rcases List.mem_append.1 hp with hp | hp
  ·exact g2 p hp
  ·obtain rfl:=List.mem_singleton.1 hp
   exact⟨hl,h0,h1⟩
 ·have:fl (L++ [(n,l)])++ []=fl L++l:=by unfold fl; simp
  rw[this]; exact g3
 ·have:fl (L++ [(n,l)])++ []=fl L++l:=by unfold fl; simp
  rw[this]; exact g4
 ·have:fl (L++ [(n,l)])++ []=fl L++l:=by unfold fl; simp
  rw[this]; exact g5
theorem gd_l {α:Type} {l m:List α} {d:α} {j:Nat} (h:j<l.length):(l++m).getD j d=l.getD j d:=by
 rw[List.getD_eq_getElem?_getD,List.getElem?_append_left h,← List.getD_eq_getElem?_getD]
theorem gd_r {α:Type} {l m:List α} {d:α} {j:Nat} (h:l.length≤j):(l++m).getD j d=m.getD (j-l.length) d:=by
 rw[List.getD_eq_getElem?_getD,List.getElem?_append_right h,← List.getD_eq_getElem?_getD]
theorem PI.line {ls kd i a out ch} (h:PI ls kd i a out ch) {k:Int} (hk:k≠0) (ha:a≤1000):PI ls (kd++ [k]) (i+1) 0 out ch:=by
 obtain⟨hkd,L,h1,h2,h3,h4,h5⟩:=h
 refine⟨by simp[hkd],L,h1,h2,h3,fun m hm=>?_,by omega⟩
 obtain⟨q0,j,b,q1,q2,q3,q4⟩:=h4 m hm
 refine⟨q0,j,b,q1,q2,q3,.inl ?_⟩
 rcases q4 with q | q
 ·refine⟨by omega,?_⟩
  rw[gd_l (by omega)]; exact q.2
 ·refine⟨by omega,?_⟩
  rw[q.1,← hkd,gd_r (Nat.le_refl _),Nat.sub_self]; exact hk
theorem PI.skip {ls kd i out ch} (h:PI ls kd i 0 out ch) (k:Int):PI ls (kd++ [k]) (i+1) 0 out ch:=by
 obtain⟨hkd,L,h1,h2,h3,h4,h5⟩:=h
 refine⟨by simp[hkd],L,h1,h2,h3,fun m hm=>?_,by omega⟩
 obtain⟨q0,j,b,q1,q2,q3,q4⟩:=h4 m hm
 refine⟨q0,j,b,q1,q2,q3,.inl ?_⟩
 rcases q4 with q | q
 ·refine⟨by omega,?_⟩
  rw[gd_l (by omega)]; exact q.2
 ·exact absurd q.2 (by omega)
theorem PI.cols {ls kd i out ch} (h:PI ls kd i 0 out ch):PI ls kd i 72 out (ch++cols (ls.getD i default) i):=by
 have key: ∀n,PI ls kd i (6+n) out (ch++(List.range n).map fun j=>((ls.getD i default).getD (6+j) 32,(0:Int),(i:Int),((7+j:Nat):Int))):=by
  intro n
  induction n with
  | zero=>simpa using h.up (Nat.zero_le 6)
  | succ n ih =>
   rw[List.range_succ,List.map_append,← List.append_assoc]
   have:=ih.put
   rw[show 6+n+1=7+n by omega] at this
   rw[show 6+(n+1)=7+n by omega]
   exact this
 exact key 66
theorem qQ (l:List Mk1):List.Sublist (lf l) l:=List.dropWhile_sublist _
theorem qR (l:List Mk1):List.Sublist (rt l) l:=by rw[rt_take]; exact List.take_sublist _ _
theorem mM (s:List UInt8): ∀(d k:Nat) (v:Int) (g:Nat) (r:Int×Nat),0≤v→v<10 ^ k→lbK s d k v g=some r→0≤r.1∧r.1<10 ^ (k+d)
 | 0,k,v,g,r,h0,h1,h=>by
  unfold lbK at h
  obtain rfl:=Option.some.inj h
  exact⟨h0,h1⟩
 | d+1,k,v,g,r,h0,h1,h=>by
  unfold lbK at h
  rw[show k+(d+1)=(k+1)+d by omega]
  split at h
  ·rename_i hd
   obtain⟨_,d1,d2⟩:=lI hd
   exact mM s d (k+1) _ _ r (by omega) (by rw[Int.pow_succ]; omega) h
  ·split at h
   ·exact mM s d (k+1) _ _ r h0 (by rw[Int.pow_succ]; omega) h
   ·cases h
theorem lab_le (s:List UInt8):0≤(lab s).1∧(lab s).1≤99999:=by
 unfold lab
 split
 ·exact⟨by decide,by decide⟩
 ·rename_i v g h
  obtain⟨h1,h2⟩:=mM s 5 0 0 0 _ (by decide) (by decide) h
  refine⟨h1,?_⟩
  have:(10:Int) ^ (0+5)=100000:=by decide
  rw[this] at h2
  show v≤99999
  have h2:v<100000:=h2
  omega
structure PF (ls:List (List UInt8)) (i:Nat) (x:Fz):Prop where
 p:PI ls x.kd i 0 x.out (if x.o=true then x.ch else [])
 l:0≤x.lb∧x.lb≤99999
theorem qS {ls kd i x o} (h:PI ls kd i 0 x.out (if x.o=true then x.ch else [])) (hl:0≤x.lb∧x.lb≤99999) (ho:fxE x=some o):PI ls kd i 0 o []:=by
 unfold fxE at ho
 split at ho
 ·rename_i hx
  obtain rfl:=Option.some.inj ho
  rw[hx] at h; exact h
 ·rename_i hx
  have hx:x.o=true:=by simpa using hx
  rw[hx,if_pos rfl] at h
  split at ho
  ·cases ho
  ·rename_i hr
   obtain rfl:=Option.some.inj ho
   exact h.fin hl.1 hl.2 hr (qR _)
theorem fxL_pi {ls:List (List UInt8)} {i:Nat} {x y:Fz} (h:PF ls i x) (hy:fxL (ls.getD i default) i x= .ok y):PF ls (i+1) y:=by
 obtain⟨h1,h2⟩:=h
 unfold fxL at hy
 split at hy
 ·obtain rfl:=Except.ok.inj hy
  exact⟨h1.skip 0,h2⟩
 ·split at hy
  ·split at hy
   ·cases hy
   ·rename_i hg
    obtain rfl:=Except.ok.inj hy
    have ho:x.o=true:=by
     cases hx:x.o
     ·exact absurd (by unfold goE; rw[hx,if_pos rfl]; decide) hg
     ·rfl
    rw[ho,if_pos rfl] at h1
    refine⟨?_,h2⟩
    simp only[ho,if_true]
    exact h1.cols.line (by decide) (by decide)
  ·split at hy
   ·cases hy
   ·rename_i o ho
    split at hy
    ·cases hy
    ·obtain rfl:=Except.ok.inj hy
     refine⟨?_,lab_le _⟩
     simp only[if_true]
     have:=(qS h1 h2 ho).cols.line (k:=1) (by decide) (by decide)
     simpa using this
theorem qT {ls:List (List UInt8)}: ∀(d i:Nat) (x y:Fz),i+d=ls.length→PF ls i x→fxR (ls.drop i) i x= .ok y→PF ls ls.length y
 | 0,i,x,y,h,hP,hy=>by
  obtain rfl:i=ls.length:=by omega
  rw[List.drop_length] at hy
  obtain rfl:=Except.ok.inj hy
  exact hP
 | d+1,i,x,y,h,hP,hy=>by
  rw[aF (show i<ls.length by omega)] at hy
  unfold fxR at hy
  cases hx:fxL (ls.getD i default) i x with
  | error e=>rw[hx] at hy; cases hy
  | ok z =>
   rw[hx] at hy
   exact qT d (i+1) z y (by omega) (fxL_pi hP hx) hy
theorem FX_pi {ls:List (List UInt8)} {y:List Int×List ST} (h:FX ls= .ok y):PI ls y.1 ls.length 0 y.2 []:=by
 unfold FX at h
 cases hx:fxR ls 0 fx0 with
 | error e=>rw[hx] at h; cases h
 | ok x =>
  rw[hx] at h
  have hP:=qT (ls:=ls) ls.length 0 fx0 x (by omega) ⟨⟨rfl,[],rfl,(fun p hp=>by cases hp),List.Pairwise.nil,(fun m hm=>by cases hm),by decide⟩,by decide⟩ (by rw[List.drop_zero]; exact hx)
  simp only at h
  cases ho:fxE x with
  | none=>rw[ho] at h; cases h
  | some o =>
   rw[ho] at h
   obtain rfl:=Except.ok.inj h
   exact qS hP.p hP.l ho
theorem qU: ∀(l:List Mk1) (k:Nat) (v:Int),0≤v→v<10 ^ k→(∀j,j<l.length→eP (l.getD j default).1=true)→0≤vlD l v∧vlD l v<10 ^ (k+l.length)
 | [],k,v,h0,h1,h=>⟨h0,h1⟩
 | m::l,k,v,h0,h1,h=>by
  unfold vlD
  obtain⟨_,d1,d2⟩:=lI (h 0 (by simp))
  have d1:0≤dv m.1:=d1
  have d2:dv m.1≤9:=d2
  have:=qU l (k+1) (10*v+dv m.1) (by omega) (by rw[Int.pow_succ]; omega) (fun j hj=>h (j+1) (by simpa using hj))
  rw[List.length_cons,show k+(l.length+1)=k+1+l.length by omega]
  exact this
theorem qV (ch:List Mk1):0≤(enL ch).1∧(enL ch).1≤99999:=by
 unfold enL
 simp only
 split
 ·rename_i h
  obtain⟨h1,h2,h3,h4⟩:=h
  have hlen:((rt (lf ch)).take (dgs (rt (lf ch)))).length=dgs (rt (lf ch)):=by rw[List.length_take]; omega
  have:=qU ((rt (lf ch)).take (dgs (rt (lf ch)))) 0 0 (by decide) (by decide) (fun j hj=>by
   rw[hlen] at hj
   have:=kI (rt (lf ch)) j hj
   rw[List.getD_eq_getElem?_getD,List.getElem?_take_of_lt hj,← List.getD_eq_getElem?_getD]
   exact this)
  obtain⟨g1,g2⟩:=this
  refine⟨g1,?_⟩
  rw[hlen] at g2
  have hp:(10:Int) ^ (0+dgs (rt (lf ch)))≤10 ^ 5:=by
   have:(10:Nat) ^ (0+dgs (rt (lf ch)))≤10 ^ 5:=Nat.pow_le_pow_right (by decide) (by omega)
   exact_mod_cast this
  have hp':(10:Int) ^ 5=100000:=by decide
  show vlD _ 0≤99999
  omega
 ·exact⟨Int.le_refl _,by show(0:Int)≤99999; decide⟩
theorem enL_sub (ch:List Mk1):List.Sublist (enL ch).2.1 ch:=by
 unfold enL
 simp only
 have h0:List.Sublist (rt (lf ch)) ch:=(qR _).trans (qQ _)
 split
 ·exact(qQ _).trans ((List.drop_sublist _ _).trans h0)
 ·exact h0
theorem nR {ls kd i a} {x:Rw} (h:PI ls kd i a x.out x.ch):PI ls kd i a (jg x).out (jg x).ch:=by
 unfold jg enO
 simp only
 split
 ·exact h.sub (List.nil_sublist _)
 ·rename_i hn
  exact h.fin (qV _).1 (qV _).2 hn (enL_sub _)
theorem nS {ls kd i a} {x:Rw} (h:PI ls kd i a x.out x.ch) (q:UInt8) {c:UInt8} (hc:c=(ls.getD i default).getD a 32):PI ls kd i (a+1) (gr x c i a q).out (gr x c i a q).ch:=by
 subst hc
 unfold gr
 simp only
 split
 ·exact(h.sub (List.nil_sublist _)).put
 ·exact h.put
theorem lQ {ls:List (List UInt8)} {kd:List Int} {i:Nat}: ∀(d a:Nat) (x:Rw),a+d=(ls.getD i default).length→PI ls kd i a x.out x.ch→PI ls kd i (ls.getD i default).length (cN i ((ls.getD i default).drop a) a x).1.out (cN i ((ls.getD i default).drop a) a x).1.ch
 | 0,a,x,h,hP=>by
  rw[List.drop_eq_nil_of_le (by omega)]
  exact hP.up (by omega)
 | d+1,a,x,h,hP=>by
  have hc:(ls.getD i default).getD a default=(ls.getD i default).getD a 32:=kE (by omega)
  rw[aF (show a<(ls.getD i default).length by omega)]
  unfold cN
  have ih:=fun y (hy:PI ls kd i (a+1) y.out y.ch)=>lQ d (a+1) y (by omega) hy
  split
  ·split
   ·exact hP.up (by omega)
   ·exact ih _ (nS hP _ hc)
  ·split
   ·exact hP.up (by omega)
   ·split
    ·exact ih _ ((nR hP).up (by omega))
    ·split
     ·split
      ·exact hP.up (by omega)
      ·exact hP.up (by omega)
     ·exact ih _ (nS hP _ hc)
theorem lnR_pi {ls:List (List UInt8)} {i:Nat} (hl:(ls.getD i default).length≤1000) {x y:Rd} (h:PI ls x.kd i 0 x.out x.ch) (hy:lnR (ls.getD i default) i x= .ok y):PI ls y.kd (i+1) 0 y.out y.ch:=by
 unfold lnR at hy
 split at hy
 ·obtain rfl:=Except.ok.inj hy
  exact h.skip 0
 ·split at hy
  ·cases hy
  ·obtain rfl:=Except.ok.inj hy
   have hA:=qP (ls.getD i default) x
   have hp:=lQ (kd:=x.kd) ((ls.getD i default).length-lnA (ls.getD i default) x) (lnA (ls.getD i default) x) ⟨x.ch,x.q,lnF x,false,x.out,0⟩ (by omega) (h.up (Nat.zero_le _))
   have hX:PI ls x.kd i (ls.getD i default).length (lnX (ls.getD i default) i x).out (lnX (ls.getD i default) i x).ch:=by
    unfold lnX
    split
    ·exact hp
    ·exact nR hp
   exact hX.line (by split<;>decide) hl
theorem qW {ls:List (List UInt8)} (hl: ∀s∈ls,s.length<1000): ∀(d i:Nat) (x y:Rd),i+d=ls.length→PI ls x.kd i 0 x.out x.ch→rdR (ls.drop i) i x= .ok y→PI ls y.kd ls.length 0 y.out y.ch
 | 0,i,x,y,h,hP,hy=>by
  obtain rfl:i=ls.length:=by omega
  rw[List.drop_length] at hy
  obtain rfl:=Except.ok.inj hy
  exact hP
 | d+1,i,x,y,h,hP,hy=>by
  rw[aF (show i<ls.length by omega)] at hy
  unfold rdR at hy
  cases hx:lnR (ls.getD i default) i x with
  | error e=>rw[hx] at hy; cases hy
  | ok z =>
   rw[hx] at hy
   exact qW hl d (i+1) z y (by omega) (lnR_pi (by
    rw[List.getD_eq_getElem?_getD,List.getElem?_eq_getElem (show i<ls.length by omega)]
    exact Nat.le_of_lt (hl _ (List.getElem_mem _))) hP hx) hy
theorem FRd_pi {ls:List (List UInt8)} (hl: ∀s∈ls,s.length<1000) {y:List Int×List ST} (h:FRd ls= .ok y):PI ls y.1 ls.length 0 y.2 []:=by
 unfold FRd at h
 cases hx:rdR ls 0 rd0 with
 | error e=>rw[hx] at h; cases h
 | ok x =>
  rw[hx] at h
  have hP:=qW hl ls.length 0 rd0 x (by omega) ⟨rfl,[],rfl,(fun p hp=>by cases hp),List.Pairwise.nil,(fun m hm=>by cases hm),by decide⟩ (by rw[List.drop_zero]; exact hx)
  simp only at h
  split at h
  ·cases h
  ·obtain rfl:=Except.ok.inj h
   exact hP.sub (List.nil_sublist _)
theorem RD_pi {n:List UInt8} {free:Bool} {ls:List (List UInt8)} (hl: ∀s∈ls,s.length<1000) {y:List Int×List ST} (h:RD n free ls= .ok y):PI ls y.1 ls.length 0 y.2 []:=by
 unfold RD at h
 split at h
 ·cases h
 ·cases free
  ·simp only[if_neg (c:=false=true) (by decide)] at h
   cases hx:FX ls with
   | error e=>rw[hx] at h; cases h
   | ok z =>
    rw[hx] at h
    obtain rfl:=Except.ok.inj h
    exact FX_pi hx
  ·simp only[eq_self,if_true] at h
   cases hx:FRd ls with
   | error e=>rw[hx] at h; cases h
   | ok z =>
    rw[hx] at h
    obtain rfl:=Except.ok.inj h
    exact FRd_pi hl hx
end Go.Proofs.YtjcbhbncncbdjaaGreatDoorAi
namespace Go.Proofs.YtjcbhbncncbdjaaGreatDoorAi
open Go Go.RowKit
set_option linter.unusedVariables false
set_option linter.unusedSimpArgs false
theorem lR {ls:List (List UInt8)} (hl:ls.length<9000000000000000000): ∀(d k:Nat),k+d=ls.length→ ∃r,iter (g_4.b0 ls) (k:Int)=some r∧((∃y,r= .inl y)∧(∀s∈ls.drop k,s.length≤200)∨r= .inr false)
 | 0,k,h=>by
  refine⟨.inl (k:Int),aj (by unfold g_4.b0; rw[if_neg (dn (by omega))]),.inl ⟨⟨_,rfl⟩,?_⟩⟩
  rw[show k=ls.length by omega,List.drop_length]
  intro s hs; cases hs
 | d+1,k,h=>by
  have key:g_4.b0 ls (k:Int)=some (if 200<(ls.getD k default).length then .inr (.inr false) else .inl ((k+1:Nat):Int)):=by
   unfold g_4.b0
   rw[if_pos (decide_eq_true (by omega)),if_pos ⟨by omega,by omega⟩,aQ,up1 (by omega)]
   by_cases h2:200<(ls.getD k default).length
   ·rw[if_pos (decide_eq_true (by omega)),if_pos h2]
   ·rw[if_neg (dn (by omega)),if_neg h2]
  by_cases h2:200<(ls.getD k default).length
  ·rw[if_pos h2] at key
   exact⟨_,aj key,.inr rfl⟩
  ·rw[if_neg h2] at key
   obtain⟨r,r1,r2⟩:=lR hl d (k+1) (by omega)
   refine⟨r,by rw[az key]; exact r1,r2.imp (fun q=>⟨q.1,fun s hs=>?_⟩) id⟩
   rw[aF (show k<ls.length by omega)] at hs
   rcases List.mem_cons.1 hs with rfl | hs
   ·omega
   ·exact q.2 s hs
theorem few_f (n:List UInt8) {ls:List (List UInt8)} (hl:ls.length<9000000000000000000): ∃b,g_4.f n ls=some b∧(b=true→Few n ls∧ls.length≤405):=by
 obtain⟨r,r1,r2⟩:=lR hl ls.length 0 (by omega)
 have r1':iter (g_4.b0 ls) 0=some r:=r1
 unfold g_4.f
 rw[r1',Option.bind_some]
 rcases r2 with⟨⟨y,rfl⟩,hy⟩ | rfl
 ·refine⟨_,rfl,fun hb=>?_⟩
  rw[Bool.and_eq_true,decide_eq_true_eq,decide_eq_true_eq] at hb
  rw[List.drop_zero] at hy
  exact⟨⟨by omega,by omega,fun s hs=>by have:=hy s hs; omega⟩,by omega⟩
 ·exact⟨false,rfl,fun hb=>by cases hb⟩
theorem lS {ls:List (List UInt8)} (h:ls.length<1000000000):g_0.f ls=some ls:=by
 unfold g_0.f
 rw[if_pos ⟨by omega,by omega⟩,if_pos (by simp)]
theorem mN (n:List UInt8) (free:Bool) {ls:List (List UInt8)} (h:ls.length<1000000000):g_5.f n free ls=some (n,free,ls):=by
 unfold g_5.f
 rw[lS h,Option.bind_some]
theorem pl_at (l:List Mk1) (a:Nat):(pl l).getD a default=(l.getD a default).2:=by
 unfold pl
 rw[List.getD_eq_getElem?_getD,List.getElem?_map,List.getD_eq_getElem?_getD]
 cases l[a]? <;> rfl
theorem tx_at (l:List Mk1) (a:Nat):(tx l).getD a default=(l.getD a default).1:=by
 unfold tx
 rw[List.getD_eq_getElem?_getD,List.getElem?_map,List.getD_eq_getElem?_getD]
 cases l[a]? <;> rfl
theorem lT (a b c:Int):g_1.f a b c=some (decide (b≤a)&&decide (a≤c)):=by
 unfold g_1.f
 congr 1
 rw[Bool.eq_iff_iff]
 simp
theorem nT {ls:List (List UInt8)} (hF:ls.length≤405) (hS: ∀s∈ls,s.length<1000) {e:Int×Int} {kd:List Int} {e':Int×Int} {L:List (Int×List Mk1)} {k:Nat} (hk:k<L.length) {n:Int} {l:List Mk1} (hL:L.getD k default=(n,l)) (hkl:kd.length=ls.length) (p:Int×Int×Int×Int)
  (hp:p.1=(k:Int)) (lt:List Mk1) (hll:l.length<1000000000): ∀(d a:Nat) (f pj pc:Int),a+d=l.length→(l.drop a++lt).Pairwise ltM→(∀m∈l.drop a++lt,ltP (pj,pc) m.2.2)→(∀m∈l,Gm ls kd ls.length 0 m) →
  ∃r:Int×Int×Int×Int,iter (g_3.b1 ls (L.map (fun p=>dp p.1 p.2),e) (kd,e') p) ((a:Int),f,pj,pc)=some (.inl r)∧ ∀m∈lt,ltP (r.2.2.1,r.2.2.2) m.2.2
 | 0,a,f,pj,pc,h,hP,hg,hm=>by
  refine⟨((a:Int),f,pj,pc),aj ?_,fun m q=>hg m (List.mem_append_right _ q)⟩
  have eg:gt (L.map (fun p=>dp p.1 p.2)) (k:Int)=dp n l:=by
   rw[aQ,List.getD_eq_getElem?_getD,List.getElem?_map]
   rw[List.getD_eq_getElem?_getD] at hL
   rw[List.getElem?_eq_getElem hk] at hL ⊢
   have hL:L[k]=(n,l):=hL
   rw[hL]; rfl
  unfold g_3.b1
  simp only[hp]
  rw[if_pos ⟨by omega,by rw[List.length_map]; omega⟩,eg]
  unfold dp
  simp only
  rw[if_neg (dn (by rw[kF]; omega))]
 | d+1,a,f,pj,pc,h,hP,hg,hm=>by
  have ha:a<l.length:=by omega
  have eg:gt (L.map (fun p=>dp p.1 p.2)) (k:Int)=dp n l:=by
   rw[aQ,List.getD_eq_getElem?_getD,List.getElem?_map]
   rw[List.getD_eq_getElem?_getD] at hL
   rw[List.getElem?_eq_getElem hk] at hL ⊢
   have hL:L[k]=(n,l):=hL
   rw[hL]; rfl
  rw[aF ha] at hP hg
  have hmem:l.getD a default∈l:=by
   rw[List.getD_eq_getElem?_getD,List.getElem?_eq_getElem ha]
   exact List.getElem_mem ha
  obtain⟨q0,j,b,q1,q2,q3,q4⟩:=hm _ hmem
  have q5:=hg (l.getD a default) (by simp)
  rcases q4 with q4 | q4
  ·have hkd:gt kd (j:Int)≠0:=by
    rw[aQ,← show kd.getD j 0=kd.getD j default from rfl]; exact q4.2
   have hj:=q4.1
   have hlen:(ls.getD j default).length<1000:=by
    rw[List.getD_eq_getElem?_getD,List.getElem?_eq_getElem hj]
    exact hS _ (List.getElem_mem hj)
   have key:g_3.b1 ls (L.map (fun p=>dp p.1 p.2),e) (kd,e') p ((a:Int),f,pj,pc)=some (.inl (((a+1:Nat):Int),0,(j:Int),((b+1:Nat):Int))):=by
    have ep:gt (pl l) (a:Int)=(0,(j:Int),((b+1:Nat):Int)):=by
     rw[aQ,pl_at,← q0,← q1,← q2]
    have et:gt (tx l) (a:Int)=(ls.getD j default).getD b 32:=by rw[aQ,tx_at,← q3]
    unfold ltP at q5
    rw[q1,q2] at q5
    simp only at q5
    unfold g_3.b1
    have hpb:0≤(k:Int)∧(k:Int)<((L.map (fun p=>dp p.1 p.2)).length:Int):=⟨by omega,by rw[List.length_map]; omega⟩
    simp only[hp,eg,if_pos hpb]
    unfold dp
    simp only[ep,et]
    rw[if_pos (decide_eq_true (by rw[kF]; omega)),if_pos ⟨by omega,by rw[qI]; omega⟩,dm (x:=(ls.length:Int)-1) (by omega) (by omega),lT,decide_eq_true (show(0:Int)≤(j:Int) by omega),decide_eq_true (show(j:Int)≤(ls.length:Int)-1 by omega)]
    rw[if_neg (show ¬ ((0:Int) != 0)=true by decide),Option.bind_some,Option.bind_some]
    rw[if_neg (show ¬ (!(true&&true))=true by decide),if_pos (show 0≤(j:Int)∧(j:Int)<(kd.length:Int) from⟨by omega,by omega⟩),Option.bind_some]
    rw[show(gt kd (j:Int)==0)=false by simpa using hkd,decide_eq_false (show ¬ (((b+1:Nat):Int)<1) by omega),decide_eq_false (show ¬ ((j:Int)<pj) by omega)]
    rw[show(((j:Int)==pj)&&decide (((b+1:Nat):Int)≤pc))=false by
     rw[Bool.and_eq_false_iff]
     rcases q5 with q5 | q5
     ·exact .inl (by simp; omega)
     ·exact .inr (decide_eq_false (by omega))]
    rw[if_neg (show ¬ ((((false||false)||false)||false)=true) by decide),if_pos (show 0≤(j:Int)∧(j:Int)<(ls.length:Int) from⟨by omega,by omega⟩),aQ]
    have ec:(if decide (((b+1:Nat):Int)≤((ls.getD j default).length:Int))=true then(if 0≤(j:Int)∧(j:Int)<(ls.length:Int) then(if 0≤(w64 (((b+1:Nat):Int)-1))∧(w64 (((b+1:Nat):Int)-1))<((ls.getD j default).length:Int) then some (gt (ls.getD j default) (w64 (((b+1:Nat):Int)-1))) else none) else none) else some (32:UInt8))=some ((ls.getD j default).getD b 32):=by
     by_cases hb:b+1≤(ls.getD j default).length
     ·rw[if_pos (decide_eq_true (by omega)),if_pos ⟨by omega,by omega⟩,dm (by omega) (by omega),show((b+1:Nat):Int)-1=((b:Nat):Int) by omega,if_pos ⟨by omega,by omega⟩,aQ,kE (show b<(ls.getD j default).length by omega)]
     ·rw[if_neg (dn (by omega)),List.getD_eq_getElem?_getD,List.getElem?_eq_none (by omega)]; rfl
    rw[ec,Option.bind_some,if_pos ⟨by omega,by rw[kF]; omega⟩,if_neg (by rw[iR,decide_eq_true rfl]; decide),up1 (by omega)]
   have hP':=List.pairwise_cons.1 hP
   obtain⟨r,r1,r2⟩:=nT hF hS hk hL hkl p hp lt hll d (a+1) 0 (j:Int) ((b+1:Nat):Int) (by omega) hP'.2 (fun m hm'=>by
    have:=hP'.1 m hm'
    unfold ltM at this
    rw[show(l.getD a default).2.2=((j:Int),((b+1:Nat):Int)) from Prod.ext q1 q2] at this
    exact this) hm
   exact⟨r,by rw[az key]; exact r1,r2⟩
  ·exact absurd q4.2 (by omega)
theorem fl_drop {L:List (Int×List Mk1)} {k:Nat} (hk:k<L.length):fl (L.drop k)=(L.getD k default).2++fl (L.drop (k+1)):=by
 rw[aF hk]; unfold fl; simp
theorem nU {ls:List (List UInt8)} (hF:ls.length≤405) (hS: ∀s∈ls,s.length<1000) {e:Int×Int} {kd:List Int} {e':Int×Int} {L:List (Int×List Mk1)} (hkl:kd.length=ls.length) (hLl:L.length<1000000000)
  (h2: ∀p∈L,p.2≠ []∧0≤p.1∧p.1≤99999) (h4: ∀m∈fl L,Gm ls kd ls.length 0 m) (h5: ∀p∈L,p.2.length<1000000000): ∀(d k:Nat) (f pj pc:Int),k+d=L.length→(fl (L.drop k)).Pairwise ltM→(∀m∈fl (L.drop k),ltP (pj,pc) m.2.2) →
  ∃r,iter (g_3.b0 ls (L.map (fun p=>dp p.1 p.2),e) (kd,e')) ((k:Int),f,pj,pc)=some (.inl r)
 | 0,k,f,pj,pc,h,hP,hg=>⟨_,aj (by unfold g_3.b0; simp only; rw[if_neg (dn (by rw[List.length_map]; omega))])⟩
 | d+1,k,f,pj,pc,h,hP,hg=>by
  have hk:k<L.length:=by omega
  have hmem:L.getD k default∈L:=by
   rw[List.getD_eq_getElem?_getD,List.getElem?_eq_getElem hk]
   exact List.getElem_mem hk
  obtain⟨g1,g2,g3⟩:=h2 _ hmem
  have g5:=h5 _ hmem
  rw[fl_drop hk] at hP hg
  obtain⟨r,r1,r2⟩:=nT hF hS (e:=e) (e':=e') hk (n:=(L.getD k default).1) (l:=(L.getD k default).2) rfl hkl ((k:Int),f,pj,pc) rfl (fl (L.drop (k+1))) g5 (L.getD k default).2.length 0 f pj pc (by omega) (by rw[List.drop_zero]; exact hP) (by rw[List.drop_zero]; exact hg) (fun m hm=>h4 m (by
   unfold fl
   rw[List.mem_flatten]
   exact⟨_,List.mem_map_of_mem hmem,hm⟩))
  have r1':iter (g_3.b1 ls (L.map (fun p=>dp p.1 p.2),e) (kd,e') ((k:Int),f,pj,pc)) (0,f,pj,pc)=some (.inl r):=r1
  have eg:gt (L.map (fun p=>dp p.1 p.2)) (k:Int)=dp (L.getD k default).1 (L.getD k default).2:=by
   rw[aQ,List.getD_eq_getElem?_getD,List.getElem?_map,List.getD_eq_getElem?_getD,List.getElem?_eq_getElem hk]; rfl
  have key:g_3.b0 ls (L.map (fun p=>dp p.1 p.2),e) (kd,e') ((k:Int),f,pj,pc)=some (.inl (((k+1:Nat):Int),r.2.1,r.2.2.1,r.2.2.2)):=by
   unfold g_3.b0
   simp only[eg]
   have hb:0≤(k:Int)∧(k:Int)<((L.map (fun p=>dp p.1 p.2)).length:Int):=⟨by omega,by rw[List.length_map]; omega⟩
   have hne: ¬ (tx (L.getD k default).2= []):=fun q=>g1 (List.map_eq_nil_iff.1 q)
   simp only[if_pos hb]
   rw[if_pos (decide_eq_true hb.2),if_pos (c:=0<_) (by rw[List.length_map]; omega)]
   unfold dp at r1' ⊢
   simp only
   rw[if_neg (dn hne),if_neg (by rw[kF,qI]; simp),lT,decide_eq_true g2,decide_eq_true g3,Option.bind_some,if_neg (by decide),r1',Option.bind_some,up1 (by omega)]
   rfl
  obtain⟨r',q1⟩:=nU hF hS hkl hLl h2 h4 h5 d (k+1) r.2.1 r.2.2.1 r.2.2.2 (by omega) (List.pairwise_append.1 hP).2.1 (fun m hm=>r2 m hm)
  exact⟨r',by rw[az key]; exact q1⟩
theorem qX: ∀L:List (Int×List Mk1),(∀p∈L,p.2≠ [])→L.length≤(fl L).length∧ ∀p∈L,p.2.length≤(fl L).length
 | [],h=>⟨Nat.le_refl _,fun p hp=>by cases hp⟩
 | q::L,h=>by
  obtain⟨h1,h2⟩:=qX L (fun p hp=>h p (List.mem_cons_of_mem _ hp))
  have h0:0<q.2.length:=List.length_pos_iff.2 (h q (by simp))
  have e:fl (q::L)=q.2++fl L:=by unfold fl; simp
  rw[e,List.length_append]
  refine⟨by simp only[List.length_cons]; omega,fun p hp=>?_⟩
  rcases List.mem_cons.1 hp with rfl | hp
  ·omega
  ·have:=h2 p hp; omega
theorem law07 (n:List UInt8) (free:Bool) (ls:List (List UInt8)) (hl:ls.length<9000000000000000000):g_3.f n free ls=some true:=by
 obtain⟨b,b1,b2⟩:=few_f n hl
 unfold g_3.f
 rw[show g_awake.f=some true from rfl,Option.bind_some,if_neg (by decide),b1,Option.bind_some]
 cases b
 ·rfl
 ·obtain⟨hF,h405⟩:=b2 rfl
  rw[if_neg (by decide),mN n free (by omega),Option.bind_some]
  simp only[Option.bind_some]
  rw[iX hF,oI hF,Option.bind_some,Option.bind_some]
  obtain⟨_,hne⟩:=mL (free:=free) hF
  cases hx:RD n free ls with
  | error e =>
   have:=hne e hx
   show(if(e.2 != e.2)=true then _ else if(e.2 != 0)=true then _ else _)=_
   rw[if_neg (by simp),if_pos (by simpa using this)]
  | ok y =>
   obtain⟨hk,L,g1,g2,g3,g4,g5⟩:=RD_pi hF.e hx
   simp only
   rw[if_neg (by decide),if_neg (by decide),if_neg (by simp[hk]),g1]
   rw[List.append_nil] at g3 g4 g5
   have hb:=qX L (fun p hp=>(g2 p hp).1)
   have hsz: ∀p∈L,p.2.length<1000000000:=fun p hp=>by have:=hb.2 p hp; omega
   have hLl:L.length<1000000000:=by omega
   obtain⟨r,r1⟩:=nU h405 hF.e (e:=((0:Int),(0:Int))) (kd:=y.1) (e':=((0:Int),(0:Int))) hk hLl g2 g4 hsz L.length 0 0 (-1) 0 (by omega) (by rw[List.drop_zero]; exact g3) (fun m hm=>by
    rw[List.drop_zero] at hm
    obtain⟨_,j,b,q1,q2,_⟩:=g4 m hm
    unfold ltP
    rw[q1]
    exact .inl (by show(-1:Int)<(j:Int); omega))
   have r1':iter (g_3.b0 ls (L.map (fun p=>dp p.1 p.2),0,0) (y.1,0,0)) (0,0,-1,0)=some (.inl r):=r1
   rw[r1',Option.bind_some]; rfl
end Go.Proofs.YtjcbhbncncbdjaaGreatDoorAi
namespace Go.Proofs.YtjcbhbncncbdjaaGreatDoorAi
open Go Go.RowKit
set_option linter.unusedVariables false
theorem len_lt {n:Nat} (h:n*16≤reachBytes):n<9000000000000000000:=by
 have:reachBytes<2 ^ 47:=by decide
 omega
theorem law07_calls {w:World} {μ:Mu} {nx:Nat} {ks:List cx} (gs:GS 11 w μ nx ks) {a:Option Addr} {z:Nat} {y:List UInt8×Bool×List (List UInt8)} {v:Value} (hf:Frz (elS 9) (Fk ks) a z y.2.2) (hb:y.2.2.length*16≤reachBytes) (hv:VR μ (.agg [ac y.1,.bool y.2.1,.slice a y.2.2.length z].toArray) v) :
  Calls Tryz.prog 7 #[v] w fun e w'=>e= .returned (.bool true)∧Below w.heap.size w w' :=
 calls_M gs (oE hv (qp μ)) Tryz.func7 rfl (fun _ _=>rfl) rfl (Cl.mono (g_3.ok (law07 y.1 y.2.1 y.2.2 (len_lt hb)) hf) fun v S F h=>h.2.1)
end Go.Proofs.YtjcbhbncncbdjaaGreatDoorAi
