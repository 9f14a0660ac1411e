/-
PuT0, PuT1, PuT2, PuT3, PuT4, PuT5, PuT6, PuT7, PuT8, PuT9, PuT11, PuT12
-/
import Derived.Test.YtjcbhbncncbdjaaGreatDoorApX1b
import Derived.Test.YtjcbhbncncbdjaaGreatDoorApL
namespace Go.Proofs.YtjcbhbncncbdjaaGreatDoorAi
open Go Go.RowKit
set_option linter.unusedVariables false
set_option linter.unusedSimpArgs false
theorem cE {x:Int} (h1: -9223372036854775808≤x) (h2:x≤9223372036854775807):w64 x=x:=by
 unfold w64
 simp[IntKind.wrap,IntKind.bits,IntKind.signed]; omega
theorem up1 {n:Nat} (h:n<9000000000000000000):w64 ((n:Int)+1)=((n+1:Nat):Int):=by
 rw[cE (by omega) (by omega)]; rfl
theorem bf {α:Type} [Inhabited α] (l:List α) (n:Nat):gt l (n:Int)=l.getD n default:=rfl
def eO (c:UInt8):Bool:=decide (48≤c.toNat)&&decide (c.toNat≤57)
theorem qX {c:UInt8}:eO c=true↔48≤c.toNat∧c.toNat≤57:=by simp[eO]
theorem iW (c:UInt8):g_q.f c=some (eO c):=by
 unfold g_q.f eO
 congr 2
 ·exact decide_eq_decide.2 (by show((48:Nat):Int)≤_↔_; omega)
 ·exact decide_eq_decide.2 (by show _≤((57:Nat):Int)↔_; omega)
theorem eI {α:Type} (l:List α) (n:Nat):mid l (n:Int) (l.length:Int)=l.drop n:=by
 unfold mid
 simp
theorem gv {α:Type} (l:List α) (n:Nat):mid l (0:Int) (n:Int)=l.take n:=by
 unfold mid
 simp
theorem f6 (a b:UInt8):((a.toNat:Int)==(b.toNat:Int))=decide (a=b):=by
 rw[Bool.eq_iff_iff]
 simp only[beq_iff_eq,decide_eq_true_eq]
 constructor
 ·intro h; exact UInt8.toNat_inj.1 (by omega)
 ·intro h; rw[h]
theorem jl (a b:UInt8):((a.toNat:Int) != (b.toNat:Int))= !decide (a=b):=by
 rw[bne,f6]
theorem f7 (l:List UInt8) (c:UInt8):g_15.f l c=some (iU l c):=rfl
theorem nO (l:List UInt8) (c:UInt8):decide (iU l c≥0)=l.contains c:=by
 unfold iU
 cases h:l.findIdx? (· == c) with
 | none =>
  rw[List.findIdx?_eq_none_iff] at h
  symm
  show l.contains c=false
  rw[Bool.eq_false_iff]
  intro hc
  have:=h c (List.contains_iff_mem.1 hc)
  simp at this
 | some i =>
  rw[decide_eq_true (show(i:Int)≥0 by omega)]
  symm
  obtain⟨hi,h1,_⟩:=List.findIdx?_eq_some_iff_getElem.1 h
  rw[List.contains_iff_mem]
  have:l[i]=c:=by simpa using h1
  rw[← this]; exact List.getElem_mem hi
theorem idxB_lt (l:List UInt8) (c:UInt8):decide (iU l c<0)= !l.contains c:=by
 rw[← nO]
 by_cases h:iU l c≥0
 ·rw[decide_eq_true h,decide_eq_false (by omega)]; rfl
 ·rw[decide_eq_false h,decide_eq_true (by omega)]; rfl
theorem lG (l:List UInt8) (i:Nat):(⟨l.toArray⟩:ByteArray).get! i=l.getD i default:=by
 show l.toArray[i]! = _
 simp[List.getD_eq_getElem?_getD]
theorem qY {l:List UInt8} {p:Nat} (h:(l.getD p default).toNat<128):dec l p=((l.getD p default).toNat,1):=by
 unfold dec Utf8.decode
 simp only[Nat.add_zero,lG]
 rw[if_pos h]
theorem dec_hi {l:List UInt8} {p:Nat} (h: ¬ (l.getD p default).toNat<128):126<(dec l p).1:=by
 unfold dec Utf8.decode
 simp only[Nat.add_zero,lG]
 rw[if_neg h]
 split
 ·split
  ·simp only; omega
  ·decide
 ·split
  ·split
   ·rename_i h2
    simp only[Bool.and_eq_true,decide_eq_true_eq] at h2
    simp only; omega
   ·decide
  ·split
   ·split
    ·rename_i h2
     simp only[Bool.and_eq_true,decide_eq_true_eq] at h2
     simp only; omega
    ·decide
   ·decide
theorem aM {α:Type} [Inhabited α] {t:List α} {a:Nat} (h:a<t.length):t.drop a=t.getD a default::t.drop (a+1):=by
 rw[List.drop_eq_getElem_cons h,List.getD_eq_getElem?_getD,List.getElem?_eq_getElem h]; rfl
theorem nP {α:Type} {l:List α} {d e:α} {k:Nat} (h:k<l.length):l.getD k d=l.getD k e:=by
 rw[List.getD_eq_getElem?_getD,List.getElem?_eq_getElem h,List.getD_eq_getElem?_getD,List.getElem?_eq_getElem h]; rfl
def shw (f c:UInt8):Bool:=decide (f.toNat≤c.toNat)&&decide (c.toNat≤126)
theorem lH (r:Nat) {f:UInt8} (hf:f.toNat<128):g_u.f (r:Int) f=some (!(decide (f.toNat≤r)&&decide (r≤126))):=by
 unfold g_u.f
 have:IntKind.i32.wrap ((f.toNat:Nat):Int)=f.toNat:=by
  simp[IntKind.wrap,IntKind.bits,IntKind.signed]; omega
 rw[this]
 congr 1
 by_cases h1:f.toNat≤r<;>by_cases h2:r≤126<;>simp[h1,h2]<;>omega
theorem eo {f:UInt8} (hf:f.toNat<128) (t:List UInt8): ∀d x:Nat,x+d=t.length →
  if(t.drop x).all (shw f)=true then iter (g_19.b0 t f true) x=some (.inl t.length) else ∃k:Nat,iter (g_19.b0 t f true) x=some (.inr (k:Int))
 | 0,x,h=>by
  rw[show x=t.length by omega,List.drop_length]
  exact ai (by unfold g_19.b0; rw[if_neg (by simp)])
 | d+1,x,h=>by
  have ih:=eo hf t d (x+1) (by omega)
  have key:g_19.b0 t f true x=if(decide (f.toNat≤(dec t x).1)&&decide ((dec t x).1≤126))=true then some (.inl (x+(dec t x).2)) else some (.inr (.inr (x:Int))):=by
   unfold g_19.b0
   rw[if_pos (decide_eq_true (by omega)),lH _ hf,Option.bind_some]
   cases(decide (f.toNat≤(dec t x).1)&&decide ((dec t x).1≤126))<;>rfl
  rw[aM (by omega),List.all_cons]
  by_cases hb:(t.getD x default).toNat<128
  ·rw[qY hb] at key
   cases hs:shw f (t.getD x default)
   ·rw[Bool.false_and,if_neg (by decide)]
    unfold shw at hs
    exact⟨x,ai (key.trans (if_neg (by rw[hs]; decide)))⟩
   ·rw[Bool.true_and]
    unfold shw at hs
    rw[az (key.trans (if_pos hs))]
    exact ih
  ·have hh:=dec_hi hb
   have hs:shw f (t.getD x default)=false:=by unfold shw; rw[decide_eq_false (show ¬ (t.getD x default).toNat≤126 by omega),Bool.and_false]
   rw[hs,Bool.false_and,if_neg (by decide)]
   exact⟨x,ai (key.trans (if_neg (by rw[decide_eq_false (show ¬ (dec t x).1≤126 by omega),Bool.and_false]; decide)))⟩
theorem jO {f:UInt8} (hf:f.toNat<128) (t:List UInt8):g_t.f t f=some (t.all (shw f)):=by
 have h:=eo hf t t.length 0 (by omega)
 rw[List.drop_zero] at h
 unfold g_t.f g_16.f g_19.f
 cases hs:t.all (shw f)
 ·rw[hs,if_neg (by decide)] at h
  obtain⟨k,hk⟩:=h
  rw[hk]
  simp[dB]
 ·rw[hs,if_pos rfl] at h
  rw[h]
  simp[dB]
theorem dn {p:Prop} [Decidable p] (h: ¬ p): ¬ decide p=true:=by simpa using h
theorem ep (b:Bool) (e:Int):g_12.f b e=some (if b=true then 0 else e):=by
 unfold g_12.f; cases b<;>rfl
theorem oV {l:List Int} {k:Nat} (h:k=l.length):iter (g_b.b0 l) (k:Int)=some (.inl (l.length:Int)):=by
 subst h
 exact ai (by unfold g_b.b0; rw[if_neg (by simp)])
def dt:List Int→Int
 | []=>0
 | a::l=>if a≠0 then a else dt l
theorem iX {l:List Int} (hl:l.length<1000): ∀(d k:Nat),k+d=l.length→ ∃r,iter (g_b.b0 l) (k:Int)=some r∧(match r with | .inl _=>(0:Int) | .inr e=>e)=dt (l.drop k)
 | 0,k,h=>by
  refine⟨.inl (l.length:Int),oV (by omega),?_⟩
  rw[show k=l.length by omega,List.drop_length]; rfl
 | d+1,k,h=>by
  have key:g_b.b0 l (k:Int)=some (if(l.getD k default)≠0 then .inr (.inr (l.getD k default)) else .inl ((k+1:Nat):Int)):=by
   unfold g_b.b0
   rw[if_pos (decide_eq_true (by omega)),if_pos ⟨by omega,by omega⟩,bf,up1 (by omega)]
   by_cases h0:l.getD k default=0
   ·rw[h0]; rfl
   ·rw[if_pos (by simpa using h0),if_pos h0]
  rw[aM (by omega)]
  unfold dt
  by_cases h0:l.getD k default=0
  ·rw[if_neg (by simpa using h0)] at key ⊢
   obtain⟨r,h1,h2⟩:=iX hl d (k+1) (by omega)
   exact⟨r,by rw[az key]; exact h1,h2⟩
  ·rw[if_pos h0] at key ⊢
   exact⟨.inr (l.getD k default),ai key,rfl⟩
theorem dC {l:List Int} (hl:l.length<1000):g_b.f l=some (dt l):=by
 unfold g_b.f
 obtain⟨r,h1,h2⟩:=iX hl l.length 0 (by omega)
 have h1':iter (g_b.b0 l) 0=some r:=h1
 rw[h1',Option.bind_some]
 rw[List.drop_zero] at h2
 rw[← h2]
 cases r<;>rfl
def bl (l:List UInt8):Bool:=l.all (· == 32)
def ltr (l:List UInt8):List UInt8:=l.dropWhile (· == 32)
theorem iY {α:Type} {p:α→Bool}: ∀{l:List α},l.dropWhile p= []↔ ∀x∈l,p x=true
 | []=>by simp
 | a::l=>by
  rw[List.dropWhile_cons]
  by_cases h:p a=true
  ·rw[if_pos h,iY]
   constructor
   ·intro k x hx
    rcases List.mem_cons.1 hx with rfl | hx
    ·exact h
    ·exact k x hx
   ·intro k x hx; exact k x (List.mem_cons_of_mem _ hx)
  ·rw[if_neg h]
   constructor
   ·intro k; cases k
   ·intro k; exact absurd (k a List.mem_cons_self) h
theorem qZ (l:List UInt8):decide (Lib.trimB l 32= [])=bl l:=by
 unfold Lib.trimB Lib.trimLeftB Lib.trimRightB bl
 rw[Bool.eq_iff_iff,decide_eq_true_eq,List.all_eq_true]
 constructor
 ·intro h x hx
  rw[iY] at h
  apply Decidable.byContradiction
  intro hb
  -- the last character that is no blank stays
  have: ∃y∈(l.reverse.dropWhile (· == 32)).reverse,¬ (y==32)=true:=by
   have hd:l.reverse.dropWhile (· == 32)≠ []:=by
    intro e
    rw[iY] at e
    exact hb (e x (List.mem_reverse.2 hx))
   have hh:=List.head_dropWhile_not (· == (32:UInt8)) (l:=l.reverse) hd
   exact⟨_,List.mem_reverse.2 (List.head_mem hd),by simpa using hh⟩
  obtain⟨y,h1,h2⟩:=this
  exact h2 (h y h1)
 ·intro h
  have:l.reverse.dropWhile (· == 32)= []:=by
   rw[iY]
   exact fun x hx=>h x (List.mem_reverse.1 hx)
  rw[this]; rfl
theorem eJ {l:List UInt8} (hl:l.length<9223372036854775807):g_o.f l=some (bl l):=by
 unfold g_o.f g_Trim.f
 simp only
 rw[if_pos ⟨by decide,by omega⟩,Option.bind_some,qZ]
theorem eU: ∀l:List UInt8,iter (g_1b.b0 32) l=some (ltr l)
 | []=>ai rfl
 | c::l=>by
  have hg:gt (c::l) (0:Int)=c:=rfl
  have hm:mid (c::l) (1:Int) (((c::l).length:Nat):Int)=l:=by
   rw[show(1:Int)=((1:Nat):Int) from rfl,eI]; rfl
  have key:g_1b.b0 32 (c::l)=some (if c=32 then .inl l else .inr (c::l)):=by
   unfold g_1b.b0
   rw[if_pos (decide_eq_true (by simp)),if_pos ⟨by omega,by simp⟩,Option.bind_some,hg,f6]
   by_cases h:c=32
   ·rw[decide_eq_true h,if_pos h,if_pos rfl,if_pos ⟨by omega,by simp; omega,Int.le_refl _⟩,hm]
   ·rw[decide_eq_false h,if_neg h]; rfl
  unfold ltr
  rw[List.dropWhile_cons]
  by_cases h:c=32
  ·rw[if_pos h] at key
   rw[az key,if_pos (by simpa using h)]
   exact eU l
  ·rw[if_neg h] at key
   rw[ai key,if_neg (by simpa using h)]
theorem iZ (l:List UInt8):g_18.f l [32]=some (ltr l):=by
 unfold g_18.f
 by_cases h:l= []
 ·subst h; rfl
 ·rw[if_neg (by simpa using h),if_pos (by decide),if_pos ⟨by decide,by decide⟩,Option.bind_some,if_pos (by decide),if_pos ⟨by decide,by decide⟩]
  unfold g_1b.f
  have hg:gt ([32]:List UInt8) (0:Int)=32:=rfl
  rw[hg,eU]; rfl
theorem f8 {s:List UInt8} (hs:s.length<1000000) (n:Nat):g_a.f s ((n+1:Nat):Int)=some (s.getD n 32):=by
 unfold g_a.f
 have hw:n<s.length→w64 (((n+1:Nat):Int)-1)=(n:Int):=fun h=>by rw[cE (by omega) (by omega)]; omega
 by_cases h:n<s.length
 ·rw[if_neg (by simp; omega),hw h,if_pos ⟨by omega,by omega⟩,bf,nP h]
 ·rw[if_pos (by simp; omega),List.getD_eq_getElem?_getD,List.getElem?_eq_none (by omega)]; rfl
def cm (s:List UInt8):Bool:=([67,99,42,33]:List UInt8).contains (s.getD 0 32)||bl (s.take 72)
theorem lI {s:List UInt8} (hs:s.length<1000000):g_p.f s=some (cm s):=by
 unfold g_p.f cm
 have h1:g_a.f s 1=some (s.getD 0 32):=f8 hs 0
 rw[h1,Option.bind_some,f7,Option.bind_some,nO]
 have hm:mid s (0:Int) (if(72:Int)<(s.length:Int) then 72 else(s.length:Int))=s.take 72:=by
  by_cases h:72<s.length
  ·rw[if_pos (by omega)]; exact gv s 72
  ·rw[if_neg (by omega),gv,List.take_length,List.take_of_length_le (by omega)]
 rw[hm]
 cases([67,99,42,33]:List UInt8).contains (s.getD 0 32)
 ·rw[if_neg (by decide),if_pos (by split<;>omega),eJ (by rw[List.length_take]; omega)]; rfl
 ·rfl
end Go.Proofs.YtjcbhbncncbdjaaGreatDoorAi
namespace Go.Proofs.YtjcbhbncncbdjaaGreatDoorAi
open Go Go.RowKit
set_option linter.unusedVariables false
set_option linter.unusedSimpArgs false
def nmE (n:List UInt8):Bool:=decide (1≤n.length)&&decide (n.length≤31)&&n.all (shw 33)&& !n.contains 39
def lnE (m:Nat) (s:List UInt8):Int:=if m<s.length then 8 else if s.all (shw 32)=true then 0 else 3
def ckL (m:Nat):List (List UInt8)→Nat→Int×Int
 | [],_=>(0,0)
 | s::r,i=>if lnE m s≠0 then((i:Int),lnE m s) else ckL m r (i+1)
def wd (free:Bool):Nat:=if free=true then 132 else 80
def ckT (n:List UInt8) (free:Bool) (ls:List (List UInt8)):Int×Int:=if nmE n=false then(0,4) else if 400<ls.length then(0,8) else ckL (wd free) ls 0
structure Few (n:List UInt8) (ls:List (List UInt8)):Prop where
 n:n.length<1000
 l:ls.length<1000
 e: ∀s∈ls,s.length<1000
theorem Few.at {n:List UInt8} {ls:List (List UInt8)} (h:Few n ls) {k:Nat} (hk:k<ls.length):(ls.getD k default).length<1000:=by
 rw[List.getD_eq_getElem?_getD,List.getElem?_eq_getElem hk]
 exact h.e _ (List.getElem_mem hk)
theorem q7 {n:List UInt8} (h:n.length<1000):g_r.f n=some (nmE n):=by
 unfold g_r.f g_13.f nmE
 rw[jO (by decide),f7,Option.bind_some]
 simp only[Option.bind_some,idxB_lt]
 have e:((decide ((1:Int)≤(n.length:Int)))&&(decide ((n.length:Int)≤31)))=(decide (1≤n.length)&&decide (n.length≤31)):=by
  congr 1
  ·exact decide_eq_decide.2 (by omega)
  ·exact decide_eq_decide.2 (by omega)
 rw[e]
 cases(decide (1≤n.length)&&decide (n.length≤31))
 ·rfl
 ·cases n.all (shw 33)<;>rfl
theorem frst2 (a b:Int):dt [a,b]=if a≠0 then a else b:=by
 unfold dt dt dt
 by_cases h:a=0
 ·by_cases h2:b=0<;>simp[h,h2]
 ·simp[h]
theorem i0 {n:List UInt8} {ls:List (List UInt8)} (h:Few n ls) (m:Nat) (hm:m<1000): ∀(d k:Nat),k+d=ls.length →
  ∃r,iter (g_8.b0 ls (m:Int)) (k:Int)=some r∧(match r with | .inl _=>((0:Int),(0:Int)) | .inr e=>e)=ckL m (ls.drop k) k
 | 0,k,hk=>by
  refine⟨.inl (k:Int),ai (by unfold g_8.b0; rw[if_neg (by simp; omega)]),?_⟩
  rw[show k=ls.length by omega,List.drop_length]; rfl
 | d+1,k,hk=>by
  have hl:=h.l
  have key:g_8.b0 ls (m:Int) (k:Int)=some (if lnE m (ls.getD k default)≠0 then .inr (.inr ((k:Int),lnE m (ls.getD k default))) else .inl ((k+1:Nat):Int)):=by
   unfold g_8.b0
   simp only[ep]
   rw[if_pos (decide_eq_true (by omega)),if_pos ⟨by omega,by omega⟩,bf,up1 (by omega),jO (by decide)]
   unfold lnE
   by_cases h1:m<(ls.getD k default).length
   ·rw[if_neg (dn (by omega)),if_pos h1]
    cases(ls.getD k default).all (shw 32)
    ·simp only[Bool.false_eq_true,if_false,Option.bind_some,dC (show([(8:Int),3]:List Int).length<1000 by decide)]; rfl
    ·simp only[if_true,Option.bind_some,dC (show([(8:Int),0]:List Int).length<1000 by decide)]; rfl
   ·rw[if_pos (decide_eq_true (by omega)),if_neg h1]
    cases(ls.getD k default).all (shw 32)
    ·simp only[Bool.false_eq_true,if_false,Option.bind_some,dC (show([(0:Int),3]:List Int).length<1000 by decide)]; rfl
    ·simp only[if_true,Option.bind_some,dC (show([(0:Int),0]:List Int).length<1000 by decide)]; rfl
  rw[aM (by omega)]
  unfold ckL
  by_cases h0:lnE m (ls.getD k default)=0
  ·rw[if_neg (by simpa using h0)] at key ⊢
   obtain⟨r,h1,h2⟩:=i0 h m hm d (k+1) (by omega)
   exact⟨r,by rw[az key]; exact h1,h2⟩
  ·rw[if_pos h0] at key ⊢
   exact⟨_,ai key,rfl⟩
theorem lJ {n:List UInt8} {free:Bool} {ls:List (List UInt8)} (h:Few n ls):g_8.f n free ls=some (ckT n free ls):=by
 have hl:=h.l
 unfold g_8.f ckT
 rw[q7 h.n,Option.bind_some]
 simp only[ep,Option.bind_some]
 have hf: ∀a b:Int,g_b.f [a,b]=some (if a≠0 then a else b):=fun a b=>by rw[dC (by show 2<1000; decide),frst2]
 simp only[hf,Option.bind_some]
 cases hn:nmE n
 ·rfl
 ·rw[if_neg (show ¬ true=false by decide)]
  by_cases h4:400<ls.length
  ·rw[if_neg (c:=decide _=true) (dn (by omega)),if_pos h4]; rfl
  ·rw[if_pos (c:=decide _=true) (decide_eq_true (by omega)),if_neg h4]
   have hw:(if free=true then some (132:Int) else some 80)=some ((wd free:Nat):Int):=by unfold wd; cases free<;>rfl
   obtain⟨r,h1,h2⟩:=i0 h (wd free) (by unfold wd; cases free<;>decide) ls.length 0 (by omega)
   have h1':iter (g_8.b0 ls ((wd free:Nat):Int)) 0=some r:=h1
   rw[List.drop_zero] at h2
   rw[hw,← h2]
   show Option.bind (iter (g_8.b0 ls ((wd free:Nat):Int)) 0) _=_
   rw[h1',Option.bind_some]
   cases r<;>rfl
end Go.Proofs.YtjcbhbncncbdjaaGreatDoorAi
namespace Go.Proofs.YtjcbhbncncbdjaaGreatDoorAi
open Go Go.RowKit
set_option linter.unusedVariables false
set_option linter.unusedSimpArgs false
abbrev Pl:Type:=Int×Int×Int
abbrev Mk1:Type:=UInt8×Int×Int×Int
abbrev ST:Type:=Int×List UInt8×List Pl
def tx (l:List Mk1):List UInt8:=l.map (·.1)
def pl (l:List Mk1):List Pl:=l.map (·.2)
def gw (m:Mk1):Bool:=m.1==32
def lf (l:List Mk1):List Mk1:=l.dropWhile gw
def rt (l:List Mk1):List Mk1:=(l.reverse.dropWhile gw).reverse
theorem gx {α:Type} (p:α→Bool): ∀l:List α,(l.dropWhile p).length≤l.length
 | []=>Nat.le_refl _
 | a::l=>by
  rw[List.dropWhile_cons]
  split
  ·exact Nat.le_succ_of_le (gx p l)
  ·exact Nat.le_refl _
theorem nQ: ∀l:List Mk1,iter g_w.b0 l=some (lf l)
 | []=>ai rfl
 | c::l=>by
  have hg:gt (c::l) (0:Int)=c:=rfl
  have hm:mid (c::l) (1:Int) (((c::l).length:Nat):Int)=l:=by
   rw[show(1:Int)=((1:Nat):Int) from rfl,eI]; rfl
  have key:g_w.b0 (c::l)=some (if gw c=true then .inl l else .inr (c::l)):=by
   unfold g_w.b0 gw
   rw[if_pos (decide_eq_true (by simp)),if_pos ⟨by omega,by simp⟩,Option.bind_some,hg,f6]
   by_cases h:c.1=32
   ·rw[decide_eq_true h,h,if_pos rfl,if_pos ⟨by omega,by simp; omega,Int.le_refl _⟩,hm]; rfl
   ·rw[decide_eq_false h,if_neg (by decide),if_neg (c:=(c.1==32)=true) (by simpa using h)]
  unfold lf
  rw[List.dropWhile_cons]
  cases h:gw c
  ·rw[h] at key
   rw[ai key]; rfl
  ·rw[h] at key
   rw[az key]
   exact nQ l
theorem mI (l:List Mk1):g_w.f l=some (lf l):=by
 unfold g_w.f
 rw[nQ]; rfl
theorem rt_snoc (l:List Mk1) (c:Mk1):rt (l++ [c])=if gw c=true then rt l else l++ [c]:=by
 unfold rt
 rw[List.reverse_append,List.reverse_cons,List.reverse_nil,List.nil_append,List.cons_append,List.nil_append,List.dropWhile_cons]
 split
 ·rfl
 ·rw[List.reverse_cons,List.reverse_reverse]
theorem nR: ∀(n:Nat) (l:List Mk1),l.length=n→n<1000000→iter g_y.b0 l=some (rt l)
 | 0,l,h,_=>by
  cases l with
  | nil=>exact ai rfl
  | cons _ _=>simp at h
 | n+1,l,h,hn=>by
  have hne:l≠ []:=by intro e; rw[e] at h; cases h
  obtain⟨l0,c,rfl⟩: ∃l0 c,l=l0++ [c]:=⟨l.dropLast,l.getLast hne,(List.dropLast_concat_getLast hne).symm⟩
  have hl:l0.length=n:=by simpa using h
  have hw:w64 (((l0++ [c]).length:Int)-1)=(l0.length:Int):=by
   have e:((l0++ [c]).length:Int)=(l0.length:Int)+1:=by simp
   rw[e,cE (by omega) (by omega)]; omega
  have hg:gt (l0++ [c]) (l0.length:Int)=c:=by
   rw[bf,List.getD_eq_getElem?_getD,List.getElem?_append_right (Nat.le_refl _)]; simp
  have hm:mid (l0++ [c]) (0:Int) (l0.length:Int)=l0:=by rw[gv]; simp
  have key:g_y.b0 (l0++ [c])=some (if gw c=true then .inl l0 else .inr (l0++ [c])):=by
   unfold g_y.b0 gw
   have e:((l0++ [c]).length:Int)=(l0.length:Int)+1:=by simp
   rw[hw,if_pos (decide_eq_true (by omega)),if_pos ⟨by omega,by omega⟩,Option.bind_some,hg,f6]
   by_cases h:c.1=32
   ·rw[decide_eq_true h,h,if_pos rfl,if_pos ⟨by omega,by omega,by omega⟩,hm]; rfl
   ·rw[decide_eq_false h,if_neg (by decide),if_neg (c:=(c.1==32)=true) (by simpa using h)]
  rw[rt_snoc]
  cases h:gw c
  ·rw[h] at key
   rw[ai key]; rfl
  ·rw[h] at key
   rw[az key]
   exact nR n l0 hl (by omega)
theorem nS {l:List Mk1} (h:l.length<1000000):g_y.f l=some (rt l):=by
 unfold g_y.f
 rw[nR l.length l rfl h]; rfl
theorem mJ (l:List Mk1):(rt l).length≤l.length:=by
 unfold rt
 rw[List.length_reverse]
 exact Nat.le_trans (gx _ _) (by rw[List.length_reverse]; exact Nat.le_refl _)
theorem mK (l:List Mk1):(lf l).length≤l.length:=gx _ _
theorem jP {l:List Mk1} (hl:l.length<1000000): ∀(d k:Nat) (b:Bool) (acc:List UInt8),k+d=l.length→acc.length=k→ ∃b',iter (g_z.b0 l) ((k:Int),b,acc)=some ((l.length:Int),b',acc++tx (l.drop k))
 | 0,k,b,acc,h,ha=>by
  refine⟨b,ai ?_⟩
  unfold g_z.b0
  simp only
  rw[if_neg (dn (by omega)),show k=l.length by omega,List.drop_length]
  simp[tx]
 | d+1,k,b,acc,h,ha=>by
  have key:g_z.b0 l ((k:Int),b,acc)=some (.inl (((k+1:Nat):Int),true,acc++ [(l.getD k default).1])):=by
   unfold g_z.b0 g_14.f g_copyCheck.f
   simp only
   rw[if_pos (decide_eq_true (by omega)),if_pos ⟨by omega,by omega⟩,bf,up1 (by omega),Option.bind_some,if_pos (by simp; omega)]; rfl
  obtain⟨b',h1⟩:=jP hl d (k+1) true (acc++ [(l.getD k default).1]) (by omega) (by simp; omega)
  refine⟨b',by rw[az key,h1,aM (show k<l.length by omega)]; simp[tx]⟩
theorem text_f {l:List Mk1} (hl:l.length<1000000):g_z.f l=some (tx l):=by
 unfold g_z.f
 obtain⟨b',h1⟩:=jP hl l.length 0 false [] (by omega) rfl
 have h1':iter (g_z.b0 l) (0,false,([]:List UInt8))=some ((l.length:Int),b',tx l):=by simpa using h1
 rw[h1',Option.bind_some]
 unfold g_BString.f
 have e:(tx l).length=l.length:=by unfold tx; rw[List.length_map]
 simp only
 rw[if_pos (by omega)]; rfl
theorem gL {l:List Mk1} (hl:l.length<1000000): ∀(d k:Nat) (acc:List Pl),k+d=l.length→acc.length=k→iter (g_x.b0 l) (acc,(k:Int))=some (acc++pl (l.drop k),(l.length:Int))
 | 0,k,acc,h,ha=>by
  refine ai ?_
  unfold g_x.b0
  simp only
  rw[if_neg (dn (by omega)),show k=l.length by omega,List.drop_length]
  simp[pl]
 | d+1,k,acc,h,ha=>by
  have key:g_x.b0 l (acc,(k:Int))=some (.inl (acc++ [(l.getD k default).2],((k+1:Nat):Int))):=by
   unfold g_x.b0
   simp only
   rw[if_pos (decide_eq_true (by omega)),if_pos ⟨by omega,by omega⟩,bf,up1 (by omega),if_pos (by simp; omega)]
  rw[az key,gL hl d (k+1) _ (by omega) (by simp; omega),aM (show k<l.length by omega)]
  simp[pl]
theorem q8 {l:List Mk1} (hl:l.length<1000000):g_x.f l=some (pl l):=by
 unfold g_x.f
 have h1:=gL hl l.length 0 [] (by omega) rfl
 have h1':iter (g_x.b0 l) (([]:List Pl),0)=some (pl l,(l.length:Int)):=by simpa using h1
 rw[h1']; rfl
def lK (n:Int) (l:List Mk1):ST:=(n,tx l,pl l)
theorem add_f {o:List ST} (ho:o.length<900000000) {l:List Mk1} (hl:l.length<1000000) (n:Int):g_11.f o n l=some (o++ [lK n l]):=by
 unfold g_11.f
 rw[text_f hl,q8 hl,Option.bind_some,Option.bind_some,if_pos (by simp; omega)]; rfl
theorem q9: ∀l:List Mk1,tx (lf l)=ltr (tx l)
 | []=>rfl
 | c::l=>by
  unfold lf ltr tx
  rw[List.dropWhile_cons,List.map_cons,List.dropWhile_cons]
  have:gw c=(c.1==32):=rfl
  rw[this]
  split
  ·exact q9 l
  ·rfl
theorem lf_drop (l:List Mk1):lf l=l.drop (l.length-(lf l).length):=by
 have: ∀l:List Mk1,∃a,l=a++lf l:=fun l=>by
  induction l with
  | nil=>exact⟨[],rfl⟩
  | cons c l ih =>
   obtain⟨a,ha⟩:=ih
   unfold lf
   rw[List.dropWhile_cons]
   split
   ·exact⟨c::a,by show c::l=c::(a++lf l); rw[← ha]⟩
   ·exact⟨[],rfl⟩
 obtain⟨a,ha⟩:=this l
 conv=>rhs; rw[ha]
 rw[List.length_append,show a.length+(lf l).length-(lf (a++lf l)).length=a.length by rw[← ha]; omega]
 simp
theorem ra (l:List Mk1):(tx l).length=l.length:=by unfold tx; rw[List.length_map]
theorem rt_take (l:List Mk1):rt l=l.take (rt l).length:=by
 have h:=lf_drop l.reverse
 unfold lf at h
 unfold rt
 rw[List.length_reverse]
 conv=>lhs; rw[h]
 rw[List.length_reverse,List.reverse_drop,List.reverse_reverse,List.length_reverse]
 congr 1
 have:=gx gw l.reverse
 rw[List.length_reverse] at this
 omega
end Go.Proofs.YtjcbhbncncbdjaaGreatDoorAi
namespace Go.Proofs.YtjcbhbncncbdjaaGreatDoorAi
open Go Go.RowKit
set_option linter.unusedVariables false
set_option linter.unusedSimpArgs false
def cols (s:List UInt8) (i:Nat):List Mk1:=(List.range 66).map fun j=>(s.getD (6+j) 32,0,(i:Int),((7+j:Nat):Int))
theorem lL (s:List UInt8) (i:Nat):(cols s i).length=66:=by unfold cols; rw[List.length_map,List.length_range]
theorem jQ {ls:List (List UInt8)} {i:Nat} (hi:i<ls.length) (hs:(ls.getD i default).length<1000000) (ch:List Mk1) (hc:ch.length<100000000): ∀(d j:Nat),j+d=66 →
  iter (g_f.b0 ls (i:Int)) (((7+j:Nat):Int),ch++(List.range j).map fun j=>((ls.getD i default).getD (6+j) 32,0,(i:Int),((7+j:Nat):Int)))=some (73,ch++cols (ls.getD i default) i)
 | 0,j,h=>by
  obtain rfl:j=66:=by omega
  exact ai (by unfold g_f.b0; rfl)
 | d+1,j,h=>by
  have key:g_f.b0 ls (i:Int) (((7+j:Nat):Int),ch++(List.range j).map fun j=>((ls.getD i default).getD (6+j) 32,0,(i:Int),((7+j:Nat):Int)))=some (.inl (((7+(j+1):Nat):Int),ch++(List.range (j+1)).map fun j=>((ls.getD i default).getD (6+j) 32,0,(i:Int),((7+j:Nat):Int)))):=by
   unfold g_f.b0
   simp only
   rw[if_pos (decide_eq_true (by omega)),if_pos ⟨by omega,by omega⟩,bf]
   have hcol:g_a.f (ls.getD i default) ((7+j:Nat):Int)=some ((ls.getD i default).getD (6+j) 32):=by rw[show 7+j=(6+j)+1 by omega]; exact f8 hs _
   rw[hcol,Option.bind_some,if_pos (by simp; omega),up1 (by omega),List.range_succ,List.map_append,List.append_assoc]
   rfl
  rw[az key]
  exact jQ hi hs ch hc d (j+1) (by omega)
theorem rb {ls:List (List UInt8)} {i:Nat} (hi:i<ls.length) (hs:(ls.getD i default).length<1000000) {ch:List Mk1} (hc:ch.length<100000000):g_f.f ls ch (i:Int)=some (ch++cols (ls.getD i default) i):=by
 unfold g_f.f
 have h:=jQ hi hs ch hc 66 0 (by omega)
 have e:((7:Int),ch)=(((7+0:Nat):Int),ch++(List.range 0).map fun j=>((ls.getD i default).getD (6+j) 32,(0:Int),(i:Int),((7+j:Nat):Int))):=by simp
 rw[e,h]; rfl
def dv (c:UInt8):Int:=((c-48).toNat:Int)
theorem lM {c:UInt8} (h:eO c=true):dv c=(c.toNat:Int)-48∧0≤dv c∧dv c≤9:=by
 rw[qX] at h
 have:(c-48).toNat=c.toNat-48:=by
  rw[UInt8.toNat_sub_of_le]
  ·rfl
  ·show(48:UInt8).toNat≤c.toNat; exact h.1
 unfold dv
 rw[this]
 omega
theorem nT {c:UInt8}:IntKind.i64.wrap (((c-48).toNat:Nat):Int)=dv c:=by
 have:=(c-48).toNat_lt
 show w64 _=_
 rw[cE (by omega) (by omega)]; rfl
def lbK (s:List UInt8):Nat→Nat→Int→Nat→Option (Int×Nat)
 | 0,_,v,g=>some (v,g)
 | d+1,k,v,g=>if eO (s.getD k 32)=true then lbK s d (k+1) (10*v+dv (s.getD k 32)) (g+1) else if s.getD k 32=32 then lbK s d (k+1) v g else none
def lab (s:List UInt8):Int×Int:=match lbK s 5 0 0 0 with
 | none=>(0,7)
 | some (v,g)=>(v,if g=0∨0<v then 0 else 2)
theorem i4 {s:List UInt8} (hs:s.length<1000000): ∀(d k:Nat) (v:Int) (g:Nat),k+d=5→0≤v→v<10 ^ k→g≤k →
  ∃r,iter (g_v.b0 s) (v,(g:Int),((k+1:Nat):Int))=some r∧match r with | .inl y=> ∃g':Nat,lbK s d k v g=some (y.1,g')∧y.2.1=(g':Int) | .inr e=>lbK s d k v g=none∧e=(0,7)
 | 0,k,v,g,h,h0,h1,hg=>⟨.inl (v,(g:Int),((k+1:Nat):Int)),ai (by unfold g_v.b0; simp only; rw[if_neg (dn (by omega))]),g,rfl,rfl⟩
 | d+1,k,v,g,h,h0,h1,hg=>by
  have hp:(10:Int) ^ k≤10 ^ 5:=by
   have:(10:Nat) ^ k≤10 ^ 5:=Nat.pow_le_pow_right (by decide) (by omega)
   exact_mod_cast this
  have hp':(10:Int) ^ 5=100000:=by decide
  have key:g_v.b0 s (v,(g:Int),((k+1:Nat):Int))=some (if eO (s.getD k 32)=true then .inl (10*v+dv (s.getD k 32),((g+1:Nat):Int),((k+1+1:Nat):Int)) else if s.getD k 32=32 then .inl (v,(g:Int),((k+1+1:Nat):Int)) else .inr (.inr (0,7))):=by
   unfold g_v.b0
   simp only
   rw[if_pos (decide_eq_true (by omega)),f8 hs,Option.bind_some,iW,Option.bind_some,up1 (n:=k+1) (by omega)]
   cases hd:eO (s.getD k 32)
   ·rw[if_neg (by decide),if_neg (c:=false=true) (by decide),jl]
    by_cases hb:s.getD k 32=32
    ·rw[decide_eq_true hb,if_pos hb]; rfl
    ·rw[decide_eq_false hb,if_neg hb]; rfl
   ·obtain⟨_,d1,d2⟩:=lM hd
    rw[if_pos rfl,if_pos rfl,nT,cE (x:=10*v) (by omega) (by omega),cE (by omega) (by omega),up1 (n:=g) (by omega)]; rfl
  unfold lbK
  cases hd:eO (s.getD k 32)
  ·rw[hd,if_neg (by decide)] at key
   rw[if_neg (by decide)]
   by_cases hb:s.getD k 32=32
   ·rw[if_pos hb] at key ⊢
    obtain⟨r,r1,r2⟩:=i4 hs d (k+1) v g (by omega) h0 (by rw[Int.pow_succ]; omega) (by omega)
    exact⟨r,by rw[az key]; exact r1,r2⟩
   ·rw[if_neg hb] at key ⊢
    exact⟨_,ai key,rfl,rfl⟩
  ·obtain⟨_,d1,d2⟩:=lM hd
   rw[hd,if_pos rfl] at key
   rw[if_pos rfl]
   obtain⟨r,r1,r2⟩:=i4 hs d (k+1) (10*v+dv (s.getD k 32)) (g+1) (by omega) (by omega) (by rw[Int.pow_succ]; omega) (by omega)
   exact⟨r,by rw[az key]; exact r1,r2⟩
theorem oW {s:List UInt8} (hs:s.length<1000000): ∃v,g_v.f s=some (v,(lab s).2)∧((lab s).2=0→v=(lab s).1):=by
 unfold g_v.f lab
 obtain⟨r,r1,r2⟩:=i4 hs 5 0 0 0 rfl (Int.le_refl _) (by decide) (Nat.le_refl _)
 have r1':iter (g_v.b0 s) (0,0,1)=some r:=r1
 rw[r1',Option.bind_some]
 cases r with
 | inr e =>
  obtain⟨q1,q2⟩:=r2
  rw[q1,q2]
  exact⟨0,rfl,fun _=>rfl⟩
 | inl y =>
  obtain⟨g',q1,q2⟩:=r2
  rw[q1]
  show ∃v,Option.bind (g_12.f ((y.2.1==0)||decide (y.1>0)) 2) _=_∧_
  rw[ep,q2]
  simp only[Option.bind_some]
  refine⟨y.1,?_,fun _=>rfl⟩
  have e:((((g':Nat):Int)==0)||decide (y.1>0))=decide (g'=0∨0<y.1):=by
   rw[Bool.eq_iff_iff]; simp
  rw[e]
  by_cases h:g'=0∨0<y.1
  ·rw[if_pos (decide_eq_true h),if_pos h]
  ·rw[if_neg (dn h),if_neg h]
structure Fz where
 o:Bool
 b:Nat
 f:Nat
 lb:Int
 ch:List Mk1
 kd:List Int
 out:List ST
def fxE (x:Fz):Option (List ST):=if x.o=false then some x.out else if rt x.ch= [] then none else some (x.out++ [lK x.lb (rt x.ch)])
def goE (s:List UInt8) (x:Fz):Int:=if x.o=false then 9 else if bl (s.take 5)=false then 3 else if 19<x.f+1 then 8 else 0
def kL (s:List UInt8):Prop:=s.getD 5 32≠32∧s.getD 5 32≠48
instance (s:List UInt8):Decidable (kL s):=inferInstanceAs (Decidable (_∧_))
def fxL (s:List UInt8) (i:Nat) (x:Fz):Except (Nat×Int) Fz :=
 if cm s=true then .ok { x with kd:=x.kd++ [0] }
 else if kL s then
  if goE s x≠0 then .error (i,goE s x) else .ok { x with f:=x.f+1,ch:=x.ch++cols s i,kd:=x.kd++ [2] }
 else match fxE x with
  | none=> .error (x.b,17)
  | some out=>if(lab s).2≠0 then .error (i,(lab s).2) else .ok ⟨true,i,0,(lab s).1,cols s i,x.kd++ [1],out⟩
def fxR:List (List UInt8)→Nat→Fz→Except (Nat×Int) Fz
 | [],_,x=> .ok x
 | s::r,i,x=>match fxL s i x with
  | .error e=> .error e
  | .ok y=>fxR r (i+1) y
def fx0:Fz:=⟨false,0,0,0,[],[],[]⟩
def FX (ls:List (List UInt8)):Except (Nat×Int) (List Int×List ST):=match fxR ls 0 fx0 with
 | .error e=> .error e
 | .ok x=>match fxE x with
  | none=> .error (x.b,17)
  | some out=> .ok (x.kd,out)
structure FxI (x:Fz) (i:Nat):Prop where
 b:x.b≤i
 f:x.f≤19
 ch:x.ch.length≤66*(x.f+1)
 kd:x.kd.length≤i
 out:x.out.length≤i
theorem fxE_len {x:Fz} {o:List ST} (h:fxE x=some o):o.length≤x.out.length+1:=by
 unfold fxE at h
 split at h
 ·obtain rfl:=Option.some.inj h; omega
 ·split at h
  ·cases h
  ·obtain rfl:=Option.some.inj h; simp
theorem fxL_inv {s:List UInt8} {i:Nat} {x y:Fz} (h:FxI x i) (hy:fxL s i x= .ok y):FxI y (i+1):=by
 obtain⟨h1,h2,h3,h4,h5⟩:=h
 unfold fxL at hy
 split at hy
 ·obtain rfl:=Except.ok.inj hy
  exact⟨Nat.le_succ_of_le h1,h2,h3,by simp; omega,Nat.le_succ_of_le h5⟩
 ·split at hy
  ·split at hy
   ·cases hy
   ·rename_i hg
    obtain rfl:=Except.ok.inj hy
    have hf:x.f+1≤19:=by
     unfold goE at hg
     apply Decidable.byContradiction
     intro q
     apply hg
     split
     ·decide
     ·split
      ·decide
      ·rw[if_pos (by omega)]; decide
    exact⟨Nat.le_succ_of_le h1,hf,by simp only[List.length_append,lL]; omega,by simp; omega,Nat.le_succ_of_le h5⟩
  ·split at hy
   ·cases hy
   ·rename_i o ho
    split at hy
    ·cases hy
    ·obtain rfl:=Except.ok.inj hy
     have:=fxE_len ho
     exact⟨by simp only; omega,by simp only; omega,by simp only[lL]; omega,by simp; omega,by simp only; omega⟩
theorem end_f {x:Fz} {i:Nat} (h:FxI x i) (hi:i<1000): ∃y,g_c.f x.out x.o x.lb x.ch=some y∧match fxE x with | none=>y.1=17 | some o=>y.1=0∧y.2.2.2=o:=by
 have h3:=h.ch
 have h5:=h.out
 have h2:=h.f
 unfold g_c.f
 cases ho:x.o
 ·have e:fxE x=some x.out:=by unfold fxE; rw[ho,if_pos rfl]
  rw[e]
  exact⟨_,rfl,rfl,rfl⟩
 ·have e:fxE x=if rt x.ch= [] then none else some (x.out++ [lK x.lb (rt x.ch)]):=by unfold fxE; rw[ho,if_neg (by decide)]
  rw[e,if_neg (by decide),nS (by omega),Option.bind_some]
  have hr:=mJ x.ch
  by_cases hz:rt x.ch= []
  ·rw[if_pos hz,hz]
   exact⟨_,rfl,rfl⟩
  ·have hz': ¬ (((rt x.ch).length:Int)==0)=true:=by simpa using hz
   rw[if_neg hz,if_neg hz',add_f (by omega) (by omega),Option.bind_some]
   exact⟨_,rfl,rfl,rfl⟩
theorem frst3 (a b c:Int):dt [a,b,c]=if a≠0 then a else if b≠0 then b else c:=by
 show(if a≠0 then a else dt [b,c])=_
 rw[frst2]
theorem rc {ls:List (List UInt8)} {i:Nat} (hi:i<ls.length) (hs:(ls.getD i default).length<1000) (h5:5≤(ls.getD i default).length) {x:Fz} (h:FxI x i) (hi':i<1000) :
  g_d.f ls x.kd x.o (x.f:Int) x.ch (i:Int)=some (goE (ls.getD i default) x,((x.f+1:Nat):Int),x.ch++cols (ls.getD i default) i,x.kd++ [2]):=by
 have h2:=h.f
 have h3:=h.ch
 have h4:=h.kd
 have hm:mid (ls.getD i default) (0:Int) 5=(ls.getD i default).take 5:=gv _ 5
 unfold g_d.f
 rw[if_pos (c:=0<ls.length) (by omega)]
 simp only[ep,Option.bind_some]
 rw[if_pos (c:=0≤(i:Int)∧(i:Int)<(ls.length:Int)) ⟨by omega,by omega⟩,bf,if_pos ⟨by omega,by omega,by omega⟩,hm,eJ (by rw[List.length_take]; omega),rb hi (by omega) (by omega),up1 (by omega)]
 simp only[ep,Option.bind_some]
 rw[dC (by show 3<1000; decide),frst3,Option.bind_some,if_pos (by simp; omega)]
 congr 2
 unfold goE
 cases x.o
 ·rfl
 ·cases bl ((ls.getD i default).take 5)
  ·rfl
  ·by_cases hf:19<x.f+1
   ·rw[if_neg (c:=decide _=true) (dn (by omega)),if_pos hf]; rfl
   ·rw[if_pos (c:=decide _=true) (decide_eq_true (by omega)),if_neg hf]; rfl
abbrev FxT:Type:=Int×Bool×Int×Int×Int×List Mk1×List Int×List ST
def lN (x:Fz) (i:Nat):FxT:=((i:Int),x.o,(x.b:Int),(x.f:Int),x.lb,x.ch,x.kd,x.out)
theorem fx_step {n:List UInt8} {ls:List (List UInt8)} (hF:Few n ls) {i:Nat} (hi:i<ls.length) {x:Fz} (h:FxI x i) :
  ∃r,g_e.b0 ls (lN x i)=some r∧match fxL (ls.getD i default) i x with | .ok y=>r= .inl (lN y (i+1)) | .error e=> ∃g,r= .inr (.inr ((e.1:Int),e.2,g))∧e.2≠0:=by
 have hs:=hF.at hi
 have hl:=hF.l
 have h4:=h.kd
 unfold g_e.b0 lN fxL
 simp only
 rw[if_pos (decide_eq_true (by omega)),if_pos ⟨by omega,by omega⟩,bf,lI (by omega),Option.bind_some,up1 (by omega)]
 cases hc:cm (ls.getD i default)
 ·rw[if_neg (by decide),if_neg (by decide)]
  have h6:g_a.f (ls.getD i default) 6=some ((ls.getD i default).getD 5 32):=f8 (by omega) 5
  rw[h6,Option.bind_some,jl,jl]
  by_cases hm:kL (ls.getD i default)
  ·rw[if_pos (by rw[decide_eq_false hm.1,decide_eq_false hm.2]; rfl),if_pos hm]
   have h5:5≤(ls.getD i default).length:=by
    apply Decidable.byContradiction
    intro q
    apply hm.1
    rw[List.getD_eq_getElem?_getD,List.getElem?_eq_none (by omega)]; rfl
   rw[rc hi hs h5 h (by omega),Option.bind_some]
   simp only
   by_cases hg:goE (ls.getD i default) x=0
   ·rw[if_neg (by rw[hg]; decide),if_neg (c:=goE (ls.getD i default) x≠0) (fun q=>q hg)]
    exact⟨_,rfl,rfl⟩
   ·rw[if_pos (by simpa using hg),if_pos hg]
    exact⟨_,rfl,_,rfl,hg⟩
  ·rw[if_neg (by
    unfold kL at hm
    intro q
    rw[Bool.and_eq_true,Bool.not_eq_true',Bool.not_eq_true',decide_eq_false_iff_not,decide_eq_false_iff_not] at q
    exact hm q),if_neg hm]
   obtain⟨y,y1,y2⟩:=end_f h (by omega)
   rw[y1,Option.bind_some]
   cases ho:fxE x with
   | none =>
    rw[ho] at y2
    have y2:y.1=17:=y2
    rw[if_pos (by rw[y2]; decide)]
    exact⟨_,rfl,_,by rw[y2],by show(17:Int)≠0; decide⟩
   | some o =>
    rw[ho] at y2
    obtain⟨y2,y3⟩:=y2
    rw[if_neg (by rw[y2]; decide)]
    obtain⟨v,v1,v2⟩:=oW (s:=ls.getD i default) (by omega)
    rw[v1,Option.bind_some]
    simp only
    by_cases hz:(lab (ls.getD i default)).2=0
    ·rw[if_neg (by rw[hz]; decide),if_neg (c:=(lab (ls.getD i default)).2≠0) (fun q=>q hz),if_pos (by simp; omega),rb hi (by omega) (by simp),Option.bind_some]
     rw[v2 hz,y3]
     exact⟨_,rfl,rfl⟩
    ·rw[if_pos (by simpa using hz),if_pos hz]
     exact⟨_,rfl,_,rfl,hz⟩
 ·rw[if_pos rfl,if_pos rfl,if_pos (by simp; omega)]
  exact⟨_,rfl,rfl⟩
theorem nU {n:List UInt8} {ls:List (List UInt8)} (hF:Few n ls): ∀(d i:Nat) (x:Fz),i+d=ls.length→FxI x i →
  ∃r,iter (g_e.b0 ls) (lN x i)=some r∧match fxR (ls.drop i) i x with | .ok y=>r= .inl (lN y ls.length)∧FxI y ls.length | .error e=> ∃g,r= .inr ((e.1:Int),e.2,g)∧e.2≠0
 | 0,i,x,h,hI=>by
  obtain rfl:i=ls.length:=by omega
  refine⟨.inl (lN x ls.length),ai ?_,?_⟩
  ·unfold g_e.b0 lN
   simp only
   rw[if_neg (dn (by omega))]
  ·rw[List.drop_length]
   exact⟨rfl,hI⟩
 | d+1,i,x,h,hI=>by
  obtain⟨r,r1,r2⟩:=fx_step hF (i:=i) (by omega) hI
  rw[aM (show i<ls.length by omega)]
  unfold fxR
  cases hx:fxL (ls.getD i default) i x with
  | error e =>
   rw[hx] at r2
   obtain⟨g,rfl,hg⟩:=r2
   exact⟨_,ai r1,g,rfl,hg⟩
  | ok y =>
   rw[hx] at r2
   have r2:r= .inl (lN y (i+1)):=r2
   subst r2
   obtain⟨r',q1,q2⟩:=nU hF d (i+1) y (by omega) (fxL_inv hI hx)
   exact⟨r',by rw[az r1]; exact q1,q2⟩
theorem lO {n:List UInt8} {ls:List (List UInt8)} (hF:Few n ls): ∃r,g_e.f ls [] [] false 0 0 0 []=some r∧match FX ls with | .error e=>r.1=(e.1:Int)∧r.2.1=e.2∧e.2≠0 | .ok y=>r.2.1=0∧r.2.2.2.2.2.2.2.1=y.1∧r.2.2.2.2.2.2.2.2=y.2:=by
 obtain⟨r,r1,r2⟩:=nU hF ls.length 0 fx0 (by omega) ⟨by decide,by decide,by decide,by decide,by decide⟩
 have r1':iter (g_e.b0 ls) (0,false,0,0,0,[],[],[])=some r:=r1
 unfold g_e.f
 rw[r1',Option.bind_some]
 rw[List.drop_zero] at r2
 cases hx:fxR ls 0 fx0 with
 | error e =>
  rw[hx] at r2
  obtain⟨g,rfl,hg⟩:=r2
  have eF:FX ls= .error e:=by unfold FX; rw[hx]
  rw[eF]
  exact⟨_,rfl,rfl,rfl,hg⟩
 | ok x =>
  rw[hx] at r2
  obtain⟨rfl,hI⟩:=r2
  obtain⟨y,y1,y2⟩:=end_f hI hF.l
  show ∃r,Option.bind (g_c.f x.out x.o x.lb x.ch) _=_∧_
  rw[y1,Option.bind_some]
  refine⟨_,rfl,?_⟩
  cases ho:fxE x with
  | none =>
   have eF:FX ls= .error (x.b,17):=by unfold FX; rw[hx]; simp only[ho]
   rw[ho] at y2
   rw[eF]
   exact⟨rfl,y2,by show(17:Int)≠0; decide⟩
  | some o =>
   have eF:FX ls= .ok (x.kd,o):=by unfold FX; rw[hx]; simp only[ho]
   rw[ho] at y2
   rw[eF]
   exact⟨y2.1,rfl,y2.2⟩
end Go.Proofs.YtjcbhbncncbdjaaGreatDoorAi
namespace Go.Proofs.YtjcbhbncncbdjaaGreatDoorAi
open Go Go.RowKit
set_option linter.unusedVariables false
set_option linter.unusedSimpArgs false
theorem mL (a b c d e v:Int):g_n.f a b c d e 0 v=some (if a=0 then v else a,b,c,d,e):=by
 unfold g_n.f
 by_cases h:a=0
 ·subst h; rfl
 ·have:(a==0)=false:=by simpa using h
  rw[if_neg h]; simp[this]
theorem wrong1 (a b c d e v:Int):g_n.f a b c d e 1 v=some (a,if b=0 then v else b,c,d,e):=by
 unfold g_n.f
 by_cases h:b=0
 ·subst h; rfl
 ·have:(b==0)=false:=by simpa using h
  rw[if_neg h]; simp[this]
theorem wrong2 (a b c d e v:Int):g_n.f a b c d e 2 v=some (a,b,if c=0 then v else c,d,e):=by
 unfold g_n.f
 by_cases h:c=0
 ·subst h; rfl
 ·have:(c==0)=false:=by simpa using h
  rw[if_neg h]; simp[this]
theorem wrong3 (a b c d e v:Int):g_n.f a b c d e 3 v=some (a,b,c,if d=0 then v else d,e):=by
 unfold g_n.f
 by_cases h:d=0
 ·subst h; rfl
 ·have:(d==0)=false:=by simpa using h
  rw[if_neg h]; simp[this]
theorem re (a b c d e v:Int):g_n.f a b c d e 4 v=some (a,b,c,d,if e=0 then v else e):=by
 unfold g_n.f
 by_cases h:e=0
 ·subst h; rfl
 ·have:(e==0)=false:=by simpa using h
  rw[if_neg h]; simp[this]
def dgs:List Mk1→Nat
 | []=>0
 | m::l=>if eO m.1=true then dgs l+1 else 0
theorem rf: ∀l:List Mk1,dgs l≤l.length
 | []=>Nat.le_refl _
 | m::l=>by
  unfold dgs
  have:=rf l
  split
  ·simp; omega
  ·omega
theorem lP {l:List Mk1} (hl:l.length<1000000): ∀(d k:Nat),k+d=l.length→iter (g_j.b0 l) (k:Int)=some ((k+dgs (l.drop k):Nat):Int)
 | 0,k,h=>by
  rw[show k=l.length by omega,List.drop_length]
  exact ai (by unfold g_j.b0; rw[if_neg (dn (by omega))]; rfl)
 | d+1,k,h=>by
  have key:g_j.b0 l (k:Int)=some (if eO (l.getD k default).1=true then .inl ((k+1:Nat):Int) else .inr (k:Int)):=by
   unfold g_j.b0
   rw[if_pos (decide_eq_true (by omega)),if_pos ⟨by omega,by omega⟩,bf,iW,up1 (by omega)]
   cases eO (l.getD k default).1<;>rfl
  rw[aM (show k<l.length by omega)]
  unfold dgs
  cases hd:eO (l.getD k default).1
  ·rw[hd] at key
   rw[ai key]; rfl
  ·rw[hd] at key
   rw[az key,if_pos rfl,lP hl d (k+1) (by omega)]
   congr 2; omega
theorem kM: ∀(l:List Mk1) (k:Nat),k<dgs l→eO (l.getD k default).1=true
 | [],k,h=>absurd h (by unfold dgs; omega)
 | m::l,k,h=>by
  unfold dgs at h
  split at h
  ·rename_i hm
   cases k with
   | zero=>exact hm
   | succ k=>exact kM l k (by omega)
  ·omega
def vlD:List Mk1→Int→Int
 | [],v=>v
 | m::l,v=>vlD l (10*v+dv m.1)
theorem rg {y9:List Mk1} {n:Nat} (hn:n≤5) (hle:n≤y9.length) (hd: ∀k,k<n→eO (y9.getD k default).1=true): ∀(d k:Nat) (v:Int),k+d=n→0≤v→v<10 ^ k →
  iter (g_j.b1 y9 (n:Int)) (v,(k:Int))=some (vlD ((y9.take n).drop k) v,(n:Int)):=by
 have hm:mid y9 (0:Int) (n:Int)=y9.take n:=gv _ n
 have hlen:(y9.take n).length=n:=by rw[List.length_take]; omega
 intro d
 induction d with
 | zero =>
  intro k v h _ _
  rw[show k=n by omega]
  refine ai ?_
  unfold g_j.b1
  simp only
  rw[hm,hlen,if_neg (dn (by omega)),List.drop_eq_nil_of_le (by omega)]; rfl
 | succ d ih =>
  intro k v h h0 h1
  have hk:k<(y9.take n).length:=by omega
  have hp:(10:Int) ^ k≤10 ^ 5:=by
   have:(10:Nat) ^ k≤10 ^ 5:=Nat.pow_le_pow_right (by decide) (by omega)
   exact_mod_cast this
  have hp':(10:Int) ^ 5=100000:=by decide
  have eg:(y9.take n).getD k default=y9.getD k default:=by
   rw[List.getD_eq_getElem?_getD,List.getElem?_take,if_pos (by omega),List.getD_eq_getElem?_getD]
  obtain⟨_,d1,d2⟩:=lM (hd k (by omega))
  have key:g_j.b1 y9 (n:Int) (v,(k:Int))=some (.inl (10*v+dv (y9.getD k default).1,((k+1:Nat):Int))):=by
   unfold g_j.b1
   simp only
   rw[hm,hlen,if_pos (decide_eq_true (by omega)),if_pos ⟨by omega,by omega⟩,bf,eg,nT,cE (x:=10*v) (by omega) (by omega),cE (by omega) (by omega),up1 (by omega)]
  rw[az key,ih (k+1) _ (by omega) (by omega) (by rw[Int.pow_succ]; omega)]
  conv=>rhs; rw[aM hk,eg]
  rfl
def enL (ch:List Mk1):Int×List Mk1×Int :=
 let l:=rt (lf ch)
 if 1≤dgs l∧dgs l≤5∧dgs l<l.length∧(l.getD (dgs l) default).1=32 then(vlD (l.take (dgs l)) 0,lf (l.drop (dgs l)),if vlD (l.take (dgs l)) 0=0 then 2 else 0) else(0,l,0)
def enE (ch:List Mk1):Int:=if(enL ch).2.2≠0 then(enL ch).2.2 else if 1320<(enL ch).2.1.length then 8 else 0
def enO (ch:List Mk1) (out:List ST):List ST:=if(enL ch).2.1= [] then out else out++ [lK (enL ch).1 (enL ch).2.1]
theorem enL_len (ch:List Mk1):(enL ch).2.1.length≤ch.length:=by
 have h1:=mJ (lf ch)
 have h2:=mK ch
 unfold enL
 simp only
 split
 ·have h3:=mK ((rt (lf ch)).drop (dgs (rt (lf ch))))
  rw[List.length_drop] at h3
  simp only; omega
 ·simp only; omega
theorem enO_len (ch:List Mk1) (out:List ST):(enO ch out).length≤out.length+1:=by
 unfold enO
 split
 ·omega
 ·simp
theorem mM {ch:List Mk1} (hc:ch.length<1000000) {out:List ST} (ho:out.length<900000000) (a b c d e:Int) :
  g_j.f out ch a b c d e=some ([],0,a,b,c,d,if e≠0 then e else enE ch,enO ch out):=by
 have h1:=mJ (lf ch)
 have h2:=mK ch
 have hL: ∃e',g_j.f out ch a b c d e=(if(((enL ch).2.1.length:Int)==0)=true then some ([],0,a,b,c,d,e',out) else Option.bind (if(decide (((enL ch).2.1.length:Int)>1320))=true then some (a,b,c,d,if e'=0 then 8 else e') else some (a,b,c,d,e')) fun z91=>Option.bind (g_11.f out (enL ch).1 (enL ch).2.1) fun y95=>some ([],0,z91.1,z91.2.1,z91.2.2.1,z91.2.2.2.1,z91.2.2.2.2,y95))∧e'=if e≠0 then e else(enL ch).2.2:=by
  unfold g_j.f enL
  rw[mI,Option.bind_some,nS (by omega),Option.bind_some]
  have hd:=lP (l:=rt (lf ch)) (by omega) (rt (lf ch)).length 0 (by omega)
  rw[List.drop_zero,Nat.zero_add] at hd
  have hd':iter (g_j.b0 (rt (lf ch))) 0=some ((dgs (rt (lf ch)):Nat):Int):=hd
  rw[hd',Option.bind_some]
  have hdl:=rf (rt (lf ch))
  generalize hl:rt (lf ch)=l at *
  simp only
  have hw:g_13.f ((dgs l:Nat):Int) 1 5=some (decide (1≤dgs l)&&decide (dgs l≤5)):=by
   unfold g_13.f
   congr 1
   congr 1
   ·exact decide_eq_decide.2 (by omega)
   ·exact decide_eq_decide.2 (by omega)
  rw[hw,Option.bind_some]
  have hcond:Option.bind (if((decide (1≤dgs l)&&decide (dgs l≤5))&&decide (((dgs l:Nat):Int)<(l.length:Int)))=true then(if 0≤((dgs l:Nat):Int)∧((dgs l:Nat):Int)<(l.length:Int) then some ((((gt l ((dgs l:Nat):Int)).1).toNat:Int)==((32:UInt8).toNat:Int)) else none) else some false) (fun z=>some z)=some (decide (1≤dgs l∧dgs l≤5∧dgs l<l.length∧(l.getD (dgs l) default).1=32)):=by
   by_cases g1:1≤dgs l∧dgs l≤5∧dgs l<l.length
   ·rw[if_pos (by rw[Bool.and_eq_true,Bool.and_eq_true,decide_eq_true_eq,decide_eq_true_eq,decide_eq_true_eq]; exact⟨⟨g1.1,g1.2.1⟩,by omega⟩),if_pos ⟨by omega,by omega⟩,bf,f6,Option.bind_some]
    congr 1
    exact decide_eq_decide.2 ⟨fun q=>⟨g1.1,g1.2.1,g1.2.2,q⟩,fun q=>q.2.2.2⟩
   ·rw[if_neg (by rw[Bool.and_eq_true,Bool.and_eq_true,decide_eq_true_eq,decide_eq_true_eq,decide_eq_true_eq]; intro q; exact g1 ⟨q.1.1,q.1.2,by omega⟩),decide_eq_false (fun q=>g1 ⟨q.1,q.2.1,q.2.2.1⟩)]; rfl
  have hc2:=Option.bind_eq_some_iff.1 hcond
  obtain⟨z,z1,z2⟩:=hc2
  obtain rfl:=Option.some.inj z2
  rw[z1,Option.bind_some]
  by_cases g:1≤dgs l∧dgs l≤5∧dgs l<l.length∧(l.getD (dgs l) default).1=32
  ·have hv:=rg (y9:=l) (n:=dgs l) g.2.1 hdl (kM l) (dgs l) 0 0 (by omega) (Int.le_refl _) (by decide)
   rw[List.drop_zero] at hv
   have hv':iter (g_j.b1 l ((dgs l:Nat):Int)) (0,0)=some (vlD (l.take (dgs l)) 0,((dgs l:Nat):Int)):=hv
   rw[if_pos (decide_eq_true g),if_pos g,if_pos ⟨by omega,by omega,by omega⟩,hv',Option.bind_some,eI]
   simp only[re,mI,Option.bind_some]
   by_cases hz:vlD (l.take (dgs l)) 0=0
   ·rw[if_pos (by rw[hz]; rfl),if_pos hz,Option.bind_some,if_pos ⟨by omega,by omega,by omega⟩]
    refine⟨if e=0 then 2 else e,rfl,?_⟩
    by_cases he:e=0
    ·rw[if_pos he,if_neg (fun q=>q he)]
    ·rw[if_neg he,if_pos he]
   ·rw[if_neg (by simpa using hz),if_neg hz,Option.bind_some,if_pos ⟨by omega,by omega,by omega⟩]
    refine⟨e,rfl,?_⟩
    by_cases he:e=0
    ·rw[if_neg (fun q=>q he),he]
    ·rw[if_pos he]
  ·rw[if_neg (dn g),if_neg g]
   simp only[re,Option.bind_some]
   refine⟨e,rfl,?_⟩
   by_cases he:e=0
   ·rw[if_neg (fun q=>q he),he]
   ·rw[if_pos he]
 obtain⟨e',h3,h4⟩:=hL
 rw[h3]
 have hlen:=enL_len ch
 unfold enO enE
 by_cases hz:(enL ch).2.1= []
 ·rw[if_pos (by rw[hz]; rfl),if_pos hz,h4,hz]
  by_cases he:e=0
  ·rw[if_neg (fun q=>q he),if_neg (fun q=>q he)]
   by_cases h5:(enL ch).2.2=0
   ·rw[if_neg (fun q=>q h5),h5]; rfl
   ·rw[if_pos h5]
  ·rw[if_pos he,if_pos he]
 ·have hz': ¬ (((enL ch).2.1.length:Int)==0)=true:=by simpa using hz
  rw[if_neg hz',if_neg hz,add_f ho (by omega)]
  by_cases h6:1320<(enL ch).2.1.length
  ·rw[if_pos (decide_eq_true (by omega)),Option.bind_some,Option.bind_some,if_pos h6,h4]
   by_cases he:e=0<;>by_cases h5:(enL ch).2.2=0<;>simp[he,h5]
  ·rw[if_neg (dn (by omega)),Option.bind_some,Option.bind_some,if_neg h6,h4]
   by_cases he:e=0<;>by_cases h5:(enL ch).2.2=0<;>simp[he,h5]
structure Rw where
 ch:List Mk1
 q:UInt8
 f:Nat
 st:Bool
 out:List ST
 e:Int
def i6 (x:Rw) (c:UInt8):Bool:=decide (c≠32)&&decide (lf x.ch= [])
def eP (x:Rw) (c:UInt8) (i a:Nat) (q:UInt8):Rw:=⟨(if i6 x c=true then [] else x.ch)++ [(c,0,(i:Int),((a+1:Nat):Int))],q,x.f,if i6 x c=true then true else x.st,x.out,x.e⟩
def f9 (x:Rw):Rw:=⟨[],x.q,0,x.st,enO x.ch x.out,if x.e≠0 then x.e else enE x.ch⟩
def isQ (c:UInt8):Bool:=decide (c=39)||decide (c=34)
def i9 (r:List UInt8):Bool:=decide (ltr r= [])||decide ((ltr r).getD 0 default=33)
def bY (i:Nat):List UInt8→Nat→Rw→Rw×Bool×Bool
 | [],_,x=>(x,false,false)
 | c::r,a,x =>
  if x.q≠0 then
   if c=38∧bl r=true then(x,true,false) else bY i r (a+1) (eP x c i a (if c=x.q then 0 else x.q))
  else if c=33 then(x,false,false)
  else if c=59 then bY i r (a+1) (f9 x)
  else if c=38 then(if i9 r=true then(x,true,false) else(x,false,true))
  else bY i r (a+1) (eP x c i a (if isQ c=true then c else 0))
structure RwI (x:Rw) (i a:Nat):Prop where
 ch:x.ch.length≤1000*i+a
 out:x.out.length≤1001*i+a
 f:x.f≤1000
theorem put_f {ls:List (List UInt8)} {i a:Nat} (hi:i<ls.length) (ha:a<(ls.getD i default).length) (ha':a<1000) (hi':i<1000) {x:Rw} (h:RwI x i a) (q:UInt8) :
  g_l.f ls x.ch x.st (i:Int) (a:Int)=some ((eP x ((ls.getD i default).getD a default) i a q).ch,(eP x ((ls.getD i default).getD a default) i a q).st):=by
 have hc:=h.ch
 unfold g_l.f eP i6
 rw[if_pos ⟨by omega,by omega⟩,bf,if_pos ⟨by omega,by omega⟩,bf,jl,up1 (by omega),mI]
 by_cases h1:(ls.getD i default).getD a default=32
 ·rw[decide_eq_true h1,if_neg (by decide),Option.bind_some,if_pos (by simp; omega),decide_eq_false (by simpa using h1),Bool.false_and]; rfl
 ·rw[decide_eq_false h1,if_pos (by decide),Option.bind_some,decide_eq_true h1,Bool.true_and]
  by_cases h2:lf x.ch= []
  ·rw[h2]; rfl
  ·have h2': ¬ (((lf x.ch).length:Int)==0)=true:=by simpa using h2
   rw[if_neg h2',Option.bind_some,if_pos (by simp; omega),decide_eq_false h2]; rfl
theorem lQ {x:Rw} {i a:Nat} (h:RwI x i a) (c q:UInt8):RwI (eP x c i a q) i (a+1):=by
 obtain⟨h1,h2,h3⟩:=h
 refine⟨?_,by unfold eP; simp only; omega,h3⟩
 unfold eP
 simp only[List.length_append,List.length_cons,List.length_nil]
 split
 ·simp only[List.length_nil]; omega
 ·omega
theorem lR {x:Rw} {i a:Nat} (h:RwI x i a):RwI (f9 x) i (a+1):=by
 obtain⟨h1,h2,h3⟩:=h
 have:=enO_len x.ch x.out
 exact⟨by unfold f9; simp,by unfold f9; simp only; omega,by unfold f9; simp⟩
end Go.Proofs.YtjcbhbncncbdjaaGreatDoorAi
namespace Go.Proofs.YtjcbhbncncbdjaaGreatDoorAi
open Go Go.RowKit
set_option linter.unusedVariables false
set_option linter.unusedSimpArgs false
abbrev LnT:Type:=Int×List Mk1×UInt8×Bool×Int×Bool×Int×Int×Int×Int×Int×List ST
def ga (x:Rw) (a:Nat) (g:Bool) (e0 e1 e2 e3:Int):LnT:=((a:Int),x.ch,x.q,g,(x.f:Int),x.st,e0,e1,e2,e3,x.e,x.out)
theorem nxt_f (r:List UInt8):(if decide (ltr r= [])=true then some true else(if 0≤(0:Int)∧(0:Int)<((ltr r).length:Int) then some (((gt (ltr r) (0:Int)).toNat:Int)==((33:UInt8).toNat:Int)) else none))=some (i9 r):=by
 unfold i9
 cases h:ltr r with
 | nil=>rfl
 | cons c l =>
  rw[if_neg (by simp),if_pos ⟨Int.le_refl _,by simp⟩,show(0:Int)=((0:Nat):Int) from rfl,bf,f6]; rfl
theorem oX {ls:List (List UInt8)} {i a:Nat} (hi:i<ls.length) (hi':i<1000) (hs:(ls.getD i default).length<1000) (ha:a<(ls.getD i default).length) {x:Rw} (h:RwI x i a) (e0 e2 e3:Int) :
  g_k.b0 ls (i:Int) (ga x a false e0 0 e2 e3)=some (
   let c:=(ls.getD i default).getD a default
   let r:=(ls.getD i default).drop (a+1)
   if x.q≠0 then
    if c=38∧bl r=true then .inr (ga x a true e0 0 e2 e3) else .inl (ga (eP x c i a (if c=x.q then 0 else x.q)) (a+1) false e0 0 e2 e3)
   else if c=33 then .inr (ga x a false e0 0 e2 e3)
   else if c=59 then .inl (ga (f9 x) (a+1) false e0 0 e2 e3)
   else if c=38 then(if i9 r=true then .inr (ga x a true e0 0 e2 e3) else .inr (ga x a false e0 7 e2 e3))
   else .inl (ga (eP x c i a (if isQ c=true then c else 0)) (a+1) false e0 0 e2 e3)):=by
 have hch:=h.ch
 have hout:=h.out
 unfold g_k.b0 ga g_i.f
 simp only
 rw[bf,if_pos (decide_eq_true (by omega)),if_pos ⟨by omega,by omega⟩,if_pos ⟨by omega,by omega⟩,up1 (by omega),if_pos ⟨by omega,by omega,Int.le_refl _⟩,bf,eI]
 have hp:=fun q=>put_f hi ha (by omega) hi' h q
 have hb:g_o.f ((ls.getD i default).drop (a+1))=some (bl ((ls.getD i default).drop (a+1))):=eJ (by rw[List.length_drop]; omega)
 generalize hc:(ls.getD i default).getD a default=c at *
 generalize hr:(ls.getD i default).drop (a+1)=r at *
 by_cases hq:x.q=0
 ·have hq2: ¬ (x.q≠0):=fun k=>k hq
  rw[jl,decide_eq_true hq,if_neg (by decide),if_neg hq2,f6,f6,f6]
  by_cases h33:c=33
  ·rw[decide_eq_true h33,if_pos rfl,if_pos h33]; rfl
  ·rw[decide_eq_false h33,if_neg (by decide),if_neg h33]
   by_cases h59:c=59
   ·rw[decide_eq_true h59,if_pos rfl,if_pos h59,mM (by omega) (by omega)]
    rfl
   ·rw[decide_eq_false h59,if_neg (by decide),if_neg h59]
    by_cases h38:c=38
    ·rw[decide_eq_true h38,if_pos rfl,if_pos h38,iZ,Option.bind_some,nxt_f,Option.bind_some]
     cases i9 r
     ·rw[if_neg (by decide),wrong1,Option.bind_some]; rfl
     ·rfl
    ·rw[decide_eq_false h38,if_neg (by decide),if_neg h38,hp (if isQ c=true then c else 0),Option.bind_some]
     unfold g_s.f
     rw[f6,f6,Option.bind_some]
     show Option.bind (if isQ c=true then _ else _) _=_
     cases isQ c
     ·simp only[Bool.false_eq_true,if_false,Option.bind_some,if_true]
      rw[hq]; rfl
     ·rfl
 ·rw[jl,decide_eq_false hq,if_pos (by decide),if_pos hq,f6,f6]
  by_cases h38:c=38
  ·rw[decide_eq_true h38,if_pos rfl,hb,Option.bind_some,Option.bind_some]
   cases bl r
   ·rw[if_neg (by decide),if_neg (fun k=>by cases k.2),hp (if c=x.q then 0 else x.q),Option.bind_some]
    by_cases h5:c=x.q
    ·rw[decide_eq_true h5,if_pos rfl,Option.bind_some,if_pos rfl]
     rw[if_pos h5]; rfl
    ·rw[decide_eq_false h5,if_neg (by decide),Option.bind_some,if_pos rfl]
     rw[if_neg h5]; rfl
   ·rw[if_pos rfl,if_pos ⟨h38,rfl⟩]; rfl
  ·rw[decide_eq_false h38,if_neg (by decide),Option.bind_some,if_neg (by decide),if_neg (fun k=>h38 k.1),hp (if c=x.q then 0 else x.q),Option.bind_some]
   by_cases h5:c=x.q
   ·rw[decide_eq_true h5,if_pos rfl,Option.bind_some,if_pos rfl]
    rw[if_pos h5]; rfl
   ·rw[decide_eq_false h5,if_neg (by decide),Option.bind_some,if_pos rfl]
    rw[if_neg h5]; rfl
theorem jR {ls:List (List UInt8)} {i:Nat} (hi:i<ls.length) (hi':i<1000) (hs:(ls.getD i default).length<1000) (e0 e2 e3:Int): ∀(d a:Nat) (x:Rw),a+d=(ls.getD i default).length→RwI x i a →
  ∃a',iter (g_k.b0 ls (i:Int)) (ga x a false e0 0 e2 e3)=some (ga (bY i ((ls.getD i default).drop a) a x).1 a' (bY i ((ls.getD i default).drop a) a x).2.1 e0 (if(bY i ((ls.getD i default).drop a) a x).2.2=true then 7 else 0) e2 e3)∧RwI (bY i ((ls.getD i default).drop a) a x).1 i (ls.getD i default).length
 | 0,a,x,h,hI=>by
  rw[List.drop_eq_nil_of_le (by omega)]
  refine⟨a,ai ?_,by unfold bY; simp only; rw[show a=(ls.getD i default).length by omega] at hI; exact hI⟩
  unfold g_k.b0 ga bY
  simp only
  rw[bf,if_neg (dn (by omega))]; rfl
 | d+1,a,x,h,hI=>by
  have key:=oX hi hi' hs (a:=a) (by omega) hI e0 e2 e3
  simp only at key
  have hup: ∀{y:Rw},RwI y i a→RwI y i (ls.getD i default).length:=fun q=>⟨by have:=q.ch; omega,by have:=q.out; omega,q.f⟩
  rw[aM (show a<(ls.getD i default).length by omega)]
  generalize hc:(ls.getD i default).getD a default=c at *
  have ih:=fun y (hy:RwI y i (a+1))=>jR hi hi' hs e0 e2 e3 d (a+1) y (by omega) hy
  unfold bY
  by_cases hq:x.q=0
  ·have hq2: ¬ (x.q≠0):=fun k=>k hq
   rw[if_neg hq2] at key ⊢
   by_cases h33:c=33
   ·rw[if_pos h33] at key ⊢
    exact⟨a,ai key,hup hI⟩
   ·rw[if_neg h33] at key ⊢
    by_cases h59:c=59
    ·rw[if_pos h59] at key ⊢
     obtain⟨a',i1,i2⟩:=ih _ (lR hI)
     exact⟨a',by rw[az key]; exact i1,i2⟩
    ·rw[if_neg h59] at key ⊢
     by_cases h38:c=38
     ·rw[if_pos h38] at key ⊢
      cases hn:i9 ((ls.getD i default).drop (a+1))
      ·rw[hn,if_neg (by decide)] at key
       rw[if_neg (by decide)]
       exact⟨a,ai key,hup hI⟩
      ·rw[hn,if_pos rfl] at key
       rw[if_pos rfl]
       exact⟨a,ai key,hup hI⟩
     ·rw[if_neg h38] at key ⊢
      obtain⟨a',i1,i2⟩:=ih _ (lQ hI c (if isQ c=true then c else 0))
      exact⟨a',by rw[az key]; exact i1,i2⟩
  ·rw[if_pos hq] at key ⊢
   by_cases hb:c=38∧bl ((ls.getD i default).drop (a+1))=true
   ·rw[if_pos hb] at key ⊢
    exact⟨a,ai key,hup hI⟩
   ·rw[if_neg hb] at key ⊢
    obtain⟨a',i1,i2⟩:=ih _ (lQ hI c (if c=x.q then 0 else x.q))
    exact⟨a',by rw[az key]; exact i1,i2⟩
theorem nV {s:List UInt8} (hs:s.all (shw 32)=true): ∀(d k:Nat),k+d=s.length→(s.take k).all (· == 32)=true →
  ∃r,iter (g_1a.b0 s true) k=some r∧(match r with | .inl _=>(-1:Int) | .inr e=>e)=if ltr s= [] then -1 else((s.length-(ltr s).length:Nat):Int)
 | 0,k,h,hb=>by
  refine⟨.inl k,ai (by unfold g_1a.b0; rw[if_neg (dn (by omega))]),?_⟩
  rw[show k=s.length by omega,List.take_length] at hb
  have:ltr s= []:=iY.2 (List.all_eq_true.1 hb)
  rw[if_pos this]
 | d+1,k,h,hb=>by
  have hk:k<s.length:=by omega
  have h128:(s.getD k default).toNat<128:=by
   have:=(List.all_eq_true.1 hs) (s.getD k default) (by rw[List.getD_eq_getElem?_getD,List.getElem?_eq_getElem hk]; exact List.getElem_mem hk)
   unfold shw at this
   rw[Bool.and_eq_true,decide_eq_true_eq,decide_eq_true_eq] at this
   omega
  have key:g_1a.b0 s true k=some (if s.getD k default=32 then .inl (k+1) else .inr (.inr (k:Int))):=by
   unfold g_1a.b0 g_h.f
   rw[if_pos (decide_eq_true hk),qY h128,Option.bind_some]
   by_cases h0:s.getD k default=32
   ·rw[if_pos h0,h0]; rfl
   ·rw[if_neg h0]
    have:(((s.getD k default).toNat:Int) != 32)=true:=by
     rw[bne_iff_ne]
     intro q
     exact h0 (UInt8.toNat_inj.1 (by show(s.getD k default).toNat=32; omega))
    rw[this]; rfl
  have et:s.take (k+1)=s.take k++ [s.getD k default]:=by
   rw[List.take_succ_eq_append_getElem hk,List.getD_eq_getElem?_getD,List.getElem?_eq_getElem hk]; rfl
  by_cases h0:s.getD k default=32
  ·rw[if_pos h0] at key
   obtain⟨r,r1,r2⟩:=nV hs d (k+1) (by omega) (by rw[et,List.all_append,hb,h0]; rfl)
   exact⟨r,by rw[az key]; exact r1,r2⟩
  ·rw[if_neg h0] at key
   refine⟨_,ai key,?_⟩
   have e1:ltr s=s.drop k:=by
    conv=>lhs; rw[← List.take_append_drop k s]
    unfold ltr
    rw[List.dropWhile_append_of_pos (fun x hx=>(List.all_eq_true.1 hb) x hx),aM hk,List.dropWhile_cons,if_neg (by simpa using h0)]
   have e2:ltr s≠ []:=by rw[e1]; intro q; have:=congrArg List.length q; rw[List.length_drop] at this; simp at this; omega
   rw[if_neg e2,e1,List.length_drop]
   show(k:Int)=_
   omega
theorem idx2_f {s:List UInt8} (hs:s.all (shw 32)=true):g_17.f s=some (if ltr s= [] then -1 else((s.length-(ltr s).length:Nat):Int)):=by
 unfold g_17.f g_1a.f
 obtain⟨r,r1,r2⟩:=nV hs s.length 0 (by omega) rfl
 rw[r1,Option.bind_some,← r2]
 cases r<;>rfl
theorem lS (s:List UInt8):ltr s=s.drop (s.length-(ltr s).length):=by
 have: ∀l:List UInt8,∃a,l=a++ltr l:=fun l=>by
  induction l with
  | nil=>exact⟨[],rfl⟩
  | cons c l ih =>
   obtain⟨a,ha⟩:=ih
   unfold ltr
   rw[List.dropWhile_cons]
   split
   ·exact⟨c::a,by show c::l=c::(a++ltr l); rw[← ha]⟩
   ·exact⟨[],rfl⟩
 obtain⟨a,ha⟩:=this s
 conv=>rhs; rw[ha]
 rw[List.length_append,show a.length+(ltr s).length-(ltr (a++ltr s)).length=a.length by rw[← ha]; omega]
 simp
def bgM (s:List UInt8):Bool:=decide (ltr s≠ [])&&decide ((ltr s).getD 0 default=38)
def bgA (s:List UInt8):Nat:=if bgM s=true then s.length-(ltr s).length+1 else 0
def bgE (s:List UInt8) (q:UInt8):Int:=if bgM s=true then(if bl ((ltr s).drop 1)=true then 3 else 0) else if q≠0 then 3 else 0
theorem begin_f {s:List UInt8} (hs:s.all (shw 32)=true) (hl:s.length<1000) (q:UInt8) (b c d e:Int):g_g.f q 0 b c d e s=some ((bgA s:Int),bgE s q,b,c,d,e):=by
 have hle:(ltr s).length≤s.length:=gx _ _
 unfold g_g.f bgA bgE
 rw[idx2_f hs,Option.bind_some]
 cases hz:ltr s with
 | nil =>
  have hm:bgM s=false:=by unfold bgM; rw[hz]; rfl
  rw[hm,if_pos rfl,if_pos (by decide),Option.bind_some,if_pos rfl,jl,if_neg (c:=false=true) (by decide),if_neg (c:=false=true) (by decide)]
  by_cases hq:q=0
  ·rw[decide_eq_true hq,if_neg (by decide),if_neg (fun k=>k hq)]; rfl
  ·rw[decide_eq_false hq,if_pos (by decide),mL,if_pos hq]; rfl
 | cons c0 l0 =>
  rw[hz] at hle
  have hn:s.length-(c0::l0).length<s.length:=by simp at hle ⊢; omega
  have eg:gt s ((s.length-(c0::l0).length:Nat):Int)=c0:=by
   rw[bf]
   have:=lS s
   rw[hz] at this
   have h2:=aM hn
   rw[← this] at h2
   exact(List.cons.inj h2).1.symm
  have er:s.drop (s.length-(c0::l0).length+1)=l0:=by
   have:=lS s
   rw[hz] at this
   have h2:=aM hn
   rw[← this] at h2
   exact(List.cons.inj h2).2.symm
  have hm:bgM s=decide (c0=38):=by unfold bgM; rw[hz]; simp
  have hne: ¬ (c0::l0= []):=by simp
  simp only[if_neg hne]
  rw[if_neg (dn (by omega)),if_pos ⟨by omega,by omega⟩,eg,jl,Option.bind_some,hm]
  by_cases h38:c0=38
  ·rw[decide_eq_true h38,if_neg (by decide),if_pos (c:=true=true) rfl,if_pos (c:=true=true) rfl,up1 (by omega),if_pos ⟨by omega,by omega,Int.le_refl _⟩,eI,er,eJ (by simp at hle; omega),Option.bind_some]
   have:(c0::l0).drop 1=l0:=rfl
   rw[this]
   cases bl l0
   ·rfl
   ·rw[if_pos rfl,mL]; rfl
  ·rw[decide_eq_false h38,if_pos (by decide),jl,if_neg (c:=false=true) (by decide),if_neg (c:=false=true) (by decide)]
   by_cases hq:q=0
   ·rw[decide_eq_true hq,if_neg (by decide),if_neg (fun k=>k hq)]; rfl
   ·rw[decide_eq_false hq,if_pos (by decide),mL,if_pos hq]; rfl
end Go.Proofs.YtjcbhbncncbdjaaGreatDoorAi
namespace Go.Proofs.YtjcbhbncncbdjaaGreatDoorAi
open Go Go.RowKit
set_option linter.unusedVariables false
set_option linter.unusedSimpArgs false
structure Rd where
 ch:List Mk1
 q:UInt8
 go:Bool
 f:Nat
 st:Bool
 kd:List Int
 out:List ST
def skp (s:List UInt8) (q:UInt8):Bool:=decide (q=0)&&i9 s
def lnA (s:List UInt8) (r:Rd):Nat:=if r.go=true then bgA s else 0
def lnF (r:Rd):Nat:=if r.go=true then r.f+1 else r.f
def lnP (s:List UInt8) (i:Nat) (r:Rd):Rw×Bool×Bool:=bY i (s.drop (lnA s r)) (lnA s r) ⟨r.ch,r.q,lnF r,false,r.out,0⟩
def lnX (s:List UInt8) (i:Nat) (r:Rd):Rw:=if(lnP s i r).2.1=true then(lnP s i r).1 else { f9 (lnP s i r).1 with q:=0 }
def cU (s:List UInt8) (i:Nat) (r:Rd):List Int :=
 [if r.go=true then bgE s r.q else 0,if(lnP s i r).2.2=true then 7 else 0,if r.go=true∧39<r.f+1 then 8 else 0,if(lnP s i r).2.1=false∧(lnP s i r).1.q≠0 then 21 else 0,(lnX s i r).e]
def lnY (s:List UInt8) (i:Nat) (r:Rd):Rd:=⟨(lnX s i r).ch,(lnX s i r).q,(lnP s i r).2.1,(lnX s i r).f,(lnP s i r).1.st,r.kd++ [if(lnP s i r).1.st=true then 1 else 2],(lnX s i r).out⟩
def lnR (s:List UInt8) (i:Nat) (r:Rd):Except (Nat×Int) Rd :=
 if skp s r.q=true then .ok { r with kd:=r.kd++ [0] } else if dt (cU s i r)≠0 then .error (i,dt (cU s i r)) else .ok (lnY s i r)
def rdR:List (List UInt8)→Nat→Rd→Except (Nat×Int) Rd
 | [],_,x=> .ok x
 | s::l,i,x=>match lnR s i x with
  | .error e=> .error e
  | .ok y=>rdR l (i+1) y
def rd0:Rd:=⟨[],0,false,0,false,[],[]⟩
def FRd (ls:List (List UInt8)):Except (Nat×Int) (List Int×List ST):=match rdR ls 0 rd0 with
 | .error e=> .error e
 | .ok x=>if x.go=true then .error (ls.length-1,39) else .ok (x.kd,x.out)
structure RdI (x:Rd) (i:Nat):Prop where
 ch:x.ch.length≤1000*i
 out:x.out.length≤1001*i
 kd:x.kd.length≤i
 f:x.f≤39
theorem bgA_le (s:List UInt8):bgA s≤s.length:=by
 have hle:(ltr s).length≤s.length:=gx _ _
 unfold bgA
 split
 ·rename_i h
  unfold bgM at h
  rw[Bool.and_eq_true,decide_eq_true_eq] at h
  have:(ltr s).length≠0:=fun q=>h.1 (List.eq_nil_of_length_eq_zero q)
  omega
 ·omega
theorem rh (s:List UInt8) (r:Rd):lnA s r≤s.length:=by
 unfold lnA
 split
 ·exact bgA_le s
 ·omega
theorem skp_f (s:List UInt8) (q:UInt8):(if(((q.toNat:Int)==((0:UInt8).toNat:Int))=true) then Option.bind (if decide (ltr s= [])=true then some true else(if 0≤(0:Int)∧(0:Int)<((ltr s).length:Int) then some (((gt (ltr s) (0:Int)).toNat:Int)==((33:UInt8).toNat:Int)) else none)) fun z14=>some z14 else some false)=some (skp s q):=by
 rw[nxt_f,f6]
 unfold skp
 by_cases h:q=0
 ·rw[decide_eq_true h]; rfl
 ·rw[decide_eq_false h]; rfl
theorem gy: ∀l:List Int,dt l=0↔ ∀e∈l,e=0
 | []=>by simp[dt]
 | a::l=>by
  unfold dt
  by_cases h:a=0
  ·rw[if_neg (fun k=>k h),gy l]; simp[h]
  ·rw[if_pos h]; simp[h]
theorem nW {s:List UInt8} {i:Nat} {r:Rd} (hp:RwI (lnP s i r).1 i s.length):RwI (lnX s i r) i (s.length+1):=by
 unfold lnX
 split
 ·exact⟨by have:=hp.ch; omega,by have:=hp.out; omega,hp.f⟩
 ·have:=lR hp
  exact⟨this.ch,this.out,this.f⟩
theorem line_f {ls:List (List UInt8)} {i:Nat} (hi:i<ls.length) (hi':i<1000) (hs:(ls.getD i default).length<999) (h32:(ls.getD i default).all (shw 32)=true) {r:Rd} (h:RdI r i) :
  (skp (ls.getD i default) r.q=false→RwI (lnP (ls.getD i default) i r).1 i (ls.getD i default).length) ∧
  g_k.f ls r.kd r.out r.ch r.q r.go (r.f:Int) r.st 0 0 0 0 0 (i:Int)=some (
   if skp (ls.getD i default) r.q=true then(r.ch,r.q,r.go,(r.f:Int),r.st,0,0,0,0,0,r.kd++ [0],r.out)
   else((lnX (ls.getD i default) i r).ch,(lnX (ls.getD i default) i r).q,(lnP (ls.getD i default) i r).2.1,((lnX (ls.getD i default) i r).f:Int),(lnP (ls.getD i default) i r).1.st,
    (if r.go=true then bgE (ls.getD i default) r.q else 0),(if(lnP (ls.getD i default) i r).2.2=true then 7 else 0),(if r.go=true∧39<r.f+1 then 8 else 0),(if(lnP (ls.getD i default) i r).2.1=false∧(lnP (ls.getD i default) i r).1.q≠0 then 21 else 0),(lnX (ls.getD i default) i r).e,
    r.kd++ [if(lnP (ls.getD i default) i r).1.st=true then 1 else 2],(lnX (ls.getD i default) i r).out)):=by
 have h1:=h.ch
 have h2:=h.out
 have h3:=h.kd
 have h4:=h.f
 have hA:=rh (ls.getD i default) r
 have hI:RwI (⟨r.ch,r.q,lnF r,false,r.out,0⟩:Rw) i (lnA (ls.getD i default) r):=⟨by simp only; omega,by simp only; omega,by simp only; unfold lnF; split<;>omega⟩
 obtain⟨a',i1,i2⟩:=jR hi hi' (by omega) (if r.go=true then bgE (ls.getD i default) r.q else 0) (if r.go=true∧39<r.f+1 then 8 else 0) 0 ((ls.getD i default).length-lnA (ls.getD i default) r) (lnA (ls.getD i default) r) ⟨r.ch,r.q,lnF r,false,r.out,0⟩ (by omega) hI
 refine⟨fun _=>i2,?_⟩
 have hP:bY i ((ls.getD i default).drop (lnA (ls.getD i default) r)) (lnA (ls.getD i default) r) ⟨r.ch,r.q,lnF r,false,r.out,0⟩=lnP (ls.getD i default) i r:=rfl
 rw[hP] at i1 i2
 have hsk:=skp_f (ls.getD i default) r.q
 unfold g_k.f
 rw[if_pos ⟨by omega,by omega⟩,bf,iZ,Option.bind_some]
 rw[hsk,Option.bind_some]
 cases hk:skp (ls.getD i default) r.q
 ·rw[if_neg (c:=false=true) (by decide),if_neg (c:=false=true) (by decide),begin_f h32 (by omega)]
  have hg:(if r.go=true then Option.bind (some ((bgA (ls.getD i default):Int),bgE (ls.getD i default) r.q,(0:Int),(0:Int),(0:Int),(0:Int))) fun y26=>(if(decide ((w64 ((r.f:Int)+1))>39))=true then Option.bind (g_n.f y26.2.1 y26.2.2.1 y26.2.2.2.1 y26.2.2.2.2.1 y26.2.2.2.2.2 2 8) fun y29=>some (y26.1,(w64 ((r.f:Int)+1)),y29.1,y29.2.1,y29.2.2.1,y29.2.2.2.1,y29.2.2.2.2) else some (y26.1,(w64 ((r.f:Int)+1)),y26.2.1,y26.2.2.1,y26.2.2.2.1,y26.2.2.2.2.1,y26.2.2.2.2.2)) else some ((0:Int),(r.f:Int),(0:Int),(0:Int),(0:Int),(0:Int),(0:Int)))=some ((lnA (ls.getD i default) r:Int),(lnF r:Int),(if r.go=true then bgE (ls.getD i default) r.q else 0),(0:Int),(if r.go=true∧39<r.f+1 then(8:Int) else 0),(0:Int),(0:Int)):=by
   unfold lnA lnF
   rw[up1 (by omega)]
   cases r.go
   ·rfl
   ·rw[if_pos (c:=true=true) rfl,Option.bind_some]
    by_cases hf:39<r.f+1
    ·rw[if_pos (c:=decide _=true) (decide_eq_true (by omega)),if_pos (c:=true=true∧_) ⟨rfl,hf⟩,wrong2]; rfl
    ·rw[if_neg (c:=decide _=true) (dn (by omega)),if_neg (c:=true=true∧_) (fun k=>hf k.2)]; rfl
  rw[hg,Option.bind_some]
  show Option.bind (iter (g_k.b0 ls (i:Int)) (ga (⟨r.ch,r.q,lnF r,false,r.out,0⟩:Rw) (lnA (ls.getD i default) r) false _ 0 _ 0)) _=_
  rw[i1,Option.bind_some]
  have hX:=nW i2
  have hc:=i2.ch
  have ho:=i2.out
  generalize (if r.go=true then bgE (ls.getD i default) r.q else 0)=e0
  generalize (if r.go=true∧39<r.f+1 then(8:Int) else 0)=e2
  unfold ga lnX
  simp only
  generalize lnP (ls.getD i default) i r=P at *
  obtain⟨x,g,e⟩:=P
  simp only at *
  have hz: ∀{β:Type} (f:Int→Option β),Option.bind (if x.st=true then some (1:Int) else some 2) f=f (if x.st=true then 1 else 2):=by
   intro β f
   cases x.st<;>rfl
  cases g
  ·rw[jl,wrong3,mM (by omega) (by omega),Option.bind_some,Option.bind_some,mM (by omega) (by omega),Option.bind_some]
   by_cases hq:x.q=0
   ·rw[decide_eq_true hq]
    simp only[Bool.not_true,Bool.not_false,Bool.false_eq_true,if_false,if_true,Option.bind_some]
    rw[hz,if_pos (by simp; omega),hq]
    rfl
   ·rw[decide_eq_false hq]
    simp only[Bool.not_true,Bool.not_false,Bool.false_eq_true,if_false,if_true,Option.bind_some]
    rw[hz,if_pos (by simp; omega),if_pos (c:=(True∧_)) ⟨trivial,hq⟩]
    rfl
  ·simp only[Bool.not_true,Bool.not_false,Bool.false_eq_true,if_false,if_true,Option.bind_some]
   rw[hz,if_pos (by simp; omega)]
   rfl
 ·rw[if_pos rfl,if_pos rfl,if_pos (by simp; omega)]
end Go.Proofs.YtjcbhbncncbdjaaGreatDoorAi
namespace Go.Proofs.YtjcbhbncncbdjaaGreatDoorAi
open Go Go.RowKit
set_option linter.unusedVariables false
set_option linter.unusedSimpArgs false
structure Sh (ls:List (List UInt8)):Prop where
 l:ls.length≤400
 e: ∀s∈ls,s.length≤132∧s.all (shw 32)=true
theorem Sh.at {ls:List (List UInt8)} (h:Sh ls) {k:Nat} (hk:k<ls.length):(ls.getD k default).length≤132∧(ls.getD k default).all (shw 32)=true:=by
 rw[List.getD_eq_getElem?_getD,List.getElem?_eq_getElem hk]
 exact h.e _ (List.getElem_mem hk)
theorem Sh.few {n:List UInt8} {ls:List (List UInt8)} (h:Sh ls) (hn:n.length<1000):Few n ls:=⟨hn,by have:=h.l; omega,fun s hs=>by have:=(h.e s hs).1; omega⟩
abbrev RdT:Type:=Int×List Mk1×UInt8×Bool×Int×Bool×Int×Int×Int×Int×Int×List Int×List ST
def lT (x:Rd) (i:Nat):RdT:=((i:Int),x.ch,x.q,x.go,(x.f:Int),x.st,0,0,0,0,0,x.kd,x.out)
theorem lnR_inv {s:List UInt8} {i:Nat} {x y:Rd} (h:RdI x i) (hs:s.length<999) (hp:skp s x.q=false→RwI (lnP s i x).1 i s.length) (hy:lnR s i x= .ok y):RdI y (i+1):=by
 obtain⟨h1,h2,h3,h4⟩:=h
 unfold lnR at hy
 cases hk:skp s x.q
 ·rw[hk,if_neg (by decide)] at hy
  have hX:=nW (hp hk)
  split at hy
  ·cases hy
  ·rename_i he
   obtain rfl:=Except.ok.inj hy
   have hz:dt (cU s i x)=0:=by apply Decidable.byContradiction; exact fun q=>he q
   have h9:=(gy _).1 hz
   have hf:(if x.go=true∧39<x.f+1 then(8:Int) else 0)=0:=h9 _ (by unfold cU; simp)
   refine⟨by unfold lnY; have:=hX.ch; simp only; omega,by unfold lnY; have:=hX.out; simp only; omega,by unfold lnY; simp; omega,?_⟩
   have hff:lnF x≤39:=by
    unfold lnF
    split
    ·rename_i hg
     apply Decidable.byContradiction
     intro q
     rw[if_pos ⟨hg,by omega⟩] at hf
     exact absurd hf (by decide)
    ·exact h4
   unfold lnY lnX
   simp only
   have hfp: ∀(t:List UInt8) (a:Nat) (w:Rw),w.f≤39→(bY i t a w).1.f≤39:=by
    intro t
    induction t with
    | nil=>intro a w hw; exact hw
    | cons c r ih =>
     intro a w hw
     unfold bY
     split
     ·split
      ·exact hw
      ·exact ih _ _ hw
     ·split
      ·exact hw
      ·split
       ·exact ih _ _ (Nat.zero_le _)
       ·split
        ·split
         ·exact hw
         ·exact hw
        ·exact ih _ _ hw
   split
   ·exact hfp _ _ _ hff
   ·exact Nat.zero_le _
 ·rw[hk,if_pos rfl] at hy
  obtain rfl:=Except.ok.inj hy
  exact⟨by simp only; omega,by simp only; omega,by simp; omega,h4⟩
theorem rd_step {ls:List (List UInt8)} (hS:Sh ls) {i:Nat} (hi:i<ls.length) {x:Rd} (h:RdI x i) :
  ∃r,g_m.b0 ls (lT x i)=some r∧match lnR (ls.getD i default) i x with | .ok y=>r= .inl (lT y (i+1))∧RdI y (i+1) | .error e=> ∃g,r= .inr (.inr ((e.1:Int),e.2,g))∧e.2≠0:=by
 obtain⟨hs1,hs2⟩:=hS.at hi
 have hl:=hS.l
 obtain⟨hp,hf⟩:=line_f hi (by omega) (by omega) hs2 h
 have hinv:=fun y (hy:lnR (ls.getD i default) i x= .ok y)=>lnR_inv h (by omega) hp hy
 unfold g_m.b0 lT
 simp only
 rw[if_pos (decide_eq_true (by omega)),hf,Option.bind_some,up1 (by omega)]
 unfold lnR at hinv ⊢
 cases hk:skp (ls.getD i default) x.q
 ·rw[hk,if_neg (by decide)] at hinv
  rw[if_neg (c:=false=true) (by decide),if_neg (c:=false=true) (by decide),dC (by show 5<1000; decide),Option.bind_some]
  have e0:dt ([(if x.go=true then bgE (ls.getD i default) x.q else 0),(if(lnP (ls.getD i default) i x).2.2=true then 7 else 0),(if x.go=true∧39<x.f+1 then 8 else 0),(if(lnP (ls.getD i default) i x).2.1=false∧(lnP (ls.getD i default) i x).1.q≠0 then 21 else 0),(lnX (ls.getD i default) i x).e]:List Int)=dt (cU (ls.getD i default) i x):=rfl
  rw[e0]
  by_cases hz:dt (cU (ls.getD i default) i x)=0
  ·rw[if_neg (c:=dt _≠0) (fun q=>q hz)] at hinv
   rw[if_neg (by rw[hz]; decide),if_neg (c:=dt _≠0) (fun q=>q hz)]
   have h9:=(gy _).1 hz
   have g0:=h9 (if x.go=true then bgE (ls.getD i default) x.q else 0) (by unfold cU; simp)
   have g1:=h9 (if(lnP (ls.getD i default) i x).2.2=true then 7 else 0) (by unfold cU; simp)
   have g2:=h9 (if x.go=true∧39<x.f+1 then 8 else 0) (by unfold cU; simp)
   have g3:=h9 (if(lnP (ls.getD i default) i x).2.1=false∧(lnP (ls.getD i default) i x).1.q≠0 then 21 else 0) (by unfold cU; simp)
   have g4:=h9 (lnX (ls.getD i default) i x).e (by unfold cU; simp)
   rw[g0,g1,g2,g3,g4]
   exact⟨_,rfl,rfl,hinv _ rfl⟩
  ·rw[if_pos (by simpa using hz),if_pos hz]
   exact⟨_,rfl,_,rfl,hz⟩
 ·rw[hk,if_pos rfl] at hinv
  rw[if_pos rfl,if_pos rfl,dC (by show 5<1000; decide),Option.bind_some]
  exact⟨_,rfl,rfl,hinv _ rfl⟩
theorem nX {ls:List (List UInt8)} (hS:Sh ls): ∀(d i:Nat) (x:Rd),i+d=ls.length→RdI x i →
  ∃r,iter (g_m.b0 ls) (lT x i)=some r∧match rdR (ls.drop i) i x with | .ok y=>r= .inl (lT y ls.length) | .error e=> ∃g,r= .inr ((e.1:Int),e.2,g)∧e.2≠0
 | 0,i,x,h,hI=>by
  obtain rfl:i=ls.length:=by omega
  refine⟨.inl (lT x ls.length),ai ?_,?_⟩
  ·unfold g_m.b0 lT
   simp only
   rw[if_neg (dn (by omega))]
  ·rw[List.drop_length]
   rfl
 | d+1,i,x,h,hI=>by
  obtain⟨r,r1,r2⟩:=rd_step hS (i:=i) (by omega) hI
  rw[aM (show i<ls.length by omega)]
  unfold rdR
  cases hx:lnR (ls.getD i default) i x with
  | error e =>
   rw[hx] at r2
   obtain⟨g,rfl,hg⟩:=r2
   exact⟨_,ai r1,g,rfl,hg⟩
  | ok y =>
   rw[hx] at r2
   obtain⟨rfl,hy⟩:=r2
   obtain⟨r',q1,q2⟩:=nX hS d (i+1) y (by omega) hy
   exact⟨r',by rw[az r1]; exact q1,q2⟩
theorem mN {ls:List (List UInt8)} (hS:Sh ls): ∃r,g_m.f ls [] [] [] 0 false 0 false 0 0 0 0 0=some r∧match FRd ls with | .error e=>r.1=(e.1:Int)∧r.2.1=e.2∧e.2≠0 | .ok y=>r.2.1=0∧r.2.2.2.2.2.2.2.2.2.2.2.2.1=y.1∧r.2.2.2.2.2.2.2.2.2.2.2.2.2=y.2:=by
 obtain⟨r,r1,r2⟩:=nX hS ls.length 0 rd0 (by omega) ⟨by decide,by decide,by decide,by decide⟩
 have hl:=hS.l
 have r1':iter (g_m.b0 ls) (0,[],0,false,0,false,0,0,0,0,0,[],[])=some r:=r1
 unfold g_m.f
 rw[r1',Option.bind_some]
 rw[List.drop_zero] at r2
 cases hx:rdR ls 0 rd0 with
 | error e =>
  rw[hx] at r2
  obtain⟨g,rfl,hg⟩:=r2
  have eF:FRd ls= .error e:=by unfold FRd; rw[hx]
  rw[eF]
  exact⟨_,rfl,rfl,rfl,hg⟩
 | ok x =>
  rw[hx] at r2
  have r2:r= .inl (lT x ls.length):=r2
  subst r2
  have eF:FRd ls=if x.go=true then .error (ls.length-1,39) else .ok (x.kd,x.out):=by unfold FRd; rw[hx]
  rw[eF]
  show ∃r,(if x.go=true then _ else _)=some r∧_
  cases hg:x.go
  ·rw[if_neg (by decide),if_neg (by decide)]
   exact⟨_,rfl,rfl,rfl,rfl⟩
  ·rw[if_pos rfl,if_pos rfl]
   have hne:0<ls.length:=by
    cases ls with
    | nil =>
     have:x=rd0:=(Except.ok.inj hx).symm
     rw[this] at hg
     cases hg
    | cons=>simp
   exact⟨_,rfl,by show w64 ((ls.length:Int)-1)=((ls.length-1:Nat):Int); rw[cE (by omega) (by omega)]; omega,rfl,by show(39:Int)≠0; decide⟩
def RD (n:List UInt8) (free:Bool) (ls:List (List UInt8)):Except (Int×Int) (List Int×List ST) :=
 if(ckT n free ls).2≠0 then .error (ckT n free ls)
 else match (if free=true then FRd ls else FX ls) with | .error e=> .error ((e.1:Int),e.2) | .ok y=> .ok y
theorem nY (m:Nat): ∀(ls:List (List UInt8)) (i:Nat),(ckL m ls i).2=0→ ∀s∈ls,s.length≤m∧s.all (shw 32)=true
 | [],i,h,s,hs=>by cases hs
 | t::r,i,h,s,hs=>by
  unfold ckL at h
  split at h
  ·rename_i hne
   exact absurd h hne
  ·rename_i he
   have he:lnE m t=0:=by apply Decidable.byContradiction; exact fun q=>he q
   rcases List.mem_cons.1 hs with rfl | h2
   ·unfold lnE at he
    split at he
    ·exact absurd he (by decide)
    ·rename_i hm
     refine⟨by omega,?_⟩
     apply Decidable.byContradiction
     intro q
     rw[if_neg q] at he
     exact absurd he (by decide)
   ·exact nY m r _ h s h2
theorem ckT_sh {n:List UInt8} {free:Bool} {ls:List (List UInt8)} (h:(ckT n free ls).2=0):Sh ls:=by
 unfold ckT at h
 split at h
 ·exact absurd h (by decide)
 ·split at h
  ·exact absurd h (by decide)
  ·refine⟨by omega,fun s hs=>?_⟩
   obtain⟨h1,h2⟩:=nY _ _ _ h s hs
   refine⟨?_,h2⟩
   unfold wd at h1
   split at h1<;>omega
theorem ri {n:List UInt8} {free:Bool} {ls:List (List UInt8)} (h:Few n ls):g_10.f n free ls=some (match RD n free ls with | .error e=>(none,e.1,e.2) | .ok y=>(some (ls,y.1,y.2),0,0))∧ ∀e,RD n free ls= .error e→e.2≠0:=by
 unfold g_10.f RD
 rw[lJ h,Option.bind_some]
 by_cases hz:(ckT n free ls).2=0
 ·have hS:=ckT_sh hz
  rw[if_neg (by rw[hz]; decide),if_neg (c:=(ckT n free ls).2≠0) (fun q=>q hz)]
  cases free
  ·obtain⟨r,r1,r2⟩:=lO (hS.few h.n)
   simp only[if_neg (c:=false=true) (by decide)]
   rw[r1,Option.bind_some,Option.bind_some]
   cases hx:FX ls with
   | error e =>
    rw[hx] at r2
    obtain⟨q1,q2,q3⟩:=r2
    rw[q1,q2,if_pos (by simpa using q3)]
    exact⟨rfl,fun e' he=>by obtain rfl:=Except.error.inj he; exact q3⟩
   | ok y =>
    rw[hx] at r2
    obtain⟨q1,q2,q3⟩:=r2
    rw[q1,q2,q3,if_neg (by decide)]
    exact⟨rfl,fun e' he=>by cases he⟩
  ·obtain⟨r,r1,r2⟩:=mN hS
   simp only[eq_self,if_true]
   rw[r1,Option.bind_some,Option.bind_some]
   cases hx:FRd ls with
   | error e =>
    rw[hx] at r2
    obtain⟨q1,q2,q3⟩:=r2
    rw[q1,q2,if_pos (by simpa using q3)]
    exact⟨rfl,fun e' he=>by obtain rfl:=Except.error.inj he; exact q3⟩
   | ok y =>
    rw[hx] at r2
    obtain⟨q1,q2,q3⟩:=r2
    rw[q1,q2,q3,if_neg (by decide)]
    exact⟨rfl,fun e' he=>by cases he⟩
 ·rw[if_pos (by simpa using hz),if_pos hz]
  exact⟨rfl,fun e' he=>by obtain rfl:=Except.error.inj he; exact hz⟩
theorem eq {n:List UInt8} {free:Bool} {ls:List (List UInt8)} (h:Few n ls):g_9.f n free ls=some (match RD n free ls with | .error e=>([],e.1,e.2) | .ok y=>(y.2,0,0)):=by
 obtain⟨h1,h2⟩:=ri (free:=free) h
 unfold g_9.f
 rw[h1,Option.bind_some]
 cases hx:RD n free ls with
 | error e =>
  have:=h2 e hx
  show(if(e.2 != 0)=true then _ else _)=_
  rw[if_pos (by simpa using this)]
 | ok y=>rfl
end Go.Proofs.YtjcbhbncncbdjaaGreatDoorAi
namespace Go.Proofs.YtjcbhbncncbdjaaGreatDoorAi
open Go Go.RowKit
set_option linter.unusedVariables false
set_option linter.unusedSimpArgs false
def ltP (a b:Int×Int):Prop:=a.1<b.1∨a.1=b.1∧a.2<b.2
def ltM (a b:Mk1):Prop:=ltP a.2.2 b.2.2
def Gm (ls:List (List UInt8)) (kd:List Int) (i a:Nat) (m:Mk1):Prop :=
 m.2.1=0∧ ∃j b:Nat,m.2.2.1=(j:Int)∧m.2.2.2=((b+1:Nat):Int)∧m.1=(ls.getD j default).getD b 32∧(j<i∧kd.getD j 0≠0∨j=i∧b<a)
def fl (L:List (Int×List Mk1)):List Mk1:=(L.map (·.2)).flatten
structure PI (ls:List (List UInt8)) (kd:List Int) (i a:Nat) (out:List ST) (ch:List Mk1):Prop where
 k:kd.length=i
 e: ∃L:List (Int×List Mk1),out=L.map (fun p=>lK p.1 p.2)∧(∀p∈L,p.2≠ []∧0≤p.1∧p.1≤99999)∧(fl L++ch).Pairwise ltM∧(∀m∈fl L++ch,Gm ls kd i a m)∧(fl L++ch).length≤1000*i+a
theorem PI.sub {ls kd i a out ch ch'} (h:PI ls kd i a out ch) (hs:List.Sublist ch' ch):PI ls kd i a out ch':=by
 obtain⟨hk,L,h1,h2,h3,h4,h5⟩:=h
 have hs':List.Sublist (fl L++ch') (fl L++ch):=List.Sublist.append (List.Sublist.refl _) hs
 exact⟨hk,L,h1,h2,h3.sublist hs',fun m hm=>h4 m (hs'.subset hm),Nat.le_trans hs'.length_le h5⟩
theorem PI.up {ls kd i a a' out ch} (h:PI ls kd i a out ch) (ha:a≤a'):PI ls kd i a' out ch:=by
 obtain⟨hk,L,h1,h2,h3,h4,h5⟩:=h
 refine⟨hk,L,h1,h2,h3,fun m hm=>?_,by omega⟩
 obtain⟨q0,j,b,q1,q2,q3,q4⟩:=h4 m hm
 exact⟨q0,j,b,q1,q2,q3,q4.imp id fun q=>⟨q.1,by omega⟩⟩
theorem PI.put {ls kd i a out ch} (h:PI ls kd i a out ch):PI ls kd i (a+1) out (ch++ [((ls.getD i default).getD a 32,0,(i:Int),((a+1:Nat):Int))]):=by
 obtain⟨hk,L,h1,h2,h3,h4,h5⟩:=h
 refine⟨hk,L,h1,h2,?_,fun m hm=>?_,by rw[← List.append_assoc,List.length_append]; show _+1≤_; omega⟩
 ·rw[← List.append_assoc,List.pairwise_append]
  refine⟨h3,List.pairwise_singleton _ _,fun m hm m' hm'=>?_⟩
  obtain rfl:=List.mem_singleton.1 hm'
  obtain⟨q0,j,b,q1,q2,q3,q4⟩:=h4 m hm
  unfold ltM ltP
  rw[q1,q2]
  rcases q4 with q | q
  ·exact .inl (by show(j:Int)<(i:Int); omega)
  ·exact .inr ⟨by show(j:Int)=(i:Int); omega,by show((b+1:Nat):Int)<((a+1:Nat):Int); omega⟩
 ·rw[← List.append_assoc] at hm
  rcases List.mem_append.1 hm with hm | hm
  ·obtain⟨q0,j,b,q1,q2,q3,q4⟩:=h4 m hm
   exact⟨q0,j,b,q1,q2,q3,q4.imp id fun q=>⟨q.1,by omega⟩⟩
  ·obtain rfl:=List.mem_singleton.1 hm
   exact⟨rfl,i,a,rfl,rfl,rfl,.inr ⟨rfl,by omega⟩⟩
theorem PI.fin {ls kd i a out ch} (h:PI ls kd i a out ch) {n:Int} (h0:0≤n) (h1:n≤99999) {l:List Mk1} (hl:l≠ []) (hs:List.Sublist l ch):PI ls kd i a (out++ [lK n l]) []:=by
 obtain⟨hk,L,g1,g2,g3,g4,g5⟩:=h.sub hs
 refine⟨hk,L++ [(n,l)],by rw[g1,List.map_append]; rfl,fun p hp=>?_,?_,?_,?_⟩
 ·rcases List.mem_append.1 hp with hp | hp
  ·exact g2 p hp
  ·obtain rfl:=List.mem_singleton.1 hp
   exact⟨hl,h0,h1⟩
 ·have:fl (L++ [(n,l)])++ []=fl L++l:=by unfold fl; simp
  rw[this]; exact g3
 ·have:fl (L++ [(n,l)])++ []=fl L++l:=by unfold fl; simp
  rw[this]; exact g4
 ·have:fl (L++ [(n,l)])++ []=fl L++l:=by unfold fl; simp
  rw[this]; exact g5
theorem gd_l {α:Type} {l m:List α} {d:α} {j:Nat} (h:j<l.length):(l++m).getD j d=l.getD j d:=by
 rw[List.getD_eq_getElem?_getD,List.getElem?_append_left h,← List.getD_eq_getElem?_getD]
theorem gd_r {α:Type} {l m:List α} {d:α} {j:Nat} (h:l.length≤j):(l++m).getD j d=m.getD (j-l.length) d:=by
 rw[List.getD_eq_getElem?_getD,List.getElem?_append_right h,← List.getD_eq_getElem?_getD]
theorem PI.line {ls kd i a out ch} (h:PI ls kd i a out ch) {k:Int} (hk:k≠0) (ha:a≤1000):PI ls (kd++ [k]) (i+1) 0 out ch:=by
 obtain⟨hkd,L,h1,h2,h3,h4,h5⟩:=h
 refine⟨by simp[hkd],L,h1,h2,h3,fun m hm=>?_,by omega⟩
 obtain⟨q0,j,b,q1,q2,q3,q4⟩:=h4 m hm
 refine⟨q0,j,b,q1,q2,q3,.inl ?_⟩
 rcases q4 with q | q
 ·refine⟨by omega,?_⟩
  rw[gd_l (by omega)]; exact q.2
 ·refine⟨by omega,?_⟩
  rw[q.1,← hkd,gd_r (Nat.le_refl _),Nat.sub_self]; exact hk
theorem PI.skip {ls kd i out ch} (h:PI ls kd i 0 out ch) (k:Int):PI ls (kd++ [k]) (i+1) 0 out ch:=by
 obtain⟨hkd,L,h1,h2,h3,h4,h5⟩:=h
 refine⟨by simp[hkd],L,h1,h2,h3,fun m hm=>?_,by omega⟩
 obtain⟨q0,j,b,q1,q2,q3,q4⟩:=h4 m hm
 refine⟨q0,j,b,q1,q2,q3,.inl ?_⟩
 rcases q4 with q | q
 ·refine⟨by omega,?_⟩
  rw[gd_l (by omega)]; exact q.2
 ·exact absurd q.2 (by omega)
theorem PI.cols {ls kd i out ch} (h:PI ls kd i 0 out ch):PI ls kd i 72 out (ch++cols (ls.getD i default) i):=by
 have key: ∀n,PI ls kd i (6+n) out (ch++(List.range n).map fun j=>((ls.getD i default).getD (6+j) 32,(0:Int),(i:Int),((7+j:Nat):Int))):=by
  intro n
  induction n with
  | zero=>simpa using h.up (Nat.zero_le 6)
  | succ n ih =>
   rw[List.range_succ,List.map_append,← List.append_assoc]
   have:=ih.put
   rw[show 6+n+1=7+n by omega] at this
   rw[show 6+(n+1)=7+n by omega]
   exact this
 exact key 66
theorem rj (l:List Mk1):List.Sublist (lf l) l:=List.dropWhile_sublist _
theorem rk (l:List Mk1):List.Sublist (rt l) l:=by rw[rt_take]; exact List.take_sublist _ _
theorem mO (s:List UInt8): ∀(d k:Nat) (v:Int) (g:Nat) (r:Int×Nat),0≤v→v<10 ^ k→lbK s d k v g=some r→0≤r.1∧r.1<10 ^ (k+d)
 | 0,k,v,g,r,h0,h1,h=>by
  unfold lbK at h
  obtain rfl:=Option.some.inj h
  exact⟨h0,h1⟩
 | d+1,k,v,g,r,h0,h1,h=>by
  unfold lbK at h
  rw[show k+(d+1)=(k+1)+d by omega]
  split at h
  ·rename_i hd
   obtain⟨_,d1,d2⟩:=lM hd
   exact mO s d (k+1) _ _ r (by omega) (by rw[Int.pow_succ]; omega) h
  ·split at h
   ·exact mO s d (k+1) _ _ r h0 (by rw[Int.pow_succ]; omega) h
   ·cases h
theorem lab_le (s:List UInt8):0≤(lab s).1∧(lab s).1≤99999:=by
 unfold lab
 split
 ·exact⟨by decide,by decide⟩
 ·rename_i v g h
  obtain⟨h1,h2⟩:=mO s 5 0 0 0 _ (by decide) (by decide) h
  refine⟨h1,?_⟩
  have:(10:Int) ^ (0+5)=100000:=by decide
  rw[this] at h2
  show v≤99999
  have h2:v<100000:=h2
  omega
structure PF (ls:List (List UInt8)) (i:Nat) (x:Fz):Prop where
 p:PI ls x.kd i 0 x.out (if x.o=true then x.ch else [])
 l:0≤x.lb∧x.lb≤99999
theorem rl {ls kd i x o} (h:PI ls kd i 0 x.out (if x.o=true then x.ch else [])) (hl:0≤x.lb∧x.lb≤99999) (ho:fxE x=some o):PI ls kd i 0 o []:=by
 unfold fxE at ho
 split at ho
 ·rename_i hx
  obtain rfl:=Option.some.inj ho
  rw[hx] at h; exact h
 ·rename_i hx
  have hx:x.o=true:=by simpa using hx
  rw[hx,if_pos rfl] at h
  split at ho
  ·cases ho
  ·rename_i hr
   obtain rfl:=Option.some.inj ho
   exact h.fin hl.1 hl.2 hr (rk _)
theorem fxL_pi {ls:List (List UInt8)} {i:Nat} {x y:Fz} (h:PF ls i x) (hy:fxL (ls.getD i default) i x= .ok y):PF ls (i+1) y:=by
 obtain⟨h1,h2⟩:=h
 unfold fxL at hy
 split at hy
 ·obtain rfl:=Except.ok.inj hy
  exact⟨h1.skip 0,h2⟩
 ·split at hy
  ·split at hy
   ·cases hy
   ·rename_i hg
    obtain rfl:=Except.ok.inj hy
    have ho:x.o=true:=by
     cases hx:x.o
     ·exact absurd (by unfold goE; rw[hx,if_pos rfl]; decide) hg
     ·rfl
    rw[ho,if_pos rfl] at h1
    refine⟨?_,h2⟩
    simp only[ho,if_true]
    exact h1.cols.line (by decide) (by decide)
  ·split at hy
   ·cases hy
   ·rename_i o ho
    split at hy
    ·cases hy
    ·obtain rfl:=Except.ok.inj hy
     refine⟨?_,lab_le _⟩
     simp only[if_true]
     have:=(rl h1 h2 ho).cols.line (k:=1) (by decide) (by decide)
     simpa using this
theorem rm {ls:List (List UInt8)}: ∀(d i:Nat) (x y:Fz),i+d=ls.length→PF ls i x→fxR (ls.drop i) i x= .ok y→PF ls ls.length y
 | 0,i,x,y,h,hP,hy=>by
  obtain rfl:i=ls.length:=by omega
  rw[List.drop_length] at hy
  obtain rfl:=Except.ok.inj hy
  exact hP
 | d+1,i,x,y,h,hP,hy=>by
  rw[aM (show i<ls.length by omega)] at hy
  unfold fxR at hy
  cases hx:fxL (ls.getD i default) i x with
  | error e=>rw[hx] at hy; cases hy
  | ok z =>
   rw[hx] at hy
   exact rm d (i+1) z y (by omega) (fxL_pi hP hx) hy
theorem FX_pi {ls:List (List UInt8)} {y:List Int×List ST} (h:FX ls= .ok y):PI ls y.1 ls.length 0 y.2 []:=by
 unfold FX at h
 cases hx:fxR ls 0 fx0 with
 | error e=>rw[hx] at h; cases h
 | ok x =>
  rw[hx] at h
  have hP:=rm (ls:=ls) ls.length 0 fx0 x (by omega) ⟨⟨rfl,[],rfl,(fun p hp=>by cases hp),List.Pairwise.nil,(fun m hm=>by cases hm),by decide⟩,by decide⟩ (by rw[List.drop_zero]; exact hx)
  simp only at h
  cases ho:fxE x with
  | none=>rw[ho] at h; cases h
  | some o =>
   rw[ho] at h
   obtain rfl:=Except.ok.inj h
   exact rl hP.p hP.l ho
theorem rn: ∀(l:List Mk1) (k:Nat) (v:Int),0≤v→v<10 ^ k→(∀j,j<l.length→eO (l.getD j default).1=true)→0≤vlD l v∧vlD l v<10 ^ (k+l.length)
 | [],k,v,h0,h1,h=>⟨h0,h1⟩
 | m::l,k,v,h0,h1,h=>by
  unfold vlD
  obtain⟨_,d1,d2⟩:=lM (h 0 (by simp))
  have d1:0≤dv m.1:=d1
  have d2:dv m.1≤9:=d2
  have:=rn l (k+1) (10*v+dv m.1) (by omega) (by rw[Int.pow_succ]; omega) (fun j hj=>h (j+1) (by simpa using hj))
  rw[List.length_cons,show k+(l.length+1)=k+1+l.length by omega]
  exact this
theorem ro (ch:List Mk1):0≤(enL ch).1∧(enL ch).1≤99999:=by
 unfold enL
 simp only
 split
 ·rename_i h
  obtain⟨h1,h2,h3,h4⟩:=h
  have hlen:((rt (lf ch)).take (dgs (rt (lf ch)))).length=dgs (rt (lf ch)):=by rw[List.length_take]; omega
  have:=rn ((rt (lf ch)).take (dgs (rt (lf ch)))) 0 0 (by decide) (by decide) (fun j hj=>by
   rw[hlen] at hj
   have:=kM (rt (lf ch)) j hj
   rw[List.getD_eq_getElem?_getD,List.getElem?_take_of_lt hj,← List.getD_eq_getElem?_getD]
   exact this)
  obtain⟨g1,g2⟩:=this
  refine⟨g1,?_⟩
  rw[hlen] at g2
  have hp:(10:Int) ^ (0+dgs (rt (lf ch)))≤10 ^ 5:=by
   have:(10:Nat) ^ (0+dgs (rt (lf ch)))≤10 ^ 5:=Nat.pow_le_pow_right (by decide) (by omega)
   exact_mod_cast this
  have hp':(10:Int) ^ 5=100000:=by decide
  show vlD _ 0≤99999
  omega
 ·exact⟨Int.le_refl _,by show(0:Int)≤99999; decide⟩
theorem enL_sub (ch:List Mk1):List.Sublist (enL ch).2.1 ch:=by
 unfold enL
 simp only
 have h0:List.Sublist (rt (lf ch)) ch:=(rk _).trans (rj _)
 split
 ·exact(rj _).trans ((List.drop_sublist _ _).trans h0)
 ·exact h0
theorem nZ {ls kd i a} {x:Rw} (h:PI ls kd i a x.out x.ch):PI ls kd i a (f9 x).out (f9 x).ch:=by
 unfold f9 enO
 simp only
 split
 ·exact h.sub (List.nil_sublist _)
 ·rename_i hn
  exact h.fin (ro _).1 (ro _).2 hn (enL_sub _)
theorem n6 {ls kd i a} {x:Rw} (h:PI ls kd i a x.out x.ch) (q:UInt8) {c:UInt8} (hc:c=(ls.getD i default).getD a 32):PI ls kd i (a+1) (eP x c i a q).out (eP x c i a q).ch:=by
 subst hc
 unfold eP
 simp only
 split
 ·exact(h.sub (List.nil_sublist _)).put
 ·exact h.put
theorem lU {ls:List (List UInt8)} {kd:List Int} {i:Nat}: ∀(d a:Nat) (x:Rw),a+d=(ls.getD i default).length→PI ls kd i a x.out x.ch→PI ls kd i (ls.getD i default).length (bY i ((ls.getD i default).drop a) a x).1.out (bY i ((ls.getD i default).drop a) a x).1.ch
 | 0,a,x,h,hP=>by
  rw[List.drop_eq_nil_of_le (by omega)]
  exact hP.up (by omega)
 | d+1,a,x,h,hP=>by
  have hc:(ls.getD i default).getD a default=(ls.getD i default).getD a 32:=nP (by omega)
  rw[aM (show a<(ls.getD i default).length by omega)]
  unfold bY
  have ih:=fun y (hy:PI ls kd i (a+1) y.out y.ch)=>lU d (a+1) y (by omega) hy
  split
  ·split
   ·exact hP.up (by omega)
   ·exact ih _ (n6 hP _ hc)
  ·split
   ·exact hP.up (by omega)
   ·split
    ·exact ih _ ((nZ hP).up (by omega))
    ·split
     ·split
      ·exact hP.up (by omega)
      ·exact hP.up (by omega)
     ·exact ih _ (n6 hP _ hc)
theorem lnR_pi {ls:List (List UInt8)} {i:Nat} (hl:(ls.getD i default).length≤1000) {x y:Rd} (h:PI ls x.kd i 0 x.out x.ch) (hy:lnR (ls.getD i default) i x= .ok y):PI ls y.kd (i+1) 0 y.out y.ch:=by
 unfold lnR at hy
 split at hy
 ·obtain rfl:=Except.ok.inj hy
  exact h.skip 0
 ·split at hy
  ·cases hy
  ·obtain rfl:=Except.ok.inj hy
   have hA:=rh (ls.getD i default) x
   have hp:=lU (kd:=x.kd) ((ls.getD i default).length-lnA (ls.getD i default) x) (lnA (ls.getD i default) x) ⟨x.ch,x.q,lnF x,false,x.out,0⟩ (by omega) (h.up (Nat.zero_le _))
   have hX:PI ls x.kd i (ls.getD i default).length (lnX (ls.getD i default) i x).out (lnX (ls.getD i default) i x).ch:=by
    unfold lnX
    split
    ·exact hp
    ·exact nZ hp
   exact hX.line (by split<;>decide) hl
theorem rp {ls:List (List UInt8)} (hl: ∀s∈ls,s.length<1000): ∀(d i:Nat) (x y:Rd),i+d=ls.length→PI ls x.kd i 0 x.out x.ch→rdR (ls.drop i) i x= .ok y→PI ls y.kd ls.length 0 y.out y.ch
 | 0,i,x,y,h,hP,hy=>by
  obtain rfl:i=ls.length:=by omega
  rw[List.drop_length] at hy
  obtain rfl:=Except.ok.inj hy
  exact hP
 | d+1,i,x,y,h,hP,hy=>by
  rw[aM (show i<ls.length by omega)] at hy
  unfold rdR at hy
  cases hx:lnR (ls.getD i default) i x with
  | error e=>rw[hx] at hy; cases hy
  | ok z =>
   rw[hx] at hy
   exact rp hl d (i+1) z y (by omega) (lnR_pi (by
    rw[List.getD_eq_getElem?_getD,List.getElem?_eq_getElem (show i<ls.length by omega)]
    exact Nat.le_of_lt (hl _ (List.getElem_mem _))) hP hx) hy
theorem FRd_pi {ls:List (List UInt8)} (hl: ∀s∈ls,s.length<1000) {y:List Int×List ST} (h:FRd ls= .ok y):PI ls y.1 ls.length 0 y.2 []:=by
 unfold FRd at h
 cases hx:rdR ls 0 rd0 with
 | error e=>rw[hx] at h; cases h
 | ok x =>
  rw[hx] at h
  have hP:=rp hl ls.length 0 rd0 x (by omega) ⟨rfl,[],rfl,(fun p hp=>by cases hp),List.Pairwise.nil,(fun m hm=>by cases hm),by decide⟩ (by rw[List.drop_zero]; exact hx)
  simp only at h
  split at h
  ·cases h
  ·obtain rfl:=Except.ok.inj h
   exact hP.sub (List.nil_sublist _)
theorem RD_pi {n:List UInt8} {free:Bool} {ls:List (List UInt8)} (hl: ∀s∈ls,s.length<1000) {y:List Int×List ST} (h:RD n free ls= .ok y):PI ls y.1 ls.length 0 y.2 []:=by
 unfold RD at h
 split at h
 ·cases h
 ·cases free
  ·simp only[if_neg (c:=false=true) (by decide)] at h
   cases hx:FX ls with
   | error e=>rw[hx] at h; cases h
   | ok z =>
    rw[hx] at h
    obtain rfl:=Except.ok.inj h
    exact FX_pi hx
  ·simp only[eq_self,if_true] at h
   cases hx:FRd ls with
   | error e=>rw[hx] at h; cases h
   | ok z =>
    rw[hx] at h
    obtain rfl:=Except.ok.inj h
    exact FRd_pi hl hx
end Go.Proofs.YtjcbhbncncbdjaaGreatDoorAi
namespace Go.Proofs.YtjcbhbncncbdjaaGreatDoorAi
open Go Go.RowKit
set_option linter.unusedVariables false
set_option linter.unusedSimpArgs false
theorem lV {ls:List (List UInt8)} (hl:ls.length<9000000000000000000): ∀(d k:Nat),k+d=ls.length→ ∃r,iter (g_5.b0 ls) (k:Int)=some r∧((∃y,r= .inl y)∧(∀s∈ls.drop k,s.length≤200)∨r= .inr false)
 | 0,k,h=>by
  refine⟨.inl (k:Int),ai (by unfold g_5.b0; rw[if_neg (dn (by omega))]),.inl ⟨⟨_,rfl⟩,?_⟩⟩
  rw[show k=ls.length by omega,List.drop_length]
  intro s hs; cases hs
 | d+1,k,h=>by
  have key:g_5.b0 ls (k:Int)=some (if 200<(ls.getD k default).length then .inr (.inr false) else .inl ((k+1:Nat):Int)):=by
   unfold g_5.b0
   rw[if_pos (decide_eq_true (by omega)),if_pos ⟨by omega,by omega⟩,bf,up1 (by omega)]
   by_cases h2:200<(ls.getD k default).length
   ·rw[if_pos (decide_eq_true (by omega)),if_pos h2]
   ·rw[if_neg (dn (by omega)),if_neg h2]
  by_cases h2:200<(ls.getD k default).length
  ·rw[if_pos h2] at key
   exact⟨_,ai key,.inr rfl⟩
  ·rw[if_neg h2] at key
   obtain⟨r,r1,r2⟩:=lV hl d (k+1) (by omega)
   refine⟨r,by rw[az key]; exact r1,r2.imp (fun q=>⟨q.1,fun s hs=>?_⟩) id⟩
   rw[aM (show k<ls.length by omega)] at hs
   rcases List.mem_cons.1 hs with rfl | hs
   ·omega
   ·exact q.2 s hs
theorem few_f (n:List UInt8) {ls:List (List UInt8)} (hl:ls.length<9000000000000000000): ∃b,g_5.f n ls=some b∧(b=true→Few n ls∧ls.length≤405):=by
 obtain⟨r,r1,r2⟩:=lV hl ls.length 0 (by omega)
 have r1':iter (g_5.b0 ls) 0=some r:=r1
 unfold g_5.f
 rw[r1',Option.bind_some]
 rcases r2 with⟨⟨y,rfl⟩,hy⟩ | rfl
 ·refine⟨_,rfl,fun hb=>?_⟩
  rw[Bool.and_eq_true,decide_eq_true_eq,decide_eq_true_eq] at hb
  rw[List.drop_zero] at hy
  exact⟨⟨by omega,by omega,fun s hs=>by have:=hy s hs; omega⟩,by omega⟩
 ·exact⟨false,rfl,fun hb=>by cases hb⟩
theorem gM {ls:List (List UInt8)} (h:ls.length<1000000000):g_1.f ls=some ls:=by
 unfold g_1.f
 rw[if_pos ⟨by omega,by omega⟩,if_pos (by simp)]
theorem mP (n:List UInt8) (free:Bool) {ls:List (List UInt8)} (h:ls.length<1000000000):g_6.f n free ls=some (n,free,ls):=by
 unfold g_6.f
 rw[gM h,Option.bind_some]
theorem tx_at (l:List Mk1) (a:Nat):(tx l).getD a default=(l.getD a default).1:=by
 unfold tx
 rw[List.getD_eq_getElem?_getD,List.getElem?_map,List.getD_eq_getElem?_getD]
 cases l[a]? <;> rfl
theorem rr: ∀L:List (Int×List Mk1),(∀p∈L,p.2≠ [])→L.length≤(fl L).length∧ ∀p∈L,p.2.length≤(fl L).length
 | [],h=>⟨Nat.le_refl _,fun p hp=>by cases hp⟩
 | q::L,h=>by
  obtain⟨h1,h2⟩:=rr L (fun p hp=>h p (List.mem_cons_of_mem _ hp))
  have h0:0<q.2.length:=List.length_pos_iff.2 (h q (by simp))
  have e:fl (q::L)=q.2++fl L:=by unfold fl; simp
  rw[e,List.length_append]
  refine⟨by simp only[List.length_cons]; omega,fun p hp=>?_⟩
  rcases List.mem_cons.1 hp with rfl | hp
  ·omega
  ·have:=h2 p hp; omega
end Go.Proofs.YtjcbhbncncbdjaaGreatDoorAi
namespace Go.Proofs.YtjcbhbncncbdjaaGreatDoorAi
open Go Go.RowKit
set_option linter.unusedVariables false
set_option linter.unusedSimpArgs false
def nt (o:List ST):List (Int×List UInt8):=o.map fun s=>(s.1,s.2.1)
theorem ru {o o':List ST} {a:Int} {l l':List Mk1} (h:nt o=nt o') (hl:tx l=tx l'):nt (o++ [lK a l])=nt (o'++ [lK a l']):=by
 unfold nt at h ⊢
 rw[List.map_append,List.map_append,h]
 show _++ [(a,tx l)]=_++ [(a,tx l')]
 rw[hl]
def rtT (t:List UInt8):List UInt8:=(t.reverse.dropWhile (· == 32)).reverse
theorem dw_map (l:List Mk1):tx (l.dropWhile gw)=(tx l).dropWhile (· == 32):=by
 induction l with
 | nil=>rfl
 | cons m l ih =>
  have e:tx (m::l)=m.1::tx l:=rfl
  rw[e,List.dropWhile_cons,List.dropWhile_cons]
  have e2:gw m=(m.1==32):=rfl
  rw[e2]
  cases hm:(m.1==32)
  ·rfl
  ·exact ih
theorem rt_tx (l:List Mk1):tx (rt l)=rtT (tx l):=by
 unfold rt rtT
 have e: ∀k:List Mk1,tx k.reverse=(tx k).reverse:=fun k=>List.map_reverse
 rw[e,dw_map,e]
theorem rx {l:List Mk1}:tx l= []↔l= []:=List.map_eq_nil_iff
theorem mQ {l l':List Mk1} (h:tx l=tx l'):tx (rt l)=tx (rt l'):=by rw[rt_tx,rt_tx,h]
theorem mR {l l':List Mk1} (h:tx l=tx l'):tx (lf l)=tx (lf l'):=by rw[q9,q9,h]
theorem gX {l l':List Mk1} (h:tx l=tx l'):l= []↔l'= []:=by rw[← rx,← rx (l:=l'),h]
theorem n7 {l l':List Mk1} (h:tx l=tx l'):l.length=l'.length:=by rw[← ra l,← ra l',h]
theorem n8 {l l' m m':List Mk1} (h:tx l=tx l') (k:tx m=tx m'):tx (l++m)=tx (l'++m'):=by
 unfold tx at *
 rw[List.map_append,List.map_append,h,k]
theorem ry {l l':List Mk1} (n:Nat) (h:tx l=tx l'):tx (l.take n)=tx (l'.take n):=by
 unfold tx at *
 rw[List.map_take,List.map_take,h]
theorem rz {l l':List Mk1} (n:Nat) (h:tx l=tx l'):tx (l.drop n)=tx (l'.drop n):=by
 unfold tx at *
 rw[List.map_drop,List.map_drop,h]
theorem at_sim {l l':List Mk1} (n:Nat) (h:tx l=tx l'):(l.getD n default).1=(l'.getD n default).1:=by rw[← tx_at,← tx_at,h]
theorem n9: ∀{l l':List Mk1},tx l=tx l'→dgs l=dgs l'
 | [],[],_=>rfl
 | [],_::_,h=>by cases h
 | _::_,[],h=>by cases h
 | m::l,m'::l',h=>by
  have h1:m.1=m'.1:=(List.cons.inj h).1
  have h2:tx l=tx l':=(List.cons.inj h).2
  unfold dgs
  rw[h1,n9 h2]
theorem oa: ∀{l l':List Mk1} (v:Int),tx l=tx l'→vlD l v=vlD l' v
 | [],[],_,_=>rfl
 | [],_::_,_,h=>by cases h
 | _::_,[],_,h=>by cases h
 | m::l,m'::l',v,h=>by
  have h1:m.1=m'.1:=(List.cons.inj h).1
  have h2:tx l=tx l':=(List.cons.inj h).2
  unfold vlD
  rw[h1,oa _ h2]
structure SmF (x y:Fz):Prop where
 o:x.o=y.o
 f:x.f=y.f
 l:x.lb=y.lb
 c:tx x.ch=tx y.ch
 t:nt x.out=nt y.out
theorem oc {x y:Fz} (h:SmF x y) {o:List ST} (ho:fxE x=some o): ∃o',fxE y=some o'∧nt o=nt o':=by
 obtain⟨h1,h2,h3,h4,h5⟩:=h
 unfold fxE at ho ⊢
 rw[← h1,← h3]
 split at ho
 ·rename_i q
  obtain rfl:=Option.some.inj ho
  rw[if_pos q]
  exact⟨_,rfl,h5⟩
 ·rename_i q
  rw[if_neg q]
  split at ho
  ·cases ho
  ·rename_i q2
   obtain rfl:=Option.some.inj ho
   rw[if_neg (fun k=>q2 ((gX (mQ h4)).2 k))]
   exact⟨_,rfl,ru h5 (mQ h4)⟩
theorem lW (s:List UInt8) (i j:Nat):tx (cols s i)=tx (cols s j):=by
 unfold cols tx
 rw[List.map_map,List.map_map]; rfl
theorem fxL_sim {s:List UInt8} {i j:Nat} {x x' y:Fz} (h:SmF x x') (hy:fxL s i x= .ok y): ∃y',fxL s j x'= .ok y'∧SmF y y':=by
 obtain⟨h1,h2,h3,h4,h5⟩:=h
 have hE:=fun {o}=>oc (x:=x) (y:=x') ⟨h1,h2,h3,h4,h5⟩ (o:=o)
 have hg:goE s x=goE s x':=by unfold goE; rw[h1,h2]
 unfold fxL at hy ⊢
 rw[← hg]
 split at hy
 ·rename_i q
  obtain rfl:=Except.ok.inj hy
  rw[if_pos q]
  exact⟨_,rfl,h1,h2,h3,h4,h5⟩
 ·rename_i q
  rw[if_neg q]
  split at hy
  ·rename_i q2
   rw[if_pos q2]
   split at hy
   ·cases hy
   ·rename_i q3
    obtain rfl:=Except.ok.inj hy
    rw[if_neg q3]
    exact⟨_,rfl,h1,by show x.f+1=x'.f+1; rw[h2],h3,n8 h4 (lW s i j),h5⟩
  ·rename_i q2
   rw[if_neg q2]
   split at hy
   ·cases hy
   ·rename_i o ho
    obtain⟨o',ho',hn⟩:=hE ho
    rw[ho']
    split at hy
    ·cases hy
    ·rename_i q3
     obtain rfl:=Except.ok.inj hy
     simp only
     rw[if_neg q3]
     exact⟨_,rfl,rfl,rfl,rfl,lW s i j,hn⟩
theorem od: ∀{l:List (List UInt8)} {i j:Nat} {x x' y:Fz},SmF x x'→fxR l i x= .ok y→ ∃y',fxR l j x'= .ok y'∧SmF y y'
 | [],i,j,x,x',y,h,hy=>by
  obtain rfl:=Except.ok.inj hy
  exact⟨x',rfl,h⟩
 | s::l,i,j,x,x',y,h,hy=>by
  unfold fxR at hy ⊢
  cases hx:fxL s i x with
  | error e=>rw[hx] at hy; cases hy
  | ok z =>
   rw[hx] at hy
   obtain⟨z',hz,hs⟩:=fxL_sim (j:=j) h hx
   rw[hz]
   exact od hs hy
theorem lX (s:List UInt8) (l:List (List UInt8)) (i:Nat) (x:Fz):fxR (s::l) i x=match fxL s i x with | .error e=> .error e | .ok y=>fxR l (i+1) y:=rfl
theorem oe: ∀(a b:List (List UInt8)) (i:Nat) (x:Fz),fxR (a++b) i x=match fxR a i x with | .error e=> .error e | .ok y=>fxR b (i+a.length) y
 | [],b,i,x=>rfl
 | s::a,b,i,x=>by
  show fxR (s::(a++b)) i x=_
  rw[lX,lX]
  cases hx:fxL s i x with
  | error e=>rfl
  | ok z =>
   show fxR (a++b) (i+1) z=_
   rw[oe a b (i+1) z,List.length_cons,show i+1+a.length=i+(a.length+1) by omega]
theorem FX_more {a b:List (List UInt8)} {z:List UInt8} (hz:cm z=true) {y:List Int×List ST} (h:FX (a++b)= .ok y): ∃y',FX (a++z::b)= .ok y'∧nt y.2=nt y'.2:=by
 unfold FX at h ⊢
 rw[oe] at h ⊢
 cases hx:fxR a 0 fx0 with
 | error e=>rw[hx] at h; cases h
 | ok x =>
  rw[hx] at h
  simp only at h ⊢
  cases hy:fxR b (0+a.length) x with
  | error e=>rw[hy] at h; cases h
  | ok w =>
   rw[hy] at h
   have e1:fxL z (0+a.length) x= .ok { x with kd:=x.kd++ [0] }:=by unfold fxL; rw[if_pos hz]
   obtain⟨w',hw,hs⟩:=od (x:=x) (j:=0+a.length+1) (x':={ x with kd:=x.kd++ [0] }) ⟨rfl,rfl,rfl,rfl,rfl⟩ hy
   have e2:fxR (z::b) (0+a.length) x= .ok w':=by unfold fxR; rw[e1]; exact hw
   rw[e2]
   simp only at h ⊢
   cases ho:fxE w with
   | none=>rw[ho] at h; cases h
   | some o =>
    rw[ho] at h
    obtain rfl:=Except.ok.inj h
    obtain⟨o',ho',hn⟩:=oc hs ho
    rw[ho']
    exact⟨_,rfl,hn⟩
structure SmW (x y:Rw):Prop where
 q:x.q=y.q
 f:x.f=y.f
 s:x.st=y.st
 e:x.e=y.e
 c:tx x.ch=tx y.ch
 t:nt x.out=nt y.out
theorem enL_sim {l l':List Mk1} (h:tx l=tx l'):(enL l).1=(enL l').1∧tx (enL l).2.1=tx (enL l').2.1∧(enL l).2.2=(enL l').2.2:=by
 have h1:=mQ (mR h)
 unfold enL
 simp only
 rw[n9 h1,n7 h1,at_sim _ h1,oa 0 (ry (dgs (rt (lf l'))) h1)]
 split
 ·exact⟨rfl,mR (rz _ h1),rfl⟩
 ·exact⟨rfl,h1,rfl⟩
theorem lY {x y:Rw} (h:SmW x y):SmW (f9 x) (f9 y):=by
 obtain⟨h1,h2,h3,h4,h5,h6⟩:=h
 obtain⟨g1,g2,g3⟩:=enL_sim h5
 refine⟨h1,rfl,h3,?_,rfl,?_⟩
 ·unfold f9 enE
  simp only
  rw[h4,g3,n7 g2]
 ·unfold f9 enO
  simp only
  rw[← g1]
  by_cases q:(enL x.ch).2.1= []
  ·rw[if_pos q,if_pos ((gX g2).1 q)]; exact h6
  ·rw[if_neg q,if_neg (fun k=>q ((gX g2).2 k))]; exact ru h6 g2
theorem lZ {x y:Rw} (h:SmW x y) (c:UInt8) (i j a:Nat) (q:UInt8):SmW (eP x c i a q) (eP y c j a q):=by
 obtain⟨h1,h2,h3,h4,h5,h6⟩:=h
 have hf:i6 x c=i6 y c:=by unfold i6; simp only[gX (mR h5)]
 unfold eP
 rw[← hf]
 refine⟨rfl,h2,?_,h4,?_,h6⟩
 ·simp only; rw[h3]
 ·simp only
  cases i6 x c
  ·exact n8 h5 rfl
  ·rfl
theorem eK {i j:Nat}: ∀(l:List UInt8) (a:Nat) {x y:Rw},SmW x y→SmW (bY i l a x).1 (bY j l a y).1∧(bY i l a x).2=(bY j l a y).2
 | [],a,x,y,h=>⟨h,rfl⟩
 | c::r,a,x,y,h=>by
  have hq:=h.q
  unfold bY
  rw[← hq]
  split
  ·split
   ·exact⟨h,rfl⟩
   ·exact eK r (a+1) (lZ h c i j a _)
  ·split
   ·exact⟨h,rfl⟩
   ·split
    ·exact eK r (a+1) (lY h)
    ·split
     ·split
      ·exact⟨h,rfl⟩
      ·exact⟨h,rfl⟩
     ·exact eK r (a+1) (lZ h c i j a _)
structure SmR (x y:Rd):Prop where
 q:x.q=y.q
 g:x.go=y.go
 f:x.f=y.f
 c:tx x.ch=tx y.ch
 t:nt x.out=nt y.out
theorem kN {s:List UInt8} {i j:Nat} {x y:Rd} (h:SmR x y):SmW (lnP s i x).1 (lnP s j y).1∧(lnP s i x).2=(lnP s j y).2:=by
 obtain⟨h1,h2,h3,h4,h5⟩:=h
 have hA:lnA s x=lnA s y:=by unfold lnA; rw[h2]
 have hF:lnF x=lnF y:=by unfold lnF; rw[h2,h3]
 unfold lnP
 rw[hA]
 exact eK _ _ ⟨h1,hF,rfl,rfl,h4,h5⟩
theorem og {s:List UInt8} {i j:Nat} {x y:Rd} (h:SmR x y):SmW (lnX s i x) (lnX s j y):=by
 obtain⟨h1,h2⟩:=kN (s:=s) (i:=i) (j:=j) h
 have h3:=lY h1
 unfold lnX
 rw[← h2]
 split
 ·exact h1
 ·exact⟨rfl,h3.f,h3.s,h3.e,h3.c,h3.t⟩
theorem oY {s:List UInt8} {i j:Nat} {x y:Rd} (h:SmR x y):cU s i x=cU s j y:=by
 obtain⟨h1,h2⟩:=kN (s:=s) (i:=i) (j:=j) h
 have h3:=og (s:=s) (i:=i) (j:=j) h
 unfold cU
 rw[h2,h1.q,h3.e,h.q,h.g,h.f]
theorem lnR_sim {s:List UInt8} {i j:Nat} {x x' y:Rd} (h:SmR x x') (hy:lnR s i x= .ok y): ∃y',lnR s j x'= .ok y'∧SmR y y':=by
 have hE:=oY (s:=s) (i:=i) (j:=j) h
 have hX:=og (s:=s) (i:=i) (j:=j) h
 obtain⟨hP1,hP2⟩:=kN (s:=s) (i:=i) (j:=j) h
 unfold lnR at hy ⊢
 rw[← h.q,← hE]
 split at hy
 ·rename_i q
  obtain rfl:=Except.ok.inj hy
  rw[if_pos q]
  exact⟨_,rfl,rfl,h.g,h.f,h.c,h.t⟩
 ·rename_i q
  rw[if_neg q]
  split at hy
  ·cases hy
  ·rename_i q2
   obtain rfl:=Except.ok.inj hy
   rw[if_neg q2]
   exact⟨_,rfl,hX.q,by show(lnP s i x).2.1=(lnP s j x').2.1; rw[hP2],hX.f,hX.c,hX.t⟩
theorem oh: ∀{l:List (List UInt8)} {i j:Nat} {x x' y:Rd},SmR x x'→rdR l i x= .ok y→ ∃y',rdR l j x'= .ok y'∧SmR y y'
 | [],i,j,x,x',y,h,hy=>by
  obtain rfl:=Except.ok.inj hy
  exact⟨x',rfl,h⟩
 | s::l,i,j,x,x',y,h,hy=>by
  unfold rdR at hy ⊢
  cases hx:lnR s i x with
  | error e=>rw[hx] at hy; cases hy
  | ok z =>
   rw[hx] at hy
   obtain⟨z',hz,hs⟩:=lnR_sim (j:=j) h hx
   rw[hz]
   exact oh hs hy
theorem l3 (s:List UInt8) (l:List (List UInt8)) (i:Nat) (x:Rd):rdR (s::l) i x=match lnR s i x with | .error e=> .error e | .ok y=>rdR l (i+1) y:=rfl
theorem oi: ∀(a b:List (List UInt8)) (i:Nat) (x:Rd),rdR (a++b) i x=match rdR a i x with | .error e=> .error e | .ok y=>rdR b (i+a.length) y
 | [],b,i,x=>rfl
 | s::a,b,i,x=>by
  show rdR (s::(a++b)) i x=_
  rw[l3,l3]
  cases hx:lnR s i x with
  | error e=>rfl
  | ok z =>
   show rdR (a++b) (i+1) z=_
   rw[oi a b (i+1) z,List.length_cons,show i+1+a.length=i+(a.length+1) by omega]
theorem lnR_q {s:List UInt8} {i:Nat} {x y:Rd} (h:x.q≠0→x.go=true) (hy:lnR s i x= .ok y):y.q≠0→y.go=true:=by
 unfold lnR at hy
 split at hy
 ·obtain rfl:=Except.ok.inj hy
  exact h
 ·split at hy
  ·cases hy
  ·obtain rfl:=Except.ok.inj hy
   unfold lnY lnX
   simp only
   intro hq
   cases hg:(lnP s i x).2.1
   ·rw[hg,if_neg (by decide)] at hq
    exact absurd rfl hq
   ·rfl
theorem rdR_q: ∀{l:List (List UInt8)} {i:Nat} {x y:Rd},(x.q≠0→x.go=true)→rdR l i x= .ok y→y.q≠0→y.go=true
 | [],i,x,y,h,hy=>by
  obtain rfl:=Except.ok.inj hy
  exact h
 | s::l,i,x,y,h,hy=>by
  unfold rdR at hy
  cases hx:lnR s i x with
  | error e=>rw[hx] at hy; cases hy
  | ok z =>
   rw[hx] at hy
   exact rdR_q (lnR_q h hx) hy
theorem rA {a b:List (List UInt8)} {z:List UInt8} (hz:i9 z=true) {y:List Int×List ST} (h:FRd (a++b)= .ok y):(∃y',FRd (a++z::b)= .ok y'∧nt y.2=nt y'.2)∨ ∃e,FRd (a++z::b)= .error e∧e.2=3:=by
 unfold FRd at h ⊢
 rw[oi] at h ⊢
 cases hx:rdR a 0 rd0 with
 | error e=>rw[hx] at h; cases h
 | ok x =>
  rw[hx] at h
  simp only at h ⊢
  have hq:=rdR_q (x:=rd0) (fun k=>absurd rfl k) hx
  by_cases h0:x.q=0
  ·have e1:lnR z (0+a.length) x= .ok { x with kd:=x.kd++ [0] }:=by unfold lnR; rw[if_pos (by unfold skp; rw[h0,hz]; rfl)]
   left
   cases hy:rdR b (0+a.length) x with
   | error e=>rw[hy] at h; cases h
   | ok w =>
    rw[hy] at h
    obtain⟨w',hw,hs⟩:=oh (x:=x) (j:=0+a.length+1) (x':={ x with kd:=x.kd++ [0] }) ⟨rfl,rfl,rfl,rfl,rfl⟩ hy
    have e2:rdR (z::b) (0+a.length) x= .ok w':=by unfold rdR; rw[e1]; exact hw
    rw[e2]
    simp only at h ⊢
    rw[← hs.g]
    split at h
    ·cases h
    ·rename_i hg
     obtain rfl:=Except.ok.inj h
     rw[if_neg hg]
     exact⟨_,rfl,hs.t⟩
  ·right
   have hg:=hq h0
   have e1:lnR z (0+a.length) x= .error (0+a.length,3):=by
    have hm:bgM z=false:=by
     unfold bgM
     unfold i9 at hz
     rw[Bool.or_eq_true,decide_eq_true_eq,decide_eq_true_eq] at hz
     rcases hz with q | q
     ·rw[q]; rfl
     ·rw[q,Bool.and_eq_false_iff]; exact .inr (by decide)
    have hb:bgE z x.q=3:=by unfold bgE; rw[hm,if_neg (by decide),if_pos h0]
    have hf:dt (cU z (0+a.length) x)=3:=by
     unfold cU
     rw[hg,if_pos rfl,hb]
     rfl
    unfold lnR skp
    rw[decide_eq_false h0,hf]
    rfl
   have e2:rdR (z::b) (0+a.length) x= .error (0+a.length,3):=by unfold rdR; rw[e1]
   rw[e2]
   exact⟨_,rfl,rfl⟩
theorem oj (m:Nat) {z:List UInt8} (hz:lnE m z=0): ∀(a b:List (List UInt8)) (i j:Nat),(ckL m (a++b) i).2=0→(ckL m (a++z::b) j).2=0
 | [],b,i,j,h=>by
  have key: ∀(l:List (List UInt8)) (i j:Nat),(ckL m l i).2=0→(ckL m l j).2=0:=by
   intro l
   induction l with
   | nil=>intro i j h; rfl
   | cons s l ih =>
    intro i j h
    unfold ckL at h ⊢
    split at h
    ·rename_i q; exact absurd h q
    ·rename_i q; rw[if_neg q]; exact ih _ _ h
  show(ckL m (z::b) j).2=0
  unfold ckL
  rw[if_neg (fun k=>k hz)]
  exact key b i _ h
 | s::a,b,i,j,h=>by
  have h:(ckL m (s::(a++b)) i).2=0:=h
  show(ckL m (s::(a++z::b)) j).2=0
  unfold ckL at h ⊢
  split at h
  ·rename_i q; exact absurd h q
  ·rename_i q; rw[if_neg q]; exact oj m hz a b _ _ h
theorem RD_more {n:List UInt8} {free:Bool} {a b:List (List UInt8)} {z:List UInt8} (hl:(a++b).length<400) (hz:i9 z=true) (hc:cm z=true) (h8:lnE 80 z=0) (h132:lnE 132 z=0) {y:List Int×List ST} (h:RD n free (a++b)= .ok y) :
  (∃y',RD n free (a++z::b)= .ok y'∧nt y.2=nt y'.2)∨free=true∧ ∃e,RD n free (a++z::b)= .error e∧e.2=3:=by
 unfold RD at h ⊢
 split at h
 ·cases h
 ·rename_i hk
  have hk:(ckT n free (a++b)).2=0:=by apply Decidable.byContradiction; exact fun q=>hk q
  have hk':(ckT n free (a++z::b)).2=0:=by
   unfold ckT at hk ⊢
   split at hk
   ·exact absurd hk (by decide)
   ·rename_i q1
    rw[if_neg q1,if_neg (by simp at hl ⊢; omega)]
    rw[if_neg (by omega)] at hk
    exact oj _ (by unfold wd; split<;>assumption) a b _ _ hk
  rw[if_neg (fun q=>q hk')]
  cases free
  ·left
   simp only[if_neg (c:=false=true) (by decide)] at h ⊢
   cases hx:FX (a++b) with
   | error e=>rw[hx] at h; cases h
   | ok w =>
    rw[hx] at h
    obtain rfl:=Except.ok.inj h
    obtain⟨y',h1,h2⟩:=FX_more hc hx
    rw[h1]
    exact⟨_,rfl,h2⟩
  ·simp only[eq_self,if_true] at h ⊢
   cases hx:FRd (a++b) with
   | error e=>rw[hx] at h; cases h
   | ok w =>
    rw[hx] at h
    obtain rfl:=Except.ok.inj h
    rcases rA hz hx with⟨y',h1,h2⟩ | ⟨e,h1,h2⟩
    ·rw[h1]
     exact .inl ⟨_,rfl,h2⟩
    ·rw[h1]
     exact .inr ⟨trivial,_,rfl,h2⟩
theorem nt_at {o o':List ST} (h:nt o=nt o') (k:Nat):(o.getD k default).1=(o'.getD k default).1∧(o.getD k default).2.1=(o'.getD k default).2.1:=by
 have e: ∀p:List ST,(nt p).getD k default=((p.getD k default).1,(p.getD k default).2.1):=fun p=>by
  unfold nt
  rw[List.getD_eq_getElem?_getD,List.getElem?_map,List.getD_eq_getElem?_getD]
  cases p[k]? <;> rfl
 have:=(e o).symm.trans ((congrArg (fun l=>List.getD l k default) h).trans (e o'))
 exact Prod.mk.inj this
theorem eu {o o':List ST} (h:nt o=nt o') (hl:o.length=o'.length) (hb:o.length<1000000000): ∀(d k:Nat),k+d=o.length→ ∃y,iter (g_7.b0 o o') (k:Int)=some (.inl y)
 | 0,k,hk=>⟨_,ai (by unfold g_7.b0; rw[if_neg (dn (by omega))])⟩
 | d+1,k,hk=>by
  obtain⟨h1,h2⟩:=nt_at h k
  have key:g_7.b0 o o' (k:Int)=some (.inl ((k+1:Nat):Int)):=by
   unfold g_7.b0
   have hb1:0≤(k:Int)∧(k:Int)<(o.length:Int):=⟨by omega,by omega⟩
   have hb2:0≤(k:Int)∧(k:Int)<(o'.length:Int):=⟨by omega,by omega⟩
   simp only[bf,if_pos hb1,if_pos hb2,h1,h2]
   rw[if_pos (decide_eq_true hb1.2),if_neg (by simp),if_neg (by simp),up1 (by omega)]
  obtain⟨y,q⟩:=eu h hl hb d (k+1) (by omega)
  exact⟨y,by rw[az key]; exact q⟩
theorem l4 {o o':List ST} (h:nt o=nt o') (hb:o.length<1000000000):g_7.f o o'=some true:=by
 have hl:o.length=o'.length:=by
  have:=congrArg List.length h
  unfold nt at this
  simpa using this
 obtain⟨y,q⟩:=eu h hl hb o.length 0 (by omega)
 have q':iter (g_7.b0 o o') 0=some (.inl y):=q
 unfold g_7.f
 rw[if_neg (by simp[hl]),q',Option.bind_some]; rfl
theorem mod_f {a:Int} (ha: -9223372036854775808≤a∧a≤9223372036854775807) {m:Nat} (hm:0<m) (hm':m<1000): ∃k:Nat,g_2.f a (m:Int)=some (k:Int)∧k<m:=by
 unfold g_2.f g_0.f
 rw[if_pos (by omega),if_pos (by omega)]
 have h1:=Int.tmod_lt_of_pos a (show(0:Int)<(m:Int) by omega)
 have h2: -(m:Int)<Int.tmod a (m:Int):=by
  have:=Int.lt_tmod_of_pos a (show(0:Int)<(m:Int) by omega)
  omega
 by_cases hn:Int.tmod a (m:Int)<0
 ·rw[decide_eq_true hn,if_pos rfl,Option.bind_some,Int.mul_one,cE (x:=(m:Int)) (by omega) (by omega),cE (by omega) (by omega)]
  exact⟨(Int.tmod a (m:Int)+(m:Int)).toNat,by congr 1; omega,by omega⟩
 ·rw[decide_eq_false hn,if_neg (by decide),Option.bind_some,Int.mul_zero,cE (x:=(0:Int)) (by omega) (by omega),cE (by omega) (by omega)]
  exact⟨(Int.tmod a (m:Int)).toNat,by congr 1; omega,by omega⟩
theorem law05 (n:List UInt8) (free:Bool) (ls:List (List UInt8)) (hl:ls.length<9000000000000000000) {at_:Int} (ha: -9223372036854775808≤at_∧at_≤9223372036854775807) (blank:Bool):g_4.f n free ls at_ blank=some true:=by
 obtain⟨b,b1,b2⟩:=few_f n hl
 unfold g_4.f
 rw[show g_awake.f=some true from rfl,Option.bind_some,if_neg (by decide),b1,Option.bind_some]
 cases b
 ·rfl
 ·obtain⟨hF,h405⟩:=b2 rfl
  by_cases h400:400≤ls.length
  ·rw[if_pos (by rw[decide_eq_true (by omega)]; rfl)]
  rw[if_neg (by rw[decide_eq_false (by omega)]; decide),mP n free (by omega),Option.bind_some]
  simp only
  rw[eq hF,Option.bind_some]
  obtain⟨_,hne⟩:=ri (free:=free) hF
  cases hx:RD n free ls with
  | error e =>
   have:=hne e hx
   show(if(e.2 != 0)=true then _ else _)=_
   rw[if_pos (by simpa using this)]
  | ok y =>
   simp only
   rw[if_neg (by decide)]
   obtain⟨k,k1,k2⟩:=mod_f ha (m:=ls.length+1) (by omega) (by omega)
   rw[up1 (by omega),k1]
   have key: ∀z:List UInt8,z.length<1000→i9 z=true→cm z=true→lnE 80 z=0→lnE 132 z=0→(Option.bind (some (k:Int)) fun y28=>(if 0≤(0:Int)∧(0:Int)≤y28∧y28≤(ls.length:Int) then Option.bind (g_1.f (mid ls (0:Int) y28)) fun y34=>(if y34.length+([z]:List (List UInt8)).length<1000000000 then(if 0≤y28∧y28≤(ls.length:Int)∧(ls.length:Int)≤(ls.length:Int) then(if(y34++([z]:List (List UInt8))).length+(mid ls y28 (ls.length:Int)).length<1000000000 then Option.bind (g_9.f n free ((y34++([z]:List (List UInt8)))++(mid ls y28 (ls.length:Int)))) fun y62=>(if(y62.2.2 != 0) then some (free&&(y62.2.2==3)) else Option.bind (g_7.f y.2 y62.1) fun y77=>some y77) else none) else none) else none) else none))=some true:=by
    intro z hz h1 h2 h3 h4
    have hk:k≤ls.length:=by omega
    have htl:(ls.take k).length=k:=by rw[List.length_take]; omega
    rw[Option.bind_some,if_pos ⟨by omega,by omega,by omega⟩,gv,eI,gM (by omega),Option.bind_some,if_pos (by simp; omega),if_pos ⟨by omega,by omega,by omega⟩,if_pos (by simp; omega)]
    have e:ls.take k++ [z]++ls.drop k=ls.take k++z::ls.drop k:=by simp
    rw[e]
    have hF':Few n (ls.take k++z::ls.drop k):=⟨hF.n,by simp; omega,fun s hs=>by
     rcases List.mem_append.1 hs with q | q
     ·exact hF.e s (List.mem_of_mem_take q)
     ·rcases List.mem_cons.1 q with rfl | q
      ·exact hz
      ·exact hF.e s (List.mem_of_mem_drop q)⟩
    rw[eq hF',Option.bind_some]
    have hx':RD n free (ls.take k++ls.drop k)= .ok y:=by rw[List.take_append_drop]; exact hx
    rcases RD_more (by rw[List.take_append_drop]; omega) h1 h2 h3 h4 hx' with⟨y',q1,q2⟩ | ⟨rfl,e,q1,q2⟩
    ·rw[q1]
     show(if((0:Int) != 0)=true then _ else _)=_
     obtain⟨_,L,g1,g2,_,_,g5⟩:=RD_pi hF.e hx
     have hb:=rr L (fun p hp=>(g2 p hp).1)
     rw[List.append_nil] at g5
     rw[if_neg (by decide),l4 q2 (by rw[g1,List.length_map]; omega)]; rfl
    ·rw[q1]
     show(if(e.2 != 0)=true then some (true&&(e.2==3)) else _)=_
     rw[q2]; rfl
   cases blank
   ·rw[if_neg (by decide),Option.bind_some]
    exact key _ (by decide) (by decide) (by decide) (by decide) (by decide)
   ·rw[if_pos rfl,Option.bind_some]
    exact key _ (by decide) (by decide) (by decide) (by decide) (by decide)
end Go.Proofs.YtjcbhbncncbdjaaGreatDoorAi
namespace Go.Proofs.YtjcbhbncncbdjaaGreatDoorAi
open Go Go.RowKit
set_option linter.unusedVariables false
theorem wf64 {n:Int} (h:(Lit.int .i64 n).wf=true): -9223372036854775808≤n∧n≤9223372036854775807:=by
 have h2:IntKind.i64.min≤n∧n≤9223372036854775807:=by simpa[Lit.wf] using h
 exact⟨h2.1,h2.2⟩
theorem law05_calls {w:World} {μ:Mu} {nx:Nat} {ks:List cx} (gs:GS 11 w μ nx ks) {a:Option Addr} {z:Nat} {y:List UInt8×Bool×List (List UInt8)} {v:Value} (hf:Frz (elS 9) (Fk ks) a z y.2.2) (hb:y.2.2.length*16≤reachBytes) (hv:VR μ (.agg [aa y.1,.bool y.2.1,.slice a y.2.2.length z].toArray) v) (n:Int) (b:Bool) (hn:(Lit.int .i64 n).wf=true) :
  Calls Tryz.prog 5 #[v,.int .i64 n,.bool b] w fun e w'=>e= .returned (.bool true)∧Below w.heap.size w w' :=
 calls_M gs (gr hv (gr (.plain rfl) (gr (.plain rfl) (qH μ)))) Tryz.func5 rfl (fun _ _=>rfl) rfl (Cl.mono (g_4.ok (law05 y.1 y.2.1 y.2.2 (by
  have:reachBytes<2 ^ 47:=by decide
  omega) (wf64 hn) b) hf) fun v S F h=>h.2.1)
end Go.Proofs.YtjcbhbncncbdjaaGreatDoorAi
