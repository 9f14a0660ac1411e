/-
PuT0, PuT1, PuT2, PuT20, PuT21, PuT22, PuT23
-/
import Derived.Test.YtjcbhbncncbdjaaGreatDoorApX1a
import Derived.Test.YtjcbhbncncbdjaaGreatDoorApL
namespace Go.Proofs.YtjcbhbncncbdjaaGreatDoorAi
open Go Go.RowKit
set_option linter.unusedVariables false
set_option linter.unusedSimpArgs false
theorem dT {x:Int} (h1: -9223372036854775808≤x) (h2:x≤9223372036854775807):w64 x=x:=by
 unfold w64
 simp[IntKind.wrap,IntKind.bits,IntKind.signed]; omega
theorem up1 {n:Nat} (h:n<9000000000000000000):w64 ((n:Int)+1)=((n+1:Nat):Int):=by
 rw[dT (by omega) (by omega)]; rfl
theorem dU {α:Type} [Inhabited α] (l:List α) (n:Nat):gt l (n:Int)=l.getD n default:=rfl
def lK (c:UInt8):Bool:=decide (48≤c.toNat)&&decide (c.toNat≤57)
theorem lL (c:UInt8):g_l.f c=some (lK c):=by
 unfold g_l.f lK
 congr 2
 ·exact decide_eq_decide.2 (by show((48:Nat):Int)≤_↔_; omega)
 ·exact decide_eq_decide.2 (by show _≤((57:Nat):Int)↔_; omega)
theorem kJ (c:UInt8):g_d.f c=some (lK c):=by
 unfold g_d.f lK
 congr 2
 ·exact decide_eq_decide.2 (by show _≥((48:Nat):Int)↔_; omega)
 ·exact decide_eq_decide.2 (by show _≤((57:Nat):Int)↔_; omega)
theorem mid_all {α:Type} (l:List α) (n:Nat):mid l (n:Int) (l.length:Int)=l.drop n:=by
 unfold mid
 simp
theorem mid_to {α:Type} (l:List α) (n:Nat):mid l (0:Int) (n:Int)=l.take n:=by
 unfold mid
 simp
theorem pf (a b:UInt8):((a.toNat:Int)==(b.toNat:Int))=decide (a=b):=by
 rw[Bool.eq_iff_iff]
 simp only[beq_iff_eq,decide_eq_true_eq]
 constructor
 ·intro h; exact UInt8.toNat_inj.1 (by omega)
 ·intro h; rw[h]
theorem u8ne (a b:UInt8):((a.toNat:Int) != (b.toNat:Int))= !decide (a=b):=by
 rw[bne,pf]
theorem kK (l:List UInt8) (i:Nat):(⟨l.toArray⟩:ByteArray).get! i=l.getD i default:=by
 show l.toArray[i]! = _
 simp[List.getD_eq_getElem?_getD]
theorem dec_lo {l:List UInt8} {p:Nat} (h:(l.getD p default).toNat<128):dec l p=((l.getD p default).toNat,1):=by
 unfold dec Utf8.decode
 simp only[Nat.add_zero,kK]
 rw[if_pos h]
theorem dec_hi {l:List UInt8} {p:Nat} (h: ¬ (l.getD p default).toNat<128):126<(dec l p).1:=by
 unfold dec Utf8.decode
 simp only[Nat.add_zero,kK]
 rw[if_neg h]
 split
 ·split
  ·simp only; omega
  ·decide
 ·split
  ·split
   ·rename_i h2
    simp only[Bool.and_eq_true,decide_eq_true_eq] at h2
    simp only; omega
   ·decide
  ·split
   ·split
    ·rename_i h2
     simp only[Bool.and_eq_true,decide_eq_true_eq] at h2
     simp only; omega
    ·decide
   ·decide
theorem bE {α:Type} [Inhabited α] {t:List α} {a:Nat} (h:a<t.length):t.drop a=t.getD a default::t.drop (a+1):=by
 rw[List.drop_eq_getElem_cons h,List.getD_eq_getElem?_getD,List.getElem?_eq_getElem h]; rfl
def shw (f c:UInt8):Bool:=decide (f.toNat≤c.toNat)&&decide (c.toNat≤126)
theorem kL (r:Nat) {f:UInt8} (hf:f.toNat<128):g_o.f (r:Int) f=some (!(decide (f.toNat≤r)&&decide (r≤126))):=by
 unfold g_o.f
 have:IntKind.i32.wrap ((f.toNat:Nat):Int)=f.toNat:=by
  simp[IntKind.wrap,IntKind.bits,IntKind.signed]; omega
 rw[this]
 congr 1
 by_cases h1:f.toNat≤r<;>by_cases h2:r≤126<;>simp[h1,h2]<;>omega
theorem dV {f:UInt8} (hf:f.toNat<128) (t:List UInt8): ∀d x:Nat,x+d=t.length →
  if(t.drop x).all (shw f)=true then iter (g_y.b0 t f true) x=some (.inl t.length) else ∃k:Nat,iter (g_y.b0 t f true) x=some (.inr (k:Int))
 | 0,x,h=>by
  rw[show x=t.length by omega,List.drop_length]
  exact al (by unfold g_y.b0; rw[if_neg (by simp)])
 | d+1,x,h=>by
  have ih:=dV hf t d (x+1) (by omega)
  have key:g_y.b0 t f true x=if(decide (f.toNat≤(dec t x).1)&&decide ((dec t x).1≤126))=true then some (.inl (x+(dec t x).2)) else some (.inr (.inr (x:Int))):=by
   unfold g_y.b0
   rw[if_pos (decide_eq_true (by omega)),kL _ hf,Option.bind_some]
   cases(decide (f.toNat≤(dec t x).1)&&decide ((dec t x).1≤126))<;>rfl
  rw[bE (by omega),List.all_cons]
  by_cases hb:(t.getD x default).toNat<128
  ·rw[dec_lo hb] at key
   cases hs:shw f (t.getD x default)
   ·rw[Bool.false_and,if_neg (by decide)]
    unfold shw at hs
    exact⟨x,al (key.trans (if_neg (by rw[hs]; decide)))⟩
   ·rw[Bool.true_and]
    unfold shw at hs
    rw[av (key.trans (if_pos hs))]
    exact ih
  ·have hh:=dec_hi hb
   have hs:shw f (t.getD x default)=false:=by unfold shw; rw[decide_eq_false (show ¬ (t.getD x default).toNat≤126 by omega),Bool.and_false]
   rw[hs,Bool.false_and,if_neg (by decide)]
   exact⟨x,al (key.trans (if_neg (by rw[decide_eq_false (show ¬ (dec t x).1≤126 by omega),Bool.and_false]; decide)))⟩
theorem np {f:UInt8} (hf:f.toNat<128) (t:List UInt8):g_n.f t f=some (t.all (shw f)):=by
 have h:=dV hf t t.length 0 (by omega)
 rw[List.drop_zero] at h
 unfold g_n.f g_x.f g_y.f
 cases hs:t.all (shw f)
 ·rw[hs,if_neg (by decide)] at h
  obtain⟨k,hk⟩:=h
  rw[hk]
  simp[cu]
 ·rw[hs,if_pos rfl] at h
  rw[h]
  simp[cu]
theorem dn {p:Prop} [Decidable p] (h: ¬ p): ¬ decide p=true:=by simpa using h
theorem cU (b:Bool) (e:Int):g_v.f b e=some (if b=true then 0 else e):=by
 unfold g_v.f; cases b<;>rfl
theorem nq {l:List Int} {k:Nat} (h:k=l.length):iter (g_j.b0 l) (k:Int)=some (.inl (l.length:Int)):=by
 subst h
 exact al (by unfold g_j.b0; rw[if_neg (by simp)])
def kM:List Int→Int
 | []=>0
 | a::l=>if a≠0 then a else kM l
theorem ig {l:List Int} (hl:l.length<1000): ∀(d k:Nat),k+d=l.length→ ∃r,iter (g_j.b0 l) (k:Int)=some r∧(match r with | .inl _=>(0:Int) | .inr e=>e)=kM (l.drop k)
 | 0,k,h=>by
  refine⟨.inl (l.length:Int),nq (by omega),?_⟩
  rw[show k=l.length by omega,List.drop_length]; rfl
 | d+1,k,h=>by
  have key:g_j.b0 l (k:Int)=some (if(l.getD k default)≠0 then .inr (.inr (l.getD k default)) else .inl ((k+1:Nat):Int)):=by
   unfold g_j.b0
   rw[if_pos (decide_eq_true (by omega)),if_pos ⟨by omega,by omega⟩,dU,up1 (by omega)]
   by_cases h0:l.getD k default=0
   ·rw[h0]; rfl
   ·rw[if_pos (by simpa using h0),if_pos h0]
  rw[bE (by omega)]
  unfold kM
  by_cases h0:l.getD k default=0
  ·rw[if_neg (by simpa using h0)] at key ⊢
   obtain⟨r,h1,h2⟩:=ig hl d (k+1) (by omega)
   exact⟨r,by rw[av key]; exact h1,h2⟩
  ·rw[if_pos h0] at key ⊢
   exact⟨.inr (l.getD k default),al key,rfl⟩
theorem jP {l:List Int} (hl:l.length<1000):g_j.f l=some (kM l):=by
 unfold g_j.f
 obtain⟨r,h1,h2⟩:=ig hl l.length 0 (by omega)
 have h1':iter (g_j.b0 l) 0=some r:=h1
 rw[h1',Option.bind_some]
 rw[List.drop_zero] at h2
 rw[← h2]
 cases r<;>rfl
end Go.Proofs.YtjcbhbncncbdjaaGreatDoorAi
namespace Go.Proofs.YtjcbhbncncbdjaaGreatDoorAi
open Go Go.RowKit
set_option linter.unusedVariables false
set_option linter.unusedSimpArgs false
structure Few (n:List UInt8) (ls:List (List UInt8)):Prop where
 n:n.length<1000
 l:ls.length<1000
 e: ∀s∈ls,s.length<1000
theorem Few.at {n:List UInt8} {ls:List (List UInt8)} (h:Few n ls) {k:Nat} (hk:k<ls.length):(ls.getD k default).length<1000:=by
 rw[List.getD_eq_getElem?_getD,List.getElem?_eq_getElem hk]
 exact h.e _ (List.getElem_mem hk)
theorem frst2 (a b:Int):kM [a,b]=if a≠0 then a else b:=by
 unfold kM kM kM
 by_cases h:a=0
 ·by_cases h2:b=0<;>simp[h,h2]
 ·simp[h]
theorem lM (c:UInt8):g_3.f (IntKind.i64.wrap (c.toNat:Int)) 32 126=some (shw 32 c):=by
 have hc:=c.toNat_lt
 have:IntKind.i64.wrap (c.toNat:Int)=(c.toNat:Int):=dT (by omega) (by omega)
 unfold g_3.f shw
 rw[this]
 congr 1
 have e32:(32:UInt8).toNat=32:=rfl
 rw[e32]
 by_cases h1:32≤c.toNat<;>by_cases h2:c.toNat≤126<;>simp[h1,h2]<;>omega
theorem fO {l:List UInt8} (hl:l.length<1000000): ∀(d k:Nat),k+d=l.length→ ∃r,iter (g_1.b0 l) (k:Int)=some r∧(match r with | .inl _=>true | .inr b=>b)=(l.drop k).all (shw 32)
 | 0,k,h=>by
  refine⟨.inl (k:Int),al (by unfold g_1.b0; rw[if_neg (by simp; omega)]),?_⟩
  rw[show k=l.length by omega,List.drop_length]; rfl
 | d+1,k,h=>by
  have key:g_1.b0 l (k:Int)=some (if shw 32 (l.getD k default)=true then .inl ((k+1:Nat):Int) else .inr (.inr false)):=by
   unfold g_1.b0
   rw[if_pos (decide_eq_true (by omega)),if_pos ⟨by omega,by omega⟩,dU,up1 (by omega),lM,Option.bind_some]
   cases shw 32 (l.getD k default)<;>rfl
  rw[bE (by omega),List.all_cons]
  cases h0:shw 32 (l.getD k default)
  ·rw[h0] at key
   exact⟨.inr false,al key,rfl⟩
  ·rw[h0] at key
   obtain⟨r,h1,h2⟩:=fO hl d (k+1) (by omega)
   exact⟨r,by rw[av key]; exact h1,by rw[h2]; rfl⟩
theorem pg {l:List UInt8} (hl:l.length<1000000) (m:Nat):g_1.f l (m:Int)=some (decide (l.length≤m)&&l.all (shw 32)):=by
 unfold g_1.f
 by_cases h:l.length≤m
 ·rw[if_neg (by simp; omega),decide_eq_true h]
  obtain⟨r,h1,h2⟩:=fO hl l.length 0 (by omega)
  have h1':iter (g_1.b0 l) 0=some r:=h1
  rw[List.drop_zero] at h2
  rw[h1',Option.bind_some,← h2]
  cases r<;>rfl
 ·rw[if_pos (by simp; omega),decide_eq_false h]; rfl
end Go.Proofs.YtjcbhbncncbdjaaGreatDoorAi
namespace Go.Proofs.YtjcbhbncncbdjaaGreatDoorAi
open Go Go.RowKit
set_option linter.unusedVariables false
set_option linter.unusedSimpArgs false
abbrev Pl:Type:=Int×Int×Int
abbrev ST:Type:=Int×List UInt8×List Pl
theorem ph {α:Type} (p:α→Bool): ∀l:List α,(l.dropWhile p).length≤l.length
 | []=>Nat.le_refl _
 | a::l=>by
  rw[List.dropWhile_cons]
  split
  ·exact Nat.le_succ_of_le (ph p l)
  ·exact Nat.le_refl _
end Go.Proofs.YtjcbhbncncbdjaaGreatDoorAi
namespace Go.Proofs.YtjcbhbncncbdjaaGreatDoorAi
open Go Go.RowKit
set_option linter.unusedVariables false
set_option linter.unusedSimpArgs false
def txE (t:List UInt8):Int:=if 1320<t.length then 8 else if t.all (shw 32)=true then 0 else 3
theorem nr {t:List UInt8}:g_u.f t=some (txE t):=by
 unfold g_u.f txE
 rw[cU,Option.bind_some,np (by decide),Option.bind_some,cU,Option.bind_some,jP (by show 2<1000; decide),Option.bind_some,frst2]
 by_cases h:1320<t.length
 ·rw[if_neg (c:=decide _=true) (dn (by omega)),if_pos h,if_pos (by decide)]
 ·rw[if_pos (c:=decide _=true) (decide_eq_true (by omega)),if_neg h,if_neg (c:=(0:Int)≠0) (by decide)]
def nt (t:List UInt8):Bool:=decide (t.getD 0 default=32)||decide (t.getD (t.length-1) default=32)
theorem trim_eq {t:List UInt8} (ht:t≠ []):decide (Lib.trimB t 32=t)= !nt t:=by
 have hlen:0<t.length:=List.length_pos_iff.2 ht
 have hdl: ∀l:List UInt8,(l.dropWhile (· == 32)).length≤l.length:=fun l=>ph _ l
 unfold Lib.trimB Lib.trimLeftB Lib.trimRightB nt
 rw[Bool.eq_iff_iff,decide_eq_true_eq,Bool.not_eq_true',Bool.or_eq_false_iff,decide_eq_false_iff_not,decide_eq_false_iff_not]
 have hrev:t.reverse≠ []:=by simpa using ht
 have hlast:t.reverse.getD 0 default=t.getD (t.length-1) default:=by
  rw[List.getD_eq_getElem?_getD,List.getD_eq_getElem?_getD,List.getElem?_reverse hlen]
  rfl
 constructor
 ·intro h
  have e1:((t.reverse.dropWhile (· == 32)).reverse).length=t.length:=by
   have h1:=hdl (t.reverse.dropWhile (· == 32)).reverse
   rw[h] at h1
   have h2:=hdl t.reverse
   rw[List.length_reverse] at h1 h2 ⊢
   omega
  have keep: ∀l:List UInt8,l≠ []→(l.dropWhile (· == 32)).length=l.length→ ¬ l.getD 0 default=32:=by
   intro l hl he
   cases l with
   | nil=>exact absurd rfl hl
   | cons c l =>
    intro hc
    have hc:c=32:=hc
    rw[List.dropWhile_cons,if_pos (by rw[hc]; rfl)] at he
    have:=hdl l
    simp at he
    omega
  have k2:=keep t.reverse hrev (by rw[List.length_reverse] at e1; rw[e1,List.length_reverse])
  rw[hlast] at k2
  have e2:(t.reverse.dropWhile (· == 32)).reverse=t:=by
   have:t.reverse.dropWhile (· == 32)=t.reverse:=by
    cases hr:t.reverse with
    | nil=>rfl
    | cons c l =>
     rw[List.dropWhile_cons,if_neg]
     intro hc
     rw[hr] at hlast
     exact k2 (by rw[← hlast]; simpa using hc)
   rw[this,List.reverse_reverse]
  rw[e2] at h
  exact⟨keep t ht (by rw[h]),k2⟩
 ·rintro⟨h1,h2⟩
  have nd: ∀l:List UInt8,¬ l.getD 0 default=32→l.dropWhile (· == 32)=l:=by
   intro l hl
   cases l with
   | nil=>rfl
   | cons c l =>
    rw[List.dropWhile_cons,if_neg]
    intro hc
    exact hl (by simpa using hc)
  rw[nd t.reverse (by rw[hlast]; exact h2),List.reverse_reverse]
  exact nd t h1
def stE (n:Int) (t:List UInt8):Int:=if ¬ (0≤n∧n≤99999) then 31 else if txE t≠0 then txE t else if t= [] then 17 else if nt t=true then 3 else 0
theorem dW {n:Int} {t:List UInt8} (ht:t.length<1000000):g_t.f n t=some (stE n t):=by
 unfold g_t.f g_Trim.f g_w.f
 simp only
 rw[Option.bind_some,cU,Option.bind_some,nr,Option.bind_some,cU,Option.bind_some,if_pos (c:=(32:UInt8).toNat<128∧_) ⟨by decide,by omega⟩,Option.bind_some,cU,Option.bind_some,jP (by show 4<1000; decide),Option.bind_some]
 congr 1
 unfold stE
 show(if _≠0 then _ else if _≠0 then _ else if _≠0 then _ else if _≠0 then _ else 0)=_
 by_cases hn:0≤n∧n≤99999
 ·have e:(decide ((0:Int)≤n)&&decide (n≤99999))=true:=by rw[Bool.and_eq_true,decide_eq_true_eq,decide_eq_true_eq]; exact hn
  rw[e]
  simp only[if_true,ne_eq,not_true,if_false,hn,and_self]
  by_cases hx:txE t=0
  ·simp only[hx,not_true,if_false]
   by_cases h0:t= []
   ·subst h0; rfl
   ·rw[trim_eq h0]
    simp only[h0,decide_false,Bool.not_false,if_true,not_true,if_false]
    cases nt t<;>rfl
  ·simp only[hx,not_false_eq_true,if_true]
 ·have e:(decide ((0:Int)≤n)&&decide (n≤99999))=false:=by
   rw[Bool.and_eq_false_iff,decide_eq_false_iff_not,decide_eq_false_iff_not]
   omega
  rw[e]
  simp only[hn,not_false_eq_true,if_true,Bool.false_eq_true,if_false]
  rfl
def isS (c:UInt8):Bool:=decide (c=33)||decide (c=59)||decide (c=38)
def ii (c:UInt8):Bool:=decide (c=39)||decide (c=34)
def qz:List UInt8→UInt8→Bool×UInt8
 | [],q=>(false,q)
 | c::l,q=>if q≠0 then qz l (if c=q then 0 else q) else if ii c=true then qz l c else if isS c=true then(true,(qz l q).2) else qz l q
theorem isQS {c:UInt8} (h:ii c=true):isS c=false:=by
 unfold ii at h
 rw[Bool.or_eq_true,decide_eq_true_eq,decide_eq_true_eq] at h
 rcases h with h | h<;>rw[h]<;>decide
theorem b8 {t:List UInt8} (ht:t.length<1000000): ∀(d k:Nat) (e:Int) (q:UInt8),k+d=t.length→iter (g_k.b0 t) (e,q,(k:Int))=some (if(qz (t.drop k) q).1=true then 3 else e,(qz (t.drop k) q).2,(t.length:Int))
 | 0,k,e,q,h=>by
  rw[List.drop_eq_nil_of_le (by omega)]
  refine al ?_
  unfold g_k.b0
  simp only
  rw[if_neg (dn (by omega)),show k=t.length by omega]; rfl
 | d+1,k,e,q,h=>by
  have hb:0≤(k:Int)∧(k:Int)<(t.length:Int):=⟨by omega,by omega⟩
  have key:g_k.b0 t (e,q,(k:Int))=some (.inl (if q≠0 then(e,(if t.getD k default=q then 0 else q),((k+1:Nat):Int)) else if ii (t.getD k default)=true then(e,t.getD k default,((k+1:Nat):Int)) else if isS (t.getD k default)=true then(3,q,((k+1:Nat):Int)) else(e,q,((k+1:Nat):Int)))):=by
   unfold g_k.b0 g_m.f
   simp only[if_pos hb,dU,pf,u8ne,up1 (show k<9000000000000000000 by omega),Option.bind_some]
   rw[if_pos (decide_eq_true hb.2)]
   generalize t.getD k default=c
   by_cases hq:q=0
   ·rw[decide_eq_true hq,if_neg (c:=(!true)=true) (by decide),if_neg (c:=q≠0) (fun k=>k hq)]
    show(if ii c=true then _ else if isS c=true then _ else _)=_
    cases ii c
    ·cases isS c<;>rfl
    ·rfl
   ·rw[decide_eq_false hq,if_pos (c:=(!false)=true) rfl,if_pos (c:=q≠0) hq]
    by_cases h5:c=q
    ·rw[decide_eq_true h5,if_pos h5]; rfl
    ·rw[decide_eq_false h5,if_neg h5]; rfl
  rw[av key,bE (show k<t.length by omega)]
  generalize t.getD k default=c
  unfold qz
  by_cases hq:q≠0
  ·rw[if_pos hq,if_pos hq]
   exact b8 ht d (k+1) e _ (by omega)
  ·rw[if_neg hq,if_neg hq]
   cases hQ:ii c
   ·rw[if_neg (c:=false=true) (by decide),if_neg (c:=false=true) (by decide)]
    cases hS:isS c
    ·rw[if_neg (c:=false=true) (by decide),if_neg (c:=false=true) (by decide)]
     exact b8 ht d (k+1) e q (by omega)
    ·rw[if_pos (c:=true=true) rfl,if_pos (c:=true=true) rfl,b8 ht d (k+1) 3 q (by omega)]
     simp
   ·rw[if_pos (c:=true=true) rfl,if_pos (c:=true=true) rfl]
    exact b8 ht d (k+1) e c (by omega)
def frE (t:List UInt8):Int:=if lK (t.getD 0 default)=true then 3 else if(qz t 0).1=true then 3 else if(qz t 0).2≠0 then 21 else 0
theorem i0 {t:List UInt8} (ht:t.length<1000000) (h0:t≠ []):g_k.f t=some (frE t):=by
 have hlen:0<t.length:=List.length_pos_iff.2 h0
 have hi:=fun e=>b8 ht t.length 0 e 0 (by omega)
 simp only[List.drop_zero] at hi
 have hi': ∀e,iter (g_k.b0 t) (e,0,0)=some (if(qz t 0).1=true then 3 else e,(qz t 0).2,(t.length:Int)):=hi
 have hd:gt t (0:Int)=t.getD 0 default:=rfl
 unfold g_k.f frE
 rw[if_pos ⟨by decide,by omega⟩,hd,lL,Option.bind_some,cU,Option.bind_some,hi',Option.bind_some]
 simp only
 rw[pf,cU,Option.bind_some,jP (by show 2<1000; decide),Option.bind_some,frst2]
 cases lK (t.getD 0 default)<;>cases hq:(qz t 0).1<;>by_cases hz:(qz t 0).2=0<;>simp[hz]
def prE (n:Int) (t:List UInt8) (free:Bool):Int:=if stE n t≠0 then stE n t else if free=true then frE t else 0
theorem lN {n:Int} {t:List UInt8} (h:stE n t=0):t≠ []∧(0≤n∧n≤99999)∧t.length≤1320:=by
 unfold stE at h
 split at h
 ·exact absurd h (by decide)
 ·rename_i hn
  split at h
  ·rename_i hx; exact absurd h hx
  ·rename_i hx
   split at h
   ·exact absurd h (by decide)
   ·rename_i h0
    refine⟨h0,?_,?_⟩
    ·apply Decidable.byContradiction; exact hn
    ·unfold txE at hx
     apply Decidable.byContradiction
     intro q
     rw[if_pos (by omega)] at hx
     exact hx (by decide)
theorem nv {t:List UInt8} (ht:t.length<1000000):g_9.f t=some (txE t):=by
 unfold g_9.f txE
 have h1:g_1.f t 1320=some (decide (t.length≤1320)&&t.all (shw 32)):=pg ht 1320
 by_cases h:1320<t.length
 ·rw[if_pos (decide_eq_true (by omega)),if_pos h]
 ·rw[if_neg (dn (by omega)),if_neg h,h1,Option.bind_some,decide_eq_true (show t.length≤1320 by omega),Bool.true_and]
  cases t.all (shw 32)<;>rfl
theorem ch {t:List UInt8} (ht:t.length<1000000): ∀(d k:Nat) (q:UInt8),k+d=t.length→ ∃r,iter (g_7.b0 t true) (q,(k:Int))=some r∧match r with | .inl y=>(qz (t.drop k) q).1=false∧y.1=(qz (t.drop k) q).2 | .inr e=>(qz (t.drop k) q).1=true∧e=3
 | 0,k,q,h=>by
  rw[List.drop_eq_nil_of_le (by omega)]
  exact⟨.inl (q,(k:Int)),al (by unfold g_7.b0; simp only; rw[if_neg (by rw[decide_eq_false (by omega)]; decide)]),rfl,rfl⟩
 | d+1,k,q,h=>by
  have hb:0≤(k:Int)∧(k:Int)<(t.length:Int):=⟨by omega,by omega⟩
  have key:g_7.b0 t true (q,(k:Int))=some (if q≠0 then .inl ((if t.getD k default=q then 0 else q),((k+1:Nat):Int)) else if ii (t.getD k default)=true then .inl (t.getD k default,((k+1:Nat):Int)) else if isS (t.getD k default)=true then .inr (.inr 3) else .inl ((if t.getD k default=q then 0 else q),((k+1:Nat):Int))):=by
   unfold g_7.b0
   simp only[if_pos hb,dU,pf,up1 (show k<9000000000000000000 by omega),Bool.and_true]
   rw[if_pos (decide_eq_true hb.2)]
   generalize t.getD k default=c
   have e1:(decide (c=33)||decide (c=59)||decide (c=38))=isS c:=rfl
   have e2:(decide (c=39)||decide (c=34))=ii c:=rfl
   rw[e1,e2]
   by_cases hq:q=0
   ·rw[decide_eq_true hq,Bool.true_and,Bool.true_and,if_neg (c:=q≠0) (fun k=>k hq)]
    cases hQ:ii c
    ·cases hS:isS c
     ·by_cases h5:c=q
      ·rw[decide_eq_true h5,if_pos h5]; rfl
      ·rw[decide_eq_false h5,if_neg h5]; rfl
     ·rfl
    ·rw[isQS hQ]; rfl
   ·rw[decide_eq_false hq,Bool.false_and,Bool.false_and,if_pos (c:=q≠0) hq]
    by_cases h5:c=q
    ·rw[decide_eq_true h5,if_pos h5]; rfl
    ·rw[decide_eq_false h5,if_neg h5]; rfl
  rw[bE (show k<t.length by omega)]
  generalize t.getD k default=c at *
  unfold qz
  by_cases hq:q≠0
  ·rw[if_pos hq] at key
   rw[if_pos hq]
   obtain⟨r,r1,r2⟩:=ch ht d (k+1) (if c=q then 0 else q) (by omega)
   exact⟨r,by rw[av key]; exact r1,r2⟩
  ·rw[if_neg hq] at key
   rw[if_neg hq]
   cases hQ:ii c
   ·rw[hQ,if_neg (c:=false=true) (by decide)] at key
    rw[if_neg (c:=false=true) (by decide)]
    cases hS:isS c
    ·rw[hS,if_neg (c:=false=true) (by decide)] at key
     rw[if_neg (c:=false=true) (by decide)]
     have hq0:q=0:=by apply Decidable.byContradiction; exact hq
     have e:(if c=q then 0 else q)=q:=by split<;>simp[hq0]
     rw[e] at key
     obtain⟨r,r1,r2⟩:=ch ht d (k+1) q (by omega)
     exact⟨r,by rw[av key]; exact r1,r2⟩
    ·rw[hS,if_pos (c:=true=true) rfl] at key
     rw[if_pos (c:=true=true) rfl]
     exact⟨_,al key,rfl,rfl⟩
   ·rw[hQ,if_pos (c:=true=true) rfl] at key
    rw[if_pos (c:=true=true) rfl]
    obtain⟨r,r1,r2⟩:=ch ht d (k+1) c (by omega)
    exact⟨r,by rw[av key]; exact r1,r2⟩
theorem ny (a b c:Int):g_3.f a b c=some (decide (b≤a)&&decide (a≤c)):=by
 unfold g_3.f
 congr 1
 rw[Bool.eq_iff_iff]
 simp
theorem iA {n:Int} {t:List UInt8} (ht:t.length<1000000) (free:Bool):g_7.f n t free=some (prE n t free):=by
 unfold g_7.f prE stE
 rw[ny,Option.bind_some]
 by_cases hn:0≤n∧n≤99999
 ·rw[if_neg (by rw[decide_eq_true hn.1,decide_eq_true hn.2]; decide),nv ht,Option.bind_some,if_neg (c:= ¬ (0≤n∧n≤99999)) (fun k=>k hn)]
  by_cases hx:txE t=0
  ·rw[if_neg (c:=(txE t != 0)=true) (by rw[hx]; decide),if_neg (c:=txE t≠0) (fun k=>k hx)]
   by_cases h0:t= []
   ·rw[if_pos (c:=decide (t= [])=true) (decide_eq_true h0),if_pos h0]; rfl
   ·have hlen:0<t.length:=List.length_pos_iff.2 h0
    have hb:0≤(0:Int)∧(0:Int)<(t.length:Int):=⟨by decide,by omega⟩
    have hw:w64 ((t.length:Int)-1)=((t.length-1:Nat):Int):=by rw[dT (by omega) (by omega)]; omega
    have hb2:0≤((t.length-1:Nat):Int)∧((t.length-1:Nat):Int)<(t.length:Int):=⟨by omega,by omega⟩
    rw[if_neg (c:=decide (t= [])=true) (dn h0),if_neg h0,hw]
    simp only[if_pos hb,if_pos hb2,pf,dU,kJ,Option.bind_some,show gt t (0:Int)=t.getD 0 default from rfl]
    have hends: ∀{β:Type} (f:Bool→Option β),Option.bind (if decide (t.getD 0 default=32)=true then some true else some (decide (t.getD (t.length-1) default=32))) f=f (nt t):=by
     intro β f
     unfold nt
     by_cases h1:t.getD 0 default=32
     ·rw[decide_eq_true h1]; rfl
     ·rw[decide_eq_false h1]; rfl
    rw[hends]
    cases he:nt t
    ·rw[if_neg (c:=false=true) (by decide),if_neg (c:=false=true) (by decide),if_neg (c:=(0:Int)≠0) (by decide)]
     cases free
     ·rw[if_neg (c:=false=true) (by decide),Option.bind_some,if_neg (c:=false=true) (by decide),if_neg (c:=false=true) (by decide)]
      have hs:iter (g_7.b0 t false) (0,0)=some (.inl (0,0)):=al (by unfold g_7.b0; simp only; rw[if_neg (by rw[Bool.and_false]; decide)])
      rw[hs]; rfl
     ·rw[if_pos (c:=true=true) rfl,Option.bind_some,if_pos (c:=true=true) rfl]
      unfold frE
      cases lK (t.getD 0 default)
      ·rw[if_neg (c:=false=true) (by decide),if_neg (c:=false=true) (by decide)]
       obtain⟨r,r1,r2⟩:=ch ht t.length 0 0 (by omega)
       rw[List.drop_zero] at r2
       have r1':iter (g_7.b0 t true) (0,0)=some r:=r1
       rw[r1',Option.bind_some]
       cases r with
       | inr e =>
        obtain⟨q1,rfl⟩:=r2
        rw[q1]; rfl
       | inl y =>
        obtain⟨q1,q2⟩:=r2
        rw[q1,← q2]
        show(if((y.1.toNat:Int) != ((0:UInt8).toNat:Int))=true then some 21 else some 0)=some (if false=true then 3 else if y.1≠0 then 21 else 0)
        rw[u8ne]
        by_cases hz:y.1=0
        ·rw[hz]; rfl
        ·rw[decide_eq_false hz,if_neg (c:=false=true) (by decide),if_pos (c:=y.1≠0) hz]; rfl
      ·rfl
    ·rfl
  ·rw[if_pos (c:=(txE t != 0)=true) (by simpa using hx),if_pos (c:=txE t≠0) hx,if_pos hx]
 ·rw[if_pos (c:=(!(decide (0≤n)&&decide (n≤99999)))=true) (by
   rw[Bool.not_eq_true',Bool.and_eq_false_iff,decide_eq_false_iff_not,decide_eq_false_iff_not]
   omega),if_pos (c:= ¬ (0≤n∧n≤99999)) hn]
  rfl
end Go.Proofs.YtjcbhbncncbdjaaGreatDoorAi
namespace Go.Proofs.YtjcbhbncncbdjaaGreatDoorAi
open Go Go.RowKit
set_option linter.unusedVariables false
set_option linter.unusedSimpArgs false
theorem pi: ∀(k u:Nat),1≤k→u<10 ^ k→(Lib.decDigits u).length≤k
 | 0,u,h,_=>absurd h (by omega)
 | k+1,u,_,hu=>by
  rw[Lib.decDigits]
  split
  ·simp
  ·rename_i h10
   rw[List.length_append]
   have hk:1≤k:=by
    rcases Nat.eq_zero_or_pos k with h | h
    ·subst h; simp at hu; omega
    ·exact h
   have:=pi k (u/10) hk (by rw[Nat.pow_succ] at hu; omega)
   simp; omega
def lbl (n:Int):List UInt8:=if n=0 then [] else Lib.itoa n
theorem jQ {n:Int} (h0:0≤n) (h1:n≤99999):(lbl n).length≤5:=by
 unfold lbl Lib.itoa
 split
 ·simp
 ·rw[if_neg (by omega)]
  exact pi 5 n.toNat (by decide) (by
   have:(10:Nat) ^ 5=100000:=by decide
   omega)
theorem fP {n:Int} (h0:0≤n) (h1:n≤99999):g_p.f n=some (lbl n):=by
 unfold g_p.f g_Itoa.f lbl
 by_cases h:n=0
 ·rw[if_pos (by simpa using h),if_pos h]
 ·rw[if_neg (by simpa using h),if_neg h,if_pos ⟨by omega,by omega⟩]; rfl
theorem pj: ∀(f u:Nat),u<f→u<100000→hJ (fun self (x:Int)=>g_0.F self x) f (u:Int)=some (Lib.decDigits u)
 | 0,u,h,_=>absurd h (by omega)
 | f+1,u,h,hu=>by
  show g_0.F (hJ (fun self (x:Int)=>g_0.F self x) f) (u:Int)=_
  have ih:=fun v (hv:v<f) (hv':v<100000)=>pj f v hv hv'
  generalize hJ (fun self (x:Int)=>g_0.F self x) f=self at ih ⊢
  unfold g_0.F
  rw[if_neg (c:=decide ((u:Int)<0)=true) (dn (by omega)),Lib.decDigits]
  by_cases h9:9<u
  ·rw[if_pos (c:=decide ((u:Int)>9)=true) (decide_eq_true (by omega)),dif_neg (by omega)]
   have e1:w64 (Int.tdiv (u:Int) 10)=((u/10:Nat):Int):=by
    have:Int.tdiv (u:Int) 10=((u/10:Nat):Int):=by rw[Int.tdiv_eq_ediv_of_nonneg (by omega)]; omega
    rw[this,dT (by omega) (by omega)]
   have e2:Int.tmod (u:Int) 10=((u % 10:Nat):Int):=by rw[Int.tmod_eq_emod_of_nonneg (by omega)]; omega
   rw[e1,e2,ih _ (by omega) (by omega),ih _ (by omega) (by omega),Option.bind_some,Option.bind_some]
   have hl:=pi 5 (u/10) (by decide) (by
    have:(10:Nat) ^ 5=100000:=by decide
    omega)
   have e3:Lib.decDigits (u % 10)= [UInt8.ofNat (48+u % 10)]:=Lib.decDigits_one (by omega)
   rw[e3,if_pos (by simp; omega)]
  ·rw[if_neg (c:=decide ((u:Int)>9)=true) (dn (by omega)),dif_pos (by omega),up1 (by omega),if_pos ⟨by omega,by omega,by simp; omega⟩]
   have:u=0∨u=1∨u=2∨u=3∨u=4∨u=5∨u=6∨u=7∨u=8∨u=9:=by omega
   rcases this with rfl | rfl | rfl | rfl | rfl | rfl | rfl | rfl | rfl | rfl<;>rfl
theorem nA {n:Int} (h0:0<n) (h1:n≤99999):g_0.f n=some (lbl n):=by
 obtain⟨u,rfl⟩: ∃u:Nat,n=(u:Int):=⟨n.toNat,by omega⟩
 unfold g_0.f lbl Lib.itoa fixO
 rw[pj 100000 u (by omega) (by omega),if_neg (by omega),if_neg (by omega)]; rfl
def chN (k:Nat):Nat→List UInt8→List (List UInt8)
 | 0,t=>[t]
 | n+1,t=>if t.length≤k then [t] else t.take k::chN k n (t.drop k)
theorem f5 (k:Nat): ∀(n:Nat) (t:List UInt8),(chN k n t).length≤n+1
 | 0,t=>Nat.le_refl _
 | n+1,t=>by
  unfold chN
  split
  ·simp
  ·have:=f5 k n (t.drop k); simp; omega
theorem pk (k:Nat): ∀(n:Nat) (t:List UInt8),chN k n t≠ []
 | 0,t=>by unfold chN; simp
 | n+1,t=>by unfold chN; split<;>simp
theorem lO (k:Nat): ∀(n:Nat) (t:List UInt8),∀p∈chN k n t,p.length≤t.length
 | 0,t,p,hp=>by
  obtain rfl:=List.mem_singleton.1 hp
  exact Nat.le_refl _
 | n+1,t,p,hp=>by
  unfold chN at hp
  split at hp
  ·obtain rfl:=List.mem_singleton.1 hp
   exact Nat.le_refl _
  ·rcases List.mem_cons.1 hp with rfl | hp
   ·rw[List.length_take]; omega
   ·have:=lO k n _ p hp
    rw[List.length_drop] at this; omega
theorem fQ {k:Nat} (hk:1≤k) (hk':k<1000): ∀(n:Nat) (t:List UInt8) (acc:List (List UInt8)),t.length≤n→acc.length+n<100000000→t.length<1000000 →
  ∃l a,iter (g_q.b0 (k:Int)) (t,acc)=some (l,a)∧a++ [l]=acc++chN k n t∧a.length≤acc.length+n
 | 0,t,acc,h,ha,ht=>by
  refine⟨t,acc,al ?_,by unfold chN; rfl,by omega⟩
  unfold g_q.b0
  simp only
  rw[if_neg (dn (by omega))]
 | n+1,t,acc,h,ha,ht=>by
  by_cases hl:t.length≤k
  ·refine⟨t,acc,al ?_,by unfold chN; rw[if_pos hl],by omega⟩
   unfold g_q.b0
   simp only
   rw[if_neg (dn (by omega))]
  ·have key:g_q.b0 (k:Int) (t,acc)=some (.inl (t.drop k,acc++ [t.take k])):=by
    unfold g_q.b0
    simp only
    rw[if_pos (decide_eq_true (by omega)),if_pos ⟨by omega,by omega,by omega⟩,mid_to,mid_all,if_pos (by simp; omega),if_pos ⟨by omega,by omega,Int.le_refl _⟩]
   obtain⟨l,a,q1,q2,q3⟩:=fQ hk hk' n (t.drop k) (acc++ [t.take k]) (by rw[List.length_drop]; omega) (by simp; omega) (by rw[List.length_drop]; omega)
   refine⟨l,a,by rw[av key]; exact q1,?_,by simp at q3; omega⟩
   rw[q2,chN,if_neg hl,List.append_assoc]; rfl
theorem kN {k:Nat} (hk:1≤k) (hk':k<1000) {t:List UInt8} (ht:t.length<1000000):g_q.f t (k:Int)=some (chN k t.length t):=by
 obtain⟨l,a,q1,q2,q3⟩:=fQ hk hk' t.length t [] (Nat.le_refl _) (by simp; omega) ht
 unfold g_q.f
 rw[q1,Option.bind_some,if_pos (by simp at q3 ⊢; omega),q2]; rfl
def mp (g:Bool→Bool→List UInt8→List UInt8):Bool→List (List UInt8)→List (List UInt8)
 | _,[]=>[]
 | f,p::r=>g f r.isEmpty p::mp g false r
theorem pm (g:Bool→Bool→List UInt8→List UInt8): ∀(f:Bool) (l:List (List UInt8)),(mp g f l).length=l.length
 | _,[]=>rfl
 | f,p::r=>by unfold mp; rw[List.length_cons,pm g false r,List.length_cons]
def bk (n:Nat):List UInt8:=List.replicate n 32
def gF (lab:List UInt8) (f _l:Bool) (p:List UInt8):List UInt8:=(if f=true then bk (5-lab.length)++lab++ [32] else bk 5++ [38])++p
def gR (lab:List UInt8) (f l:Bool) (p:List UInt8):List UInt8:=(if f=true then(if lab= [] then [] else lab++ [32]) else [38])++p++(if l=true then [] else [38])
theorem kO {c:Nat} (hc:c<1000):g_Repeat.f [32] (c:Int)=some (bk c):=by
 unfold g_Repeat.f
 rw[if_pos ⟨by omega,by omega,by simp; omega⟩]
 have:=Lib.repeatL_replicate (32:UInt8) 1 c
 rw[Nat.mul_one] at this
 exact congrArg some this
theorem lP {α:Type} [Inhabited α] {pre rest:List α} {p:α} {i:Nat} (h:pre.length=i):(pre++p::rest).getD i default=p:=by
 rw[List.getD_eq_getElem?_getD,List.getElem?_append_right (by omega),h,Nat.sub_self]; rfl
theorem jR {α:Type} {pre rest:List α} {p v:α} {i:Nat} (h:pre.length=i):(pre++p::rest).set i v=(pre++ [v])++rest:=by
 rw[List.set_append_right _ _ (by omega),h,Nat.sub_self]; simp
theorem ij {lab:List UInt8} (hlab:lab.length≤5) {y4:List (List UInt8)} (hy:y4.length<1000000): ∀(rest pre:List (List UInt8)) (i:Nat),pre.length=i→i+rest.length=y4.length→(∀p∈rest,p.length<1000000) →
  ∃j,iter (g_g.b0 lab y4) (pre++rest,(i:Int))=some (pre++mp (gF lab) (decide (i=0)) rest,j)
 | [],pre,i,h,hn,_=>by
  refine⟨(i:Int),al ?_⟩
  unfold g_g.b0 mp
  simp only
  rw[if_neg (dn (by simp at hn; omega))]
 | p::rest,pre,i,h,hn,hp=>by
  simp only[List.length_cons] at hn
  have hpl:=hp p (by simp)
  have hb:0≤(i:Int)∧(i:Int)<((pre++p::rest).length:Int):=⟨by omega,by simp; omega⟩
  have hbk: ∀c,(bk c).length=c:=fun c=>by unfold bk; rw[List.length_replicate]
  have key:g_g.b0 lab y4 (pre++p::rest,(i:Int))=some (.inl ((pre++ [gF lab (decide (i=0)) rest.isEmpty p])++rest,((i+1:Nat):Int))):=by
   unfold g_g.b0
   simp only[if_pos hb]
   have r5:g_Repeat.f [32] 5=some (bk 5):=kO (c:=5) (by omega)
   have rl:g_Repeat.f [32] (w64 (5-(lab.length:Int)))=some (bk (5-lab.length)):=by
    rw[dT (by omega) (by omega),show(5:Int)-(lab.length:Int)=((5-lab.length:Nat):Int) by omega]
    exact kO (by omega)
   rw[if_pos (decide_eq_true (by omega)),r5,Option.bind_some,if_pos (by simp[hbk]),rl,dU,lP h,up1 (by omega)]
   have hz:(if((i:Int)==0)=true then Option.bind (some (bk (5-lab.length))) fun y28=>(if y28.length+lab.length<1000000000 then(if(y28++lab).length+([32]:List UInt8).length<1000000000 then some ((y28++lab)++ [32]) else none) else none) else some (bk 5++ [38]))=some (if decide (i=0)=true then bk (5-lab.length)++lab++ [32] else bk 5++ [38]):=by
    by_cases h0:i=0
    ·rw[if_pos (by simp; omega),Option.bind_some,if_pos (by rw[hbk]; omega),if_pos (by rw[List.length_append,hbk]; simp; omega),if_pos (decide_eq_true h0)]
    ·rw[if_neg (by simp; omega),if_neg (dn h0)]
   rw[hz,Option.bind_some]
   have hlt:(if decide (i=0)=true then bk (5-lab.length)++lab++ [32] else bk 5++ [38]).length≤6:=by
    split<;>simp[hbk]<;>omega
   rw[if_pos (by omega)]
   congr 2
   show((pre++p::rest).set (i:Int).toNat _,_)=_
   rw[show((i:Int).toNat)=i from rfl,jR h]
   rfl
  obtain⟨j,q⟩:=ij hlab hy rest (pre++ [gF lab (decide (i=0)) rest.isEmpty p]) (i+1) (by simp[h]) (by omega) (fun x hx=>hp x (List.mem_cons_of_mem _ hx))
  refine⟨j,?_⟩
  rw[av key,q]
  have:decide (i+1=0)=false:=by simp
  rw[this,mp,List.append_assoc]
  rfl
theorem lQ {n:Int} (h0:0≤n) (h1:n≤99999) {t:List UInt8} (ht:t.length<100000):g_g.f n t=some (mp (gF (lbl n)) true (chN 66 t.length t)):=by
 have hl:=f5 66 t.length t
 obtain⟨j,q⟩:=ij (jQ h0 h1) (y4:=chN 66 t.length t) (by omega) (chN 66 t.length t) [] 0 rfl (by simp) (fun p hp=>by have:=lO 66 _ _ p hp; omega)
 have q':iter (g_g.b0 (lbl n) (chN 66 t.length t)) (chN 66 t.length t,0)=some (mp (gF (lbl n)) true (chN 66 t.length t),j):=q
 have hp:g_q.f t 66=some (chN 66 t.length t):=kN (k:=66) (by omega) (by omega) (by omega)
 unfold g_g.f
 rw[fP h0 h1,Option.bind_some,hp,Option.bind_some,q']; rfl
def gP (f l:Bool) (p:List UInt8):List UInt8:=(if f=true then [] else [38])++(p++(if l=true then [] else [38]))
theorem i3 {y2:List (List UInt8)} (hy:y2.length<1000000): ∀(rest pre:List (List UInt8)) (i:Nat),pre.length=i→i+rest.length=y2.length→(∀p∈rest,p.length<1000000) →
  ∃j,iter (g_i.b0 y2) (pre++rest,(i:Int))=some (pre++mp gP (decide (i=0)) rest,j)
 | [],pre,i,h,hn,_=>by
  refine⟨(i:Int),al ?_⟩
  unfold g_i.b0 mp
  simp only
  rw[if_neg (dn (by simp at hn; omega))]
 | p::rest,pre,i,h,hn,hp=>by
  simp only[List.length_cons] at hn
  have hpl:=hp p (by simp)
  have hb:0≤(i:Int)∧(i:Int)<((pre++p::rest).length:Int):=⟨by omega,by simp; omega⟩
  have key:g_i.b0 y2 (pre++p::rest,(i:Int))=some (.inl ((pre++ [gP (decide (i=0)) rest.isEmpty p])++rest,((i+1:Nat):Int))):=by
   unfold g_i.b0
   simp only[if_pos hb]
   rw[if_pos (decide_eq_true (by omega)),dT (x:=(y2.length:Int)-1) (by omega) (by omega),dU,lP h,up1 (by omega)]
   have hz:(if decide ((i:Int)<(y2.length:Int)-1)=true then(if p.length+([38]:List UInt8).length<1000000000 then some (cP (pre++p::rest) (i:Int) ((p++ [38]):List UInt8)) else none) else some (pre++p::rest))=some (pre++(p++(if rest.isEmpty=true then [] else [38]))::rest):=by
    cases rest with
    | nil =>
     rw[if_neg (dn (by simp at hn; omega))]
     simp
    | cons r rs =>
     rw[if_pos (decide_eq_true (by simp at hn; omega)),if_pos (by simp; omega)]
     show some ((pre++p::r::rs).set (i:Int).toNat _)=_
     rw[show((i:Int).toNat)=i from rfl,jR h]
     simp
   rw[hz,Option.bind_some]
   generalize hv:p++(if rest.isEmpty=true then [] else [38])=v
   have hvl:v.length<1000002:=by rw[← hv]; split<;>simp<;>omega
   have hb2:0≤(i:Int)∧(i:Int)<((pre++v::rest).length:Int):=⟨by omega,by simp; omega⟩
   simp only[if_pos hb2]
   rw[dU,lP h]
   unfold gP
   rw[hv]
   by_cases h0:i=0
   ·rw[if_neg (c:=decide ((i:Int)>0)=true) (dn (by omega)),decide_eq_true h0]
    simp
   ·rw[if_pos (c:=decide ((i:Int)>0)=true) (decide_eq_true (by omega)),if_pos (by simp; omega),decide_eq_false h0]
    congr 2
    show((pre++v::rest).set (i:Int).toNat _,_)=_
    rw[show((i:Int).toNat)=i from rfl,jR h]
    rfl
  obtain⟨j,q⟩:=i3 hy rest (pre++ [gP (decide (i=0)) rest.isEmpty p]) (i+1) (by simp[h]) (by omega) (fun x hx=>hp x (List.mem_cons_of_mem _ hx))
  refine⟨j,?_⟩
  rw[av key,q]
  have:decide (i+1=0)=false:=by simp
  rw[this,mp,List.append_assoc]
  rfl
theorem kP (lab:List UInt8): ∀l:List (List UInt8),mp gP false l=mp (gR lab) false l
 | []=>rfl
 | p::r=>by
  have e: ∀e,gP false e p=gR lab false e p:=by intro e; cases e<;>simp[gP,gR]
  unfold mp
  rw[kP lab r,e]
theorem jS {n:Int}:lbl n= []↔n=0:=by
 unfold lbl
 split
 ·rename_i h; simp[h]
 ·rename_i h
  refine⟨fun q=>?_,fun q=>absurd q h⟩
  unfold Lib.itoa at q
  split at q
  ·cases q
  ·have:=congrArg List.length q
   rw[Lib.decDigits] at this
   split at this<;>simp at this
theorem nB {n:Int} (h0:0≤n) (h1:n≤99999) {t:List UInt8} (ht:t.length<100000):g_i.f n t=some (mp (gR (lbl n)) true (chN 100 t.length t)):=by
 have hl:=f5 100 t.length t
 have hel: ∀p∈chN 100 t.length t,p.length<1000000:=fun p hp=>by have:=lO 100 _ _ p hp; omega
 obtain⟨j,q⟩:=i3 (y2:=chN 100 t.length t) (by omega) (chN 100 t.length t) [] 0 rfl (by simp) hel
 have q':iter (g_i.b0 (chN 100 t.length t)) (chN 100 t.length t,0)=some (mp gP true (chN 100 t.length t),j):=q
 have hp:g_q.f t 100=some (chN 100 t.length t):=kN (k:=100) (by omega) (by omega) (by omega)
 have hlab:=jQ h0 h1
 unfold g_i.f
 rw[hp,Option.bind_some,q',Option.bind_some]
 simp only
 cases hc:chN 100 t.length t with
 | nil=>exact absurd hc (pk _ _ _)
 | cons p r =>
  have hpl:=hel p (by rw[hc]; simp)
  unfold mp
  rw[kP (lbl n) r]
  by_cases hn:n=0
  ·rw[if_neg (c:=(n != 0)=true) (by simpa using hn)]
   have:lbl n= []:=jS.2 hn
   rw[this]
   unfold gP gR
   rw[if_pos rfl,if_pos rfl,if_pos rfl,List.append_assoc]
  ·have hne:lbl n≠ []:=fun k=>hn (jS.1 k)
   have hg:gt (gP true r.isEmpty p::mp (gR (lbl n)) false r) (0:Int)=gP true r.isEmpty p:=rfl
   have hgl:(gP true r.isEmpty p).length<1000010:=by cases r.isEmpty<;>simp[gP]<;>omega
   rw[if_pos (c:=(n != 0)=true) (by simpa using hn),if_pos (by simp),fP h0 h1,Option.bind_some,if_pos (by simp; omega)]
   have hb:0≤(0:Int)∧(0:Int)<((gP true r.isEmpty p::mp (gR (lbl n)) false r).length:Int):=⟨by decide,by simp⟩
   simp only[if_pos hb]
   rw[hg,if_pos (by simp; omega)]
   show some (((lbl n++ [32])++gP true r.isEmpty p)::mp (gR (lbl n)) false r)=_
   unfold gP gR
   rw[if_pos rfl,if_pos rfl,if_neg hne,List.nil_append,← List.append_assoc (lbl n++ [32])]
end Go.Proofs.YtjcbhbncncbdjaaGreatDoorAi
namespace Go.Proofs.YtjcbhbncncbdjaaGreatDoorAi
open Go Go.RowKit
set_option linter.unusedVariables false
set_option linter.unusedSimpArgs false
theorem pn (c:Nat):(bk c).length=c:=by unfold bk; rw[List.length_replicate]
theorem fj {n:Nat} (hn:n<1000): ∀(d k:Nat),k+d=n→iter (g_a.b0 (n:Int)) (bk k,(k:Int))=some (bk n,(n:Int))
 | 0,k,h=>by
  obtain rfl:k=n:=by omega
  exact al (by unfold g_a.b0; simp only; rw[if_neg (dn (by omega))])
 | d+1,k,h=>by
  have key:g_a.b0 (n:Int) (bk k,(k:Int))=some (.inl (bk (k+1),((k+1:Nat):Int))):=by
   unfold g_a.b0
   simp only
   have hl:=pn k
   rw[if_pos (decide_eq_true (by omega)),if_pos (by rw[hl]; simp; omega),up1 (by omega)]
   unfold bk
   rw[List.replicate_succ']
  rw[av key]
  exact fj hn d (k+1) (by omega)
theorem i4 {n:Nat} (hn:n<1000):g_a.f (n:Int)=some (bk n):=by
 have h:iter (g_a.b0 (n:Int)) ([],0)=some (bk n,(n:Int)):=fj hn n 0 (by omega)
 unfold g_a.f
 rw[h]; rfl
theorem upk {a k:Nat} (h:a+k<9000000000000000000):w64 ((a:Int)+(k:Int))=((a+k:Nat):Int):=by rw[dT (by omega) (by omega)]; omega
theorem min_i (a b:Nat):(if(a:Int)<(b:Int) then(a:Int) else(b:Int))=((min a b:Nat):Int):=by
 by_cases h:a<b
 ·rw[if_pos (by omega)]; omega
 ·rw[if_neg (by omega)]; omega
theorem po (t:List UInt8) (a k:Nat):mid t (a:Int) ((min (a+k) t.length:Nat):Int)=(t.drop a).take k:=by
 show(t.take (min (a+k) t.length)).drop a=_
 rw[List.drop_take]
 rcases Nat.le_total (a+k) t.length with h | h
 ·rw[Nat.min_eq_left h]; congr 1; omega
 ·rw[Nat.min_eq_right h,List.take_of_length_le (by rw[List.length_drop]; omega),List.take_of_length_le (by rw[List.length_drop]; omega)]
theorem fR {t lab:List UInt8} (ht:t.length<100000) (hlab:lab.length≤5): ∀(n a:Nat) (out:List (List UInt8)),t.length-a≤n→a<t.length→out.length+n<1000000 →
  ∃j,iter (g_b.b0 t lab) (out,(a:Int))=some (out++mp (gF lab) (decide (a=0)) (chN 66 n (t.drop a)),j)
 | 0,a,out,h,ha,_=>absurd h (by omega)
 | n+1,a,out,h,ha,ho=>by
  have r5:g_a.f 5=some (bk 5):=i4 (n:=5) (by omega)
  have rl:g_a.f (w64 (5-(lab.length:Int)))=some (bk (5-lab.length)):=by
   rw[dT (by omega) (by omega),show(5:Int)-(lab.length:Int)=((5-lab.length:Nat):Int) by omega]
   exact i4 (by omega)
  have hb:=pn
  have e66:w64 ((a:Int)+66)=((a+66:Nat):Int):=upk (k:=66) (by omega)
  have key:g_b.b0 t lab (out,(a:Int))=some (.inl (out++ [(if decide (a=0)=true then bk (5-lab.length)++lab++ [32] else bk 5++ [38])++(t.drop a).take 66],((a+66:Nat):Int))):=by
   unfold g_b.b0
   simp only[e66,min_i,po,rl,r5,Option.bind_some]
   rw[if_pos (decide_eq_true (by omega)),if_pos (by rw[hb]; omega),if_pos (by rw[List.length_append,hb]; simp; omega)]
   have hz:(if decide ((a:Int)>0)=true then(if(bk 5).length+([38]:List UInt8).length<1000000000 then some (bk 5++ [38]) else none) else some ((bk (5-lab.length)++lab)++ [32]))=some (if decide (a=0)=true then bk (5-lab.length)++lab++ [32] else bk 5++ [38]):=by
    by_cases h0:a=0
    ·rw[if_neg (dn (by omega)),if_pos (decide_eq_true h0)]
    ·rw[if_pos (decide_eq_true (by omega)),if_pos (by rw[hb]; simp),if_neg (dn h0)]
   rw[hz,Option.bind_some]
   have hlt:(if decide (a=0)=true then bk (5-lab.length)++lab++ [32] else bk 5++ [38]).length≤6:=by
    split<;>simp[hb]<;>omega
   have htl:((t.drop a).take 66).length≤66:=by rw[List.length_take]; omega
   rw[if_pos ⟨by omega,by omega,by omega⟩,if_pos (by omega),if_pos (by simp; omega)]
  by_cases hl:(t.drop a).length≤66
  ·rw[List.length_drop] at hl
   refine⟨((a+66:Nat):Int),?_⟩
   rw[av key]
   have e1:(t.drop a).take 66=t.drop a:=List.take_of_length_le (by rw[List.length_drop]; omega)
   rw[e1,chN,if_pos (c:=(List.drop a t).length≤66) (by rw[List.length_drop]; omega)]
   exact al (by unfold g_b.b0; simp only; rw[if_neg (dn (by omega))]; rfl)
  ·rw[List.length_drop] at hl
   obtain⟨j,q⟩:=fR ht hlab n (a+66) (out++ [(if decide (a=0)=true then bk (5-lab.length)++lab++ [32] else bk 5++ [38])++(t.drop a).take 66]) (by omega) (by omega) (by simp; omega)
   refine⟨j,?_⟩
   rw[av key,q,chN,if_neg (c:=(List.drop a t).length≤66) (by rw[List.length_drop]; omega),mp,List.drop_drop,List.append_assoc]
   have:decide (a+66=0)=false:=by simp
   rw[this]
   rfl
theorem pp {t lab:List UInt8} (ht:t.length<100000) (h0:t≠ []) (hlab:lab.length≤5):g_b.f t lab=some (mp (gF lab) true (chN 66 t.length t)):=by
 have hlen:0<t.length:=List.length_pos_iff.2 h0
 obtain⟨j,q⟩:=fR ht hlab t.length 0 [] (by omega) hlen (by simp; omega)
 have q':iter (g_b.b0 t lab) ([],0)=some (mp (gF lab) true (chN 66 t.length t),j):=q
 unfold g_b.f
 rw[q']; rfl
theorem fS {t lab z1:List UInt8} (ht:t.length<100000) (hz1:z1=if lab= [] then [] else lab++ [32]) (hlab:lab.length≤5): ∀(n a:Nat) (out:List (List UInt8)),t.length-a≤n→a<t.length→out.length+n<1000000 →
  ∃j,iter (g_c.b0 t z1) (out,(a:Int))=some (out++mp (gR lab) (decide (a=0)) (chN 100 n (t.drop a)),j)
 | 0,a,out,h,ha,_=>absurd h (by omega)
 | n+1,a,out,h,ha,ho=>by
  have e66:w64 ((a:Int)+100)=((a+100:Nat):Int):=upk (k:=100) (by omega)
  have hzl:z1.length≤6:=by rw[hz1]; split<;>simp<;>omega
  have key:g_c.b0 t z1 (out,(a:Int))=some (.inl (out++ [gR lab (decide (a=0)) (decide (t.length≤a+100)) ((t.drop a).take 100)],((a+100:Nat):Int))):=by
   unfold g_c.b0
   simp only[e66,min_i,po]
   have htl:((t.drop a).take 100).length≤100:=by rw[List.length_take]; omega
   have hz:(if decide ((a:Int)>0)=true then some ([38]:List UInt8) else some z1)=some (if decide (a=0)=true then z1 else [38]):=by
    by_cases h0:a=0
    ·rw[if_neg (dn (by omega)),if_pos (decide_eq_true h0)]
    ·rw[if_pos (decide_eq_true (by omega)),if_neg (dn h0)]
   rw[if_pos (decide_eq_true (by omega)),hz,Option.bind_some]
   have hhl:(if decide (a=0)=true then z1 else [38]).length≤6:=by
    split
    ·exact hzl
    ·simp
   rw[if_pos ⟨by omega,by omega,by omega⟩,if_pos (by omega)]
   have hz2:(if decide (((min (a+100) t.length:Nat):Int)<(t.length:Int))=true then(if((if decide (a=0)=true then z1 else [38])++(t.drop a).take 100).length+([38]:List UInt8).length<1000000000 then some (((if decide (a=0)=true then z1 else [38])++(t.drop a).take 100)++ [38]) else none) else some ((if decide (a=0)=true then z1 else [38])++(t.drop a).take 100))=some (gR lab (decide (a=0)) (decide (t.length≤a+100)) ((t.drop a).take 100)):=by
    unfold gR
    rw[← hz1]
    by_cases hle:t.length≤a+100
    ·rw[if_neg (dn (by omega)),decide_eq_true hle]; simp
    ·rw[if_pos (decide_eq_true (by omega)),if_pos (by rw[List.length_append]; simp only[List.length_cons,List.length_nil]; omega),decide_eq_false hle]; rfl
   rw[hz2,Option.bind_some,if_pos (by simp; omega)]
  by_cases hl:t.length≤a+100
  ·refine⟨((a+100:Nat):Int),?_⟩
   rw[av key]
   have e1:(t.drop a).take 100=t.drop a:=List.take_of_length_le (by rw[List.length_drop]; omega)
   rw[e1,chN,if_pos (c:=(List.drop a t).length≤100) (by rw[List.length_drop]; omega),decide_eq_true hl]
   exact al (by unfold g_c.b0; simp only; rw[if_neg (dn (by omega))]; rfl)
  ·obtain⟨j,q⟩:=fS ht hz1 hlab n (a+100) (out++ [gR lab (decide (a=0)) (decide (t.length≤a+100)) ((t.drop a).take 100)]) (by omega) (by omega) (by simp; omega)
   refine⟨j,?_⟩
   rw[av key,q,chN,if_neg (c:=(List.drop a t).length≤100) (by rw[List.length_drop]; omega),mp,List.drop_drop,List.append_assoc]
   have:decide (a+100=0)=false:=by simp
   have e2:(chN 100 n (t.drop (a+100))).isEmpty=false:=by
    cases hc:chN 100 n (t.drop (a+100)) with
    | nil=>exact absurd hc (pk _ _ _)
    | cons=>rfl
   rw[this,e2,decide_eq_false hl]
   rfl
theorem jT {t lab:List UInt8} (ht:t.length<100000) (h0:t≠ []) (hlab:lab.length≤5):g_c.f t lab=some (mp (gR lab) true (chN 100 t.length t)):=by
 have hlen:0<t.length:=List.length_pos_iff.2 h0
 obtain⟨j,q⟩:=fS (z1:=if lab= [] then [] else lab++ [32]) ht rfl hlab t.length 0 [] (by omega) hlen (by simp; omega)
 have q':iter (g_c.b0 t (if lab= [] then [] else lab++ [32])) ([],0)=some (mp (gR lab) true (chN 100 t.length t),j):=q
 have hz:(if(!decide (lab= []))=true then(if lab.length+([32]:List UInt8).length<1000000000 then some (lab++ [32]) else none) else some lab)=some (if lab= [] then [] else lab++ [32]):=by
  by_cases h:lab= []
  ·subst h; rfl
  ·rw[decide_eq_false h,if_neg h,if_pos (c:=(!false)=true) rfl,if_pos (by simp; omega)]
 unfold g_c.f
 rw[hz,Option.bind_some,q']; rfl
def lns (free:Bool) (n:Int) (t:List UInt8):List (List UInt8):=if free=true then mp (gR (lbl n)) true (chN 100 t.length t) else mp (gF (lbl n)) true (chN 66 t.length t)
theorem jU (free:Bool) (n:Int) (t:List UInt8):(lns free n t).length≤t.length+1:=by
 unfold lns
 split<;>rw[pm]<;>exact f5 _ _ _
def prR (free:Bool):List ST→Nat→List (List UInt8)→Except (Nat×Int) (List (List UInt8))
 | [],_,o=> .ok o
 | s::r,i,o=>if prE s.1 s.2.1 free≠0 then .error (i,prE s.1 s.2.1 free) else prR free r (i+1) (o++lns free s.1 s.2.1)
def PRN (free:Bool) (l:List ST):List (List UInt8)×Int×Int:=if 400<l.length then([],0,8) else match prR free l 0 [] with
 | .error e=>([],(e.1:Int),e.2)
 | .ok o=>if 400<o.length then([],0,8) else(o,0,0)
theorem pq {n:Int} {t:List UInt8} {free:Bool} (h:prE n t free=0):stE n t=0∧t≠ []∧(0≤n∧n≤99999)∧t.length≤1320:=by
 unfold prE at h
 split at h
 ·rename_i q; exact absurd h q
 ·rename_i q
  have q:stE n t=0:=by apply Decidable.byContradiction; exact fun k=>q k
  exact⟨q,lN q⟩
def Ts (l:List ST):Prop:=l.length≤410∧ ∀k,k<l.length→(l.getD k default).2.1.length≤1400
theorem ik {l:List ST} (hT:Ts l): ∀(d k:Nat) (o:List (List UInt8)),k+d=l.length→o.length≤1500*k →
  match prR false (l.drop k) k o with
  | .error e=>iter (g_r.b0 l) (o,(k:Int))=some (.inr ([],(e.1:Int),e.2))
  | .ok o'=> ∃j,iter (g_r.b0 l) (o,(k:Int))=some (.inl (o',j))
 | 0,k,o,h,ho=>by
  rw[List.drop_eq_nil_of_le (by omega)]
  exact⟨(k:Int),al (by unfold g_r.b0; simp only; rw[if_neg (dn (by omega))])⟩
 | d+1,k,o,h,ho=>by
  have hk:k<l.length:=by omega
  have h1:=hT.1
  have h2:=hT.2 k hk
  have hb:0≤(k:Int)∧(k:Int)<(l.length:Int):=⟨by omega,by omega⟩
  have hE:=dW (n:=(l.getD k default).1) (t:=(l.getD k default).2.1) (by omega)
  rw[bE hk]
  unfold prR
  have hpe:prE (l.getD k default).1 (l.getD k default).2.1 false=stE (l.getD k default).1 (l.getD k default).2.1:=by
   unfold prE
   by_cases q:stE (l.getD k default).1 (l.getD k default).2.1=0
   ·rw[if_neg (fun r=>r q),q]; rfl
   ·rw[if_pos q]
  by_cases hz:stE (l.getD k default).1 (l.getD k default).2.1=0
  ·obtain⟨n1,n2,n3⟩:=lN hz
   have hL:=lQ n2.1 n2.2 (t:=(l.getD k default).2.1) (by omega)
   have hln:=jU false (l.getD k default).1 (l.getD k default).2.1
   have hlns:lns false (l.getD k default).1 (l.getD k default).2.1=mp (gF (lbl (l.getD k default).1)) true (chN 66 (l.getD k default).2.1.length (l.getD k default).2.1):=rfl
   rw[← hlns] at hL
   have key:g_r.b0 l (o,(k:Int))=some (.inl (o++lns false (l.getD k default).1 (l.getD k default).2.1,((k+1:Nat):Int))):=by
    unfold g_r.b0 g_f.f
    rw[show gt l (k:Int)=l.getD k default from rfl]
    simp only[if_pos hb,hE,hz,hL,Option.bind_some,up1 (show k<9000000000000000000 by omega)]
    rw[if_pos (decide_eq_true hb.2),if_pos (by decide),Option.bind_some,if_neg (by decide),if_pos (by omega)]
   rw[hpe,hz,if_neg (fun q=>q rfl)]
   have ih:=ik hT d (k+1) (o++lns false (l.getD k default).1 (l.getD k default).2.1) (by omega) (by rw[List.length_append]; omega)
   rw[av key]
   exact ih
  ·have key:g_r.b0 l (o,(k:Int))=some (.inr (.inr ([],(k:Int),stE (l.getD k default).1 (l.getD k default).2.1))):=by
    unfold g_r.b0
    rw[show gt l (k:Int)=l.getD k default from rfl]
    simp only[if_pos hb,hE,Option.bind_some]
    rw[if_pos (decide_eq_true hb.2),if_neg (by simpa using hz),Option.bind_some,if_pos (by simpa using hz)]
   rw[hpe,if_pos hz]
   exact al key
theorem nC {l:List ST} (hT:Ts l):g_e.f l=some (PRN false l):=by
 have h1:=hT.1
 have key:=ik hT l.length 0 [] (by omega) (by simp)
 rw[List.drop_zero] at key
 unfold g_e.f g_r.f PRN
 by_cases h:400<l.length
 ·rw[if_pos (decide_eq_true (by omega)),if_pos h]; rfl
 ·rw[if_neg (dn (by omega)),if_neg h]
  cases hx:prR false l 0 [] with
  | error e =>
   rw[hx] at key
   have key':iter (g_r.b0 l) ([],0)=some (.inr ([],(e.1:Int),e.2)):=key
   rw[key']; rfl
  | ok o =>
   rw[hx] at key
   obtain⟨j,key⟩:=key
   have key':iter (g_r.b0 l) ([],0)=some (.inl (o,j)):=key
   rw[key',Option.bind_some]
   simp only[cu]
   by_cases h4:400<o.length
   ·rw[if_pos (decide_eq_true (by omega)),if_pos h4]; rfl
   ·rw[if_neg (dn (by omega)),if_neg h4]; rfl
theorem il {l:List ST} (hT:Ts l): ∀(d k:Nat) (o:List (List UInt8)),k+d=l.length→o.length≤1500*k →
  match prR true (l.drop k) k o with
  | .error e=>iter (g_s.b0 l) (o,(k:Int))=some (.inr ([],(e.1:Int),e.2))
  | .ok o'=> ∃j,iter (g_s.b0 l) (o,(k:Int))=some (.inl (o',j))
 | 0,k,o,h,ho=>by
  rw[List.drop_eq_nil_of_le (by omega)]
  exact⟨(k:Int),al (by unfold g_s.b0; simp only; rw[if_neg (dn (by omega))])⟩
 | d+1,k,o,h,ho=>by
  have hk:k<l.length:=by omega
  have h1:=hT.1
  have h2:=hT.2 k hk
  have hb:0≤(k:Int)∧(k:Int)<(l.length:Int):=⟨by omega,by omega⟩
  have hE:=dW (n:=(l.getD k default).1) (t:=(l.getD k default).2.1) (by omega)
  rw[bE hk]
  unfold prR
  by_cases hz:prE (l.getD k default).1 (l.getD k default).2.1 true=0
  ·obtain⟨z0,n1,n2,n3⟩:=pq hz
   have hfr:frE (l.getD k default).2.1=0:=by
    unfold prE at hz
    rw[z0,if_neg (fun q=>q rfl),if_pos rfl] at hz
    exact hz
   have hF:=i0 (t:=(l.getD k default).2.1) (by omega) n1
   have hL:=nB n2.1 n2.2 (t:=(l.getD k default).2.1) (by omega)
   have hln:=jU true (l.getD k default).1 (l.getD k default).2.1
   have hlns:lns true (l.getD k default).1 (l.getD k default).2.1=mp (gR (lbl (l.getD k default).1)) true (chN 100 (l.getD k default).2.1.length (l.getD k default).2.1):=rfl
   rw[← hlns] at hL
   have key:g_s.b0 l (o,(k:Int))=some (.inl (o++lns true (l.getD k default).1 (l.getD k default).2.1,((k+1:Nat):Int))):=by
    unfold g_s.b0
    rw[show gt l (k:Int)=l.getD k default from rfl]
    simp only[if_pos hb,hE,z0,hF,hfr,hL,Option.bind_some,up1 (show k<9000000000000000000 by omega)]
    rw[if_pos (decide_eq_true hb.2),if_pos (by decide),Option.bind_some,if_neg (by decide),if_pos (by omega)]
   rw[hz,if_neg (fun q=>q rfl)]
   have ih:=il hT d (k+1) (o++lns true (l.getD k default).1 (l.getD k default).2.1) (by omega) (by rw[List.length_append]; omega)
   rw[av key]
   exact ih
  ·have key:g_s.b0 l (o,(k:Int))=some (.inr (.inr ([],(k:Int),prE (l.getD k default).1 (l.getD k default).2.1 true))):=by
    unfold g_s.b0
    rw[show gt l (k:Int)=l.getD k default from rfl]
    simp only[if_pos hb,hE,Option.bind_some]
    rw[if_pos (decide_eq_true hb.2)]
    by_cases q:stE (l.getD k default).1 (l.getD k default).2.1=0
    ·have hF:=i0 (t:=(l.getD k default).2.1) (by omega) (lN q).1
     have hp:prE (l.getD k default).1 (l.getD k default).2.1 true=frE (l.getD k default).2.1:=by unfold prE; rw[if_neg (fun r=>r q),if_pos rfl]
     rw[hp] at hz ⊢
     rw[q,if_pos (by decide),hF,Option.bind_some,Option.bind_some,if_pos (by simpa using hz)]
    ·have hp:prE (l.getD k default).1 (l.getD k default).2.1 true=stE (l.getD k default).1 (l.getD k default).2.1:=by unfold prE; rw[if_pos q]
     rw[hp,if_neg (by simpa using q),Option.bind_some,if_pos (by simpa using q)]
   rw[if_pos hz]
   exact al key
theorem pr {l:List ST} (hT:Ts l):g_h.f l=some (PRN true l):=by
 have h1:=hT.1
 have key:=il hT l.length 0 [] (by omega) (by simp)
 rw[List.drop_zero] at key
 unfold g_h.f g_s.f PRN
 by_cases h:400<l.length
 ·rw[if_pos (decide_eq_true (by omega)),if_pos h]; rfl
 ·rw[if_neg (dn (by omega)),if_neg h]
  cases hx:prR true l 0 [] with
  | error e =>
   rw[hx] at key
   have key':iter (g_s.b0 l) ([],0)=some (.inr ([],(e.1:Int),e.2)):=key
   rw[key']; rfl
  | ok o =>
   rw[hx] at key
   obtain⟨j,key⟩:=key
   have key':iter (g_s.b0 l) ([],0)=some (.inl (o,j)):=key
   rw[key',Option.bind_some]
   simp only[cu]
   by_cases h4:400<o.length
   ·rw[if_pos (decide_eq_true (by omega)),if_pos h4]; rfl
   ·rw[if_neg (dn (by omega)),if_neg h4]; rfl
end Go.Proofs.YtjcbhbncncbdjaaGreatDoorAi
namespace Go.Proofs.YtjcbhbncncbdjaaGreatDoorAi
open Go Go.RowKit
set_option linter.unusedVariables false
set_option linter.unusedSimpArgs false
def prF (free:Bool):List ST→Nat→Option (Nat×Int)
 | [],_=>none
 | s::r,i=>if prE s.1 s.2.1 free≠0 then some (i,prE s.1 s.2.1 free) else prF free r (i+1)
theorem im {l:List ST} (hT:Ts l) (free:Bool): ∀(d k:Nat),k+d=l.length→match prF free (l.drop k) k with
  | some e=>iter (g_8.b0 l free) (k:Int)=some (.inr ([],(e.1:Int),e.2))
  | none=> ∃j,iter (g_8.b0 l free) (k:Int)=some (.inl j)
 | 0,k,h=>by
  rw[List.drop_eq_nil_of_le (by omega)]
  exact⟨(k:Int),al (by unfold g_8.b0; rw[if_neg (dn (by omega))])⟩
 | d+1,k,h=>by
  have hk:k<l.length:=by omega
  have h1:=hT.1
  have h2:=hT.2 k hk
  have hb:0≤(k:Int)∧(k:Int)<(l.length:Int):=⟨by omega,by omega⟩
  have hE:=iA (n:=(l.getD k default).1) (t:=(l.getD k default).2.1) (by omega) free
  rw[bE hk]
  unfold prF
  by_cases hz:prE (l.getD k default).1 (l.getD k default).2.1 free=0
  ·have key:g_8.b0 l free (k:Int)=some (.inl ((k+1:Nat):Int)):=by
    unfold g_8.b0
    rw[show gt l (k:Int)=l.getD k default from rfl]
    simp only[if_pos hb,hE,hz,Option.bind_some,up1 (show k<9000000000000000000 by omega)]
    rw[if_pos (decide_eq_true hb.2),if_neg (by decide)]
   rw[if_neg (fun q=>q hz),av key]
   exact im hT free d (k+1) (by omega)
  ·have key:g_8.b0 l free (k:Int)=some (.inr (.inr ([],(k:Int),prE (l.getD k default).1 (l.getD k default).2.1 free))):=by
    unfold g_8.b0
    rw[show gt l (k:Int)=l.getD k default from rfl]
    simp only[if_pos hb,hE,Option.bind_some]
    rw[if_pos (decide_eq_true hb.2),if_pos (by simpa using hz)]
   rw[if_pos hz]
   exact al key
theorem io {l:List ST} (hT:Ts l) (free:Bool): ∀(d k:Nat) (o:List (List UInt8)),k+d=l.length→o.length≤1500*k→prF free (l.drop k) k=none →
  ∃o' j,prR free (l.drop k) k o= .ok o'∧iter (g_8.b1 l) (free,o,(k:Int))=some (free,o',j)
 | 0,k,o,h,ho,hn=>by
  rw[List.drop_eq_nil_of_le (by omega)]
  exact⟨o,(k:Int),rfl,al (by unfold g_8.b1; simp only; rw[if_neg (dn (by omega))])⟩
 | d+1,k,o,h,ho,hn=>by
  have hk:k<l.length:=by omega
  have h1:=hT.1
  have h2:=hT.2 k hk
  have hb:0≤(k:Int)∧(k:Int)<(l.length:Int):=⟨by omega,by omega⟩
  rw[bE hk] at hn ⊢
  unfold prF at hn
  have hz:prE (l.getD k default).1 (l.getD k default).2.1 free=0:=by
   apply Decidable.byContradiction
   intro q
   rw[if_pos q] at hn
   cases hn
  rw[if_neg (fun q=>q hz)] at hn
  unfold prR
  rw[if_neg (fun q=>q hz)]
  obtain⟨_,n1,n2,n3⟩:=pq hz
  have hln:=jU free (l.getD k default).1 (l.getD k default).2.1
  have hll:=jQ n2.1 n2.2
  have hD:(if((l.getD k default).1 != 0)=true then(if 0≤(k:Int)∧(k:Int)<(l.length:Int) then Option.bind (g_0.f (l.getD k default).1) fun y71=>some y71 else none) else some [])=some (lbl (l.getD k default).1):=by
   by_cases h0:(l.getD k default).1=0
   ·rw[if_neg (by simpa using h0),jS.2 h0]
   ·rw[if_pos (by simpa using h0),if_pos hb,nA (by omega) n2.2]; rfl
  have key:g_8.b1 l (free,o,(k:Int))=some (.inl (free,o++lns free (l.getD k default).1 (l.getD k default).2.1,((k+1:Nat):Int))):=by
   unfold g_8.b1
   rw[show gt l (k:Int)=l.getD k default from rfl]
   simp only[if_pos hb] at hD ⊢
   rw[if_pos (decide_eq_true hb.2),hD,Option.bind_some,up1 (by omega)]
   cases free
   ·rw[if_neg (c:=false=true) (by decide),pp (by omega) n1 hll,Option.bind_some,if_pos (by
     have:(mp (gF (lbl (l.getD k default).1)) true (chN 66 (l.getD k default).2.1.length (l.getD k default).2.1)).length≤(l.getD k default).2.1.length+1:=hln
     omega)]
    rfl
   ·rw[if_pos (c:=true=true) rfl,jT (by omega) n1 hll,Option.bind_some,if_pos (by
     have:(mp (gR (lbl (l.getD k default).1)) true (chN 100 (l.getD k default).2.1.length (l.getD k default).2.1)).length≤(l.getD k default).2.1.length+1:=hln
     omega)]
    rfl
  obtain⟨o',j,q1,q2⟩:=io hT free d (k+1) (o++lns free (l.getD k default).1 (l.getD k default).2.1) (by omega) (by rw[List.length_append]; omega) hn
  exact⟨o',j,q1,by rw[av key]; exact q2⟩
theorem mF (free:Bool): ∀(l:List ST) (k:Nat) (o:List (List UInt8)) (e:Nat×Int),prF free l k=some e→prR free l k o= .error e
 | [],k,o,e,h=>by cases h
 | s::r,k,o,e,h=>by
  unfold prF at h
  unfold prR
  split at h
  ·rename_i q
   obtain rfl:=Option.some.inj h
   rw[if_pos q]
  ·rename_i q
   rw[if_neg q]
   exact mF free r (k+1) _ e h
theorem jV {l:List ST} (hT:Ts l) (free:Bool):g_8.f l free=some (PRN free l):=by
 have h1:=hT.1
 unfold g_8.f PRN
 by_cases h:400<l.length
 ·rw[if_pos (decide_eq_true (by omega)),if_pos h]
 ·rw[if_neg (dn (by omega)),if_neg h]
  have k0:=im hT free l.length 0 (by omega)
  rw[List.drop_zero] at k0
  cases hx:prF free l 0 with
  | some e =>
   rw[hx] at k0
   have k0':iter (g_8.b0 l free) 0=some (.inr ([],(e.1:Int),e.2)):=k0
   rw[k0',mF free l 0 [] e hx]; rfl
  | none =>
   rw[hx] at k0
   obtain⟨j0,k0⟩:=k0
   have k0':iter (g_8.b0 l free) 0=some (.inl j0):=k0
   obtain⟨o,j,q1,q2⟩:=io hT free l.length 0 [] (by omega) (by simp) (by rw[List.drop_zero]; exact hx)
   rw[List.drop_zero] at q1
   have q2':iter (g_8.b1 l) (free,[],0)=some (free,o,j):=q2
   rw[k0',Option.bind_some]
   simp only[cu]
   rw[q2',Option.bind_some,q1]
   simp only
   by_cases h4:400<o.length
   ·rw[if_pos (decide_eq_true (by omega)),if_pos h4]
   ·rw[if_neg (dn (by omega)),if_neg h4]
theorem ip {a:List (List UInt8)} (ha:a.length<1000000000): ∀(d k:Nat),k+d=a.length→iter (g_2.b0 a a) (true,(k:Int))=some (true,(a.length:Int))
 | 0,k,h=>al (by unfold g_2.b0; simp only; rw[if_neg (dn (by omega)),show k=a.length by omega])
 | d+1,k,h=>by
  have hb:0≤(k:Int)∧(k:Int)<(a.length:Int):=⟨by omega,by omega⟩
  have key:g_2.b0 a a (true,(k:Int))=some (.inl (true,((k+1:Nat):Int))):=by
   unfold g_2.b0
   simp only[if_pos hb]
   rw[if_pos (decide_eq_true hb.2),up1 (by omega)]
   simp
  rw[av key]
  exact ip ha d (k+1) (by omega)
theorem texts_f {a:List (List UInt8)} (ha:a.length<1000000000):g_2.f a a=some true:=by
 have h:iter (g_2.b0 a a) (true,0)=some (true,(a.length:Int)):=ip ha a.length 0 (by omega)
 unfold g_2.f
 rw[show((a.length:Int)==(a.length:Int))=true by simp,h]; rfl
theorem PRN_len (free:Bool) (l:List ST):(PRN free l).1.length<1000000000:=by
 unfold PRN
 split
 ·simp
 ·split
  ·simp
  ·split
   ·simp
   ·simp only; omega
structure Sz (l:List ST):Prop where
 n:l.length<5864062014635
 p: ∀s∈l,s.2.2.length<5864062014635
theorem i5 {l:List ST} (hS:Sz l) (hl:l.length≤410): ∀(d k:Nat),k+d=l.length→ ∃j,iter (g_6.b0 l) (l.take k,(k:Int))=some (l,j)
 | 0,k,h=>⟨(k:Int),al (by
   unfold g_6.b0
   simp only
   rw[if_neg (dn (by omega)),show k=l.length by omega,List.take_length])⟩
 | d+1,k,h=>by
  have hk:k<l.length:=by omega
  have hm:l.getD k default∈l:=by
   rw[List.getD_eq_getElem?_getD,List.getElem?_eq_getElem hk]
   exact List.getElem_mem hk
  have hp:=hS.p _ hm
  have hb:0≤(k:Int)∧(k:Int)<(l.length:Int):=⟨by omega,by omega⟩
  have key:g_6.b0 l (l.take k,(k:Int))=some (.inl (l.take (k+1),((k+1:Nat):Int))):=by
   unfold g_6.b0
   rw[show gt l (k:Int)=l.getD k default from rfl]
   simp only[if_pos hb,List.nil_append]
   rw[if_pos (decide_eq_true hb.2),if_pos (by simpa using hp),if_pos (by rw[List.length_take]; simp; omega),up1 (by omega),List.take_succ_eq_append_getElem hk]
   rw[List.getD_eq_getElem?_getD,List.getElem?_eq_getElem hk]
   rfl
  obtain⟨j,q⟩:=i5 hS hl d (k+1) (by omega)
  exact⟨j,by rw[av key]; exact q⟩
theorem copy_f {l:List ST} (hS:Sz l) (hl:l.length≤410):g_6.f l=some l:=by
 obtain⟨j,q⟩:=i5 hS hl l.length 0 (by omega)
 have q':iter (g_6.b0 l) ([],0)=some (l,j):=q
 unfold g_6.f
 rw[q']; rfl
theorem i8 {l:List ST} (hl:l.length<5864062014635): ∀(d k:Nat),k+d=l.length→ ∃r,iter (g_5.b0 l) (k:Int)=some r∧((∃y,r= .inl y)∧(∀j,k≤j→j<l.length→(l.getD j default).2.1.length≤1400)∨r= .inr false)
 | 0,k,h=>⟨.inl (k:Int),al (by unfold g_5.b0; rw[if_neg (dn (by omega))]),.inl ⟨⟨_,rfl⟩,fun j h1 h2=>by omega⟩⟩
 | d+1,k,h=>by
  have hb:0≤(k:Int)∧(k:Int)<(l.length:Int):=⟨by omega,by omega⟩
  have key:g_5.b0 l (k:Int)=some (if 1400<(l.getD k default).2.1.length then .inr (.inr false) else .inl ((k+1:Nat):Int)):=by
   unfold g_5.b0
   rw[show gt l (k:Int)=l.getD k default from rfl]
   rw[if_pos (decide_eq_true hb.2),if_pos hb,up1 (by omega)]
   by_cases h2:1400<(l.getD k default).2.1.length
   ·rw[if_pos (decide_eq_true (by omega)),if_pos h2]
   ·rw[if_neg (dn (by omega)),if_neg h2]
  by_cases h2:1400<(l.getD k default).2.1.length
  ·rw[if_pos h2] at key
   exact⟨_,al key,.inr rfl⟩
  ·rw[if_neg h2] at key
   obtain⟨r,r1,r2⟩:=i8 hl d (k+1) (by omega)
   refine⟨r,by rw[av key]; exact r1,r2.imp (fun q=>⟨q.1,fun j j1 j2=>?_⟩) id⟩
   rcases Nat.eq_or_lt_of_le j1 with rfl | j1
   ·omega
   ·exact q.2 j j1 j2
theorem fews_f {l:List ST} (hl:l.length<5864062014635): ∃b,g_5.f l=some b∧(b=true→Ts l):=by
 obtain⟨r,r1,r2⟩:=i8 hl l.length 0 (by omega)
 have r1':iter (g_5.b0 l) 0=some r:=r1
 unfold g_5.f
 rw[r1',Option.bind_some]
 rcases r2 with⟨⟨y,rfl⟩,hy⟩ | rfl
 ·refine⟨_,rfl,fun hb=>?_⟩
  rw[decide_eq_true_eq] at hb
  exact⟨by omega,fun k hk=>hy k (Nat.zero_le _) hk⟩
 ·exact⟨false,rfl,fun hb=>by cases hb⟩
theorem law08 (l:List ST) (hS:Sz l):g_4.f l=some true:=by
 obtain⟨b,b1,b2⟩:=fews_f hS.n
 unfold g_4.f
 rw[show g_awake.f=some true from rfl,Option.bind_some,if_neg (by decide),b1,Option.bind_some]
 cases b
 ·rfl
 ·have hT:=b2 rfl
  rw[if_neg (by decide)]
  simp only[copy_f hS hT.1,nC hT,pr hT,jV hT,texts_f (PRN_len _ _),Option.bind_some]
  rw[if_pos (by simp),if_pos (by simp)]
set_option maxRecDepth 100000 in
theorem nD {H:Type} {enc:TypeId×Value→H} {w:World} {NG:Nat}:GOk enc Tryz.prog w NG 58 pe.R (fun _=>True) :=
 (fM Tryz.underlying58 rfl rfl rfl (by kernel_rfl) (by kernel_rfl) (by kernel_rfl) (by kernel_rfl) (fun _ h=>h) (fun _ h=>h) (f4 Tryz.underlying3) (f4 Tryz.underlying3) (f4 Tryz.underlying3)).as
  (fun {F y g} h=>by
   obtain⟨a,b,c,rfl,h0,h1,h2⟩:=h
   obtain rfl:=(List.cons.inj h0).1
   obtain rfl:=(List.cons.inj h1).1
   obtain rfl:=(List.cons.inj h2).1
   rfl)
  (fun _ _=>trivial)
set_option maxRecDepth 100000 in
theorem pv {H:Type} {enc:TypeId×Value→H} {w:World} {NG:Nat}:GOk enc Tryz.prog w NG 61 d7.R (fun y=>y.2.2.length*Tryz.prog.bytesOf 58≤reachBytes) :=
 (fM Tryz.underlying61 rfl rfl rfl (by kernel_rfl) (by kernel_rfl) (by kernel_rfl) (by kernel_rfl) (fun _ h=>h) (fun _ h=>h) (f4 Tryz.underlying3) (gok_str Tryz.underlying9) (iX (d:=pe) Tryz.underlying59 nD (by kernel_rfl))).as
  (fun {F y g} h=>by
   obtain⟨a,b,c,rfl,h0,h1,p,z,h2,h3⟩:=h
   obtain rfl:=(List.cons.inj h0).1
   obtain rfl:=(List.cons.inj h1).1
   obtain rfl:=(List.cons.inj h2).1
   exact⟨p,z,rfl,h3⟩)
  (fun y h=>h.2.2.2)
set_option maxRecDepth 100000 in
theorem gok_stmts {H:Type} {enc:TypeId×Value→H} {w:World} {NG:Nat}:GOk enc Tryz.prog w NG 40 (fun F (y:List ST) g=> ∃a z,g= [.slice a y.length z]∧Frz d7 F a z y) Sz :=
 (iX (d:=d7) Tryz.underlying40 pv (by kernel_rfl)).as (fun h=>h) (fun y h=>by
  have e1:Tryz.prog.bytesOf 61=48:=by kernel_rfl
  have e2:Tryz.prog.bytesOf 58=24:=by kernel_rfl
  have e3:reachBytes=140737488351232:=by decide
  rw[e1,e3] at h
  refine⟨by have:=h.2; omega,fun s hs=>?_⟩
  have:=h.1 s hs
  rw[e2] at this
  omega)
theorem law08_calls {w:World} {μ:Mu} {nx:Nat} {ks:List b9} (gs:GS 11 w μ nx ks) (hG:Gl (Fk ks)) {a:Option Addr} {z:Nat} {y:List ST} {v:Value} (hf:Frz d7 (Fk ks) a z y) (hS:Sz y) (hv:VR μ (.slice a y.length z) v) :
  Calls Tryz.prog 8 #[v] w fun e w'=>e= .returned (.bool true)∧Below w.heap.size w w' :=
 calls_M gs (nl hv (o5 μ)) Tryz.func8 rfl (fun _ _=>rfl) rfl (Cl.mono (g_4.ok (law08 y hS) hf hG) fun v S F h=>h.2.1)
end Go.Proofs.YtjcbhbncncbdjaaGreatDoorAi
