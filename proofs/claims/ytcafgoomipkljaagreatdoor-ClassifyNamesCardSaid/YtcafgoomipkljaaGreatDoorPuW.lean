/-
PuP1, PuP2, PuP3, PuP4, PuP5, PuP6, PuP7, PuP8c, PuR0, PuR1, PuR2, PuR3, PuM1, PuM2, PuM3, PuM4, PuM5, PuM6, PuM7, PuM8, PuC2, PuC3, PuN1, PuN2, PuN3, PuN4, PuN5, PuN7, PuN8, PuN9, PuN10
-/
import Derived.Test.YtcafgoomipkljaaGreatDoorApX1c
import Derived.Test.YtcafgoomipkljaaGreatDoorApL
namespace Go.Proofs.YtcafgoomipkljaaGreatDoorAi
open Go Go.RowKit
set_option linter.unusedVariables false
set_option linter.unusedSimpArgs false
theorem aq {x:Int} (h1: -9223372036854775808≤x) (h2:x≤9223372036854775807):w64 x=x:=by
 unfold w64
 simp[IntKind.wrap,IntKind.bits,IntKind.signed]; omega
theorem aB {α:Type} [Inhabited α] (l:List α) (n:Nat):gt l (n:Int)=l.getD n default:=rfl
def bz (c:UInt8):Bool:=decide (48≤c.toNat)&&decide (c.toNat≤57)
theorem fk {c:UInt8}:bz c=true↔48≤c.toNat∧c.toNat≤57:=by simp[bz]
theorem oV (c:UInt8):g_2v.f c=some (bz c):=by
 unfold g_2v.f bz
 congr 2
 ·exact decide_eq_decide.2 (by show((48:Nat):Int)≤_↔_; omega)
 ·exact decide_eq_decide.2 (by show _≤((57:Nat):Int)↔_; omega)
theorem nI (c:UInt8):g_2i.f c=some (bz c):=by
 unfold g_2i.f bz
 congr 2
 ·exact decide_eq_decide.2 (by show _≥((48:Nat):Int)↔_; omega)
 ·exact decide_eq_decide.2 (by show _≤((57:Nat):Int)↔_; omega)
def dg (p:Nat→Bool):Nat→Nat
 | 0=>0
 | n+1=>if p n then dg p n else n+1
theorem kC (p:Nat→Bool): ∀n,dg p n≤n
 | 0=>Nat.le_refl _
 | n+1=>by
  unfold dg
  split
  ·exact Nat.le_succ_of_le (kC p n)
  ·exact Nat.le_refl _
theorem th (p:Nat→Bool): ∀n k,dg p n≤k→k<n→p k=true
 | 0,k,_,h=>by omega
 | n+1,k,h1,h2=>by
  unfold dg at h1
  split at h1
  ·by_cases hk:k=n
   ·subst hk; assumption
   ·exact th p n k h1 (by omega)
  ·omega
def pD (out:List UInt8) (own:List Bool) (k:Nat):Bool:= !(own.getD k default)&&bz (out.getD k default)
theorem lI {out:List UInt8} {own:List Bool} (hl:out.length=own.length) (hs:own.length<1000000): ∀n:Nat,n≤own.length→iter (g_33.b0 out own) (n:Int)=some ((dg (pD out own) n:Nat):Int)
 | 0,_=>ah (by unfold g_33.b0; rfl)
 | n+1,hn=>by
  have hw:w64 (((n+1:Nat):Int)-1)=(n:Int):=by rw[aq]<;>omega
  have key:g_33.b0 out own ((n+1:Nat):Int)=if pD out own n then some (.inl (n:Int)) else some (.inr ((n+1:Nat):Int)):=by
   unfold g_33.b0 pD
   rw[hw,if_pos (decide_eq_true (by omega)),if_pos ⟨by omega,by omega⟩,if_pos ⟨by omega,by omega⟩,oV,aB,aB]
   cases own.getD n default<;>simp
  unfold dg
  split
  ·rename_i h
   rw[ak (key.trans (if_pos h))]
   exact lI hl hs n (by omega)
  ·rename_i h
   exact ah (key.trans (if_neg h))
theorem nJ {out:List UInt8} {own:List Bool} (hl:out.length=own.length) (hs:own.length<1000000) (n:Nat) (hn:n≤own.length):g_33.f out own (n:Int)=some ((dg (pD out own) n:Nat):Int):=by
 unfold g_33.f
 rw[lI hl hs n hn]; rfl
theorem cp (l:List UInt8) (c:UInt8):g_3c.f l c=some (jo l c):=rfl
theorem g7 (l:List UInt8) (c:UInt8):decide (jo l c≥0)=l.contains c:=by
 unfold jo
 cases h:l.findIdx? (· == c) with
 | none =>
  rw[List.findIdx?_eq_none_iff] at h
  symm
  show l.contains c=false
  rw[Bool.eq_false_iff]
  intro hc
  have:=h c (List.contains_iff_mem.1 hc)
  simp at this
 | some i =>
  rw[decide_eq_true (show(i:Int)≥0 by omega)]
  symm
  obtain⟨hi,h1,_⟩:=List.findIdx?_eq_some_iff_getElem.1 h
  rw[List.contains_iff_mem]
  have:l[i]=c:=by simpa using h1
  rw[← this]; exact List.getElem_mem hi
def isB (out:List UInt8) (own:List Bool) (n:Nat) (sg:List UInt8):Bool:=match n with | 0=>false | n+1=> !(own.getD n default)&&sg.contains (out.getD n default)
theorem gq {out:List UInt8} {own:List Bool} (hl:out.length=own.length) (hs:own.length<1000000) (n:Nat) (hn:n≤own.length) (sg:List UInt8):g_35.f out own (n:Int) sg=some (isB out own n sg):=by
 cases n with
 | zero=>unfold g_35.f; rfl
 | succ n =>
  have hw:w64 (((n+1:Nat):Int)-1)=(n:Int):=by rw[aq]<;>omega
  unfold g_35.f isB
  rw[hw,if_pos (decide_eq_true (by omega)),if_pos ⟨by omega,by omega⟩,if_pos ⟨by omega,by omega⟩,cp,aB,aB]
  simp only[Option.bind_some,g7]
  cases own.getD n default<;>simp
def hol (out:List UInt8) (own:List Bool):Option Nat :=
 let b:=dg (pD out own) out.length
 if b=out.length then none else if isB out own b [40,44,47,61] then some b else if isB out own b [42] then
  (let k:=dg (pD out own) (b-1)
   if k<b-1∧isB out own k [40,44,47,61]=true then some b else none) else none
theorem nK {out:List UInt8} {own:List Bool} (hl:out.length=own.length) (hs:own.length<1000000) :
  ∃d:Int,g_34.f out own=some (match hol out own with | some b=>((b:Int),true) | none=>(d,false)):=by
 have hle:=kC (pD out own) out.length
 have hf:=nJ hl hs out.length (by omega)
 unfold g_34.f hol
 rw[hf]
 simp only[Option.bind_some]
 generalize dg (pD out own) out.length=b at *
 by_cases hb:b=out.length
 ·rw[if_pos (by simp[hb]),if_pos hb]; exact⟨_,rfl⟩
 ·rw[if_neg (by simp; omega),if_neg hb,gq hl hs b (by omega)]
  simp only[Option.bind_some]
  cases h1:isB out own b [40,44,47,61]
  ·simp only[Bool.false_eq_true,if_false]
   rw[gq hl hs b (by omega)]
   simp only[Option.bind_some]
   cases h2:isB out own b [42]
   ·simp only[Bool.not_false,Bool.false_eq_true,if_false,if_true]; exact⟨_,rfl⟩
   ·simp only[Bool.not_true,Bool.false_eq_true,if_false,if_true]
    have hb0:0<b:=by
     cases b with
     | zero=>simp[isB] at h2
     | succ b=>omega
    have hw:w64 ((b:Int)-1)=((b-1:Nat):Int):=by rw[aq]<;>omega
    have hk:=kC (pD out own) (b-1)
    rw[hw,nJ hl hs (b-1) (by omega)]
    simp only[Option.bind_some]
    generalize dg (pD out own) (b-1)=k at *
    rw[gq hl hs k (by omega)]
    simp only[Option.bind_some]
    by_cases h3:k<b-1
    ·rw[if_pos (decide_eq_true (by omega))]
     cases h4:isB out own k [40,44,47,61]
     ·rw[if_neg (by simp)]; exact⟨_,rfl⟩
     ·rw[if_pos ⟨h3,rfl⟩]; exact⟨0,rfl⟩
    ·rw[if_neg (by simp; omega),if_neg (by omega)]; exact⟨_,rfl⟩
  ·simp only[if_true]; exact⟨0,trivial⟩
end Go.Proofs.YtcafgoomipkljaaGreatDoorAi
namespace Go.Proofs.YtcafgoomipkljaaGreatDoorAi
open Go Go.RowKit
set_option linter.unusedVariables false
set_option linter.unusedSimpArgs false
def dx (t:List UInt8) (a n:Nat):List UInt8:=(t.drop a).take n
def rng (a:Nat):Nat→List Int
 | 0=>[]
 | n+1=>(a:Int)::rng (a+1) n
theorem g8 (a n:Nat):(rng a n).length=n:=by
 induction n generalizing a with
 | zero=>rfl
 | succ n ih=>show(rng (a+1) n).length+1=_; rw[ih]
theorem kD (t:List UInt8) (a:Nat):dx t a 0= []:=rfl
theorem kE {t:List UInt8} {a:Nat} (n:Nat) (h:a<t.length):dx t a (n+1)=t.getD a default::dx t (a+1) n:=by
 unfold dx
 rw[List.drop_eq_getElem_cons h,List.take_succ_cons,List.getD_eq_getElem?_getD,List.getElem?_eq_getElem h]
 rfl
theorem bU {t:List UInt8} {a n:Nat} (h:a+n≤t.length):(dx t a n).length=n:=by
 unfold dx
 rw[List.length_take,List.length_drop]; omega
theorem ti {out:List UInt8} {frm:List Int} {own:List Bool} (h1:out.length<1000000) (h2:frm.length<1000000) (h3:own.length<1000000) (c:UInt8) (a:Int) (b:Bool) :
  g_37.f out frm own c a b=some (out++ [c],frm++ [a],own++ [b]):=by
 unfold g_37.f
 rw[if_pos (by simp only[List.length_cons,List.length_nil]; omega),if_pos (by simp only[List.length_cons,List.length_nil]; omega),if_pos (by simp only[List.length_cons,List.length_nil]; omega)]
theorem fW {t:List UInt8} (ht:t.length<10000): ∀(n a:Nat) (out:List UInt8) (frm:List Int) (own:List Bool),a+n≤t.length→out.length+n<900000→frm.length+n<900000→own.length+n<900000 →
  iter (g_31.b0 t ((a+n:Nat):Int)) ((a:Int),out,frm,own)=some (((a+n:Nat):Int),out++dx t a n,frm++rng a n,own++List.replicate n true)
 | 0,a,out,frm,own,h,_,_,_=>ah (by
   unfold g_31.b0
   rw[if_neg (by simp)]
   simp[kD,rng])
 | n+1,a,out,frm,own,h,h1,h2,h3=>by
  have ih:=fW ht n (a+1) (out++ [t.getD a default]) (frm++ [(a:Int)]) (own++ [true]) (by omega) (by simp; omega) (by simp; omega) (by simp; omega)
  rw[show a+1+n=a+(n+1) by omega] at ih
  rw[ak (y:=(((a+1:Nat):Int),out++ [t.getD a default],frm++ [(a:Int)],own++ [true])) (by
   unfold g_31.b0
   rw[if_pos (decide_eq_true (by simp only; omega)),if_pos ⟨by simp only; omega,by simp only; omega⟩]
   simp only
   rw[ti (by omega) (by omega) (by omega),Option.bind_some,aq (by omega) (by omega),aB]
   rfl),ih,kE n (by omega)]
  simp[rng,List.replicate_succ]
theorem kF {t:List UInt8} (ht:t.length<10000) {n a:Nat} {out:List UInt8} {frm:List Int} {own:List Bool} (h:a+n≤t.length) (h1:out.length<800000) (h2:frm.length<800000) (h3:own.length<800000) :
  g_31.f t out frm own (a:Int) ((a+n:Nat):Int)=some (out++dx t a n,frm++rng a n,own++List.replicate n true):=by
 unfold g_31.f
 rw[fW ht n a out frm own h (by omega) (by omega) (by omega)]; rfl
def upC (c:UInt8):UInt8:=if 97≤c.toNat∧c.toNat≤122 then c-32 else c
def cY (acc:Nat) (l:List UInt8):Nat:=l.foldl (fun a c=>a*10+(c.toNat-48)) acc
theorem g9 (acc:Nat):cY acc []=acc:=rfl
theorem eA (acc:Nat) (c:UInt8) (r:List UInt8):cY acc (c::r)=cY (acc*10+(c.toNat-48)) r:=by unfold cY; rw[List.foldl_cons]
theorem qk: ∀(l:List UInt8) (acc:Nat),acc≤cY acc l
 | [],acc=>Nat.le_refl _
 | c::r,acc=>by
  rw[eA]
  exact Nat.le_trans (Nat.le_trans (Nat.le_mul_of_pos_right acc (by decide)) (Nat.le_add_right _ _)) (qk r _)
theorem pu10: ∀(l:List UInt8) (acc:Nat),acc<18446744073709551616→l.all bz=true→Lib.parseUint10 acc l=if cY acc l<18446744073709551616 then .ok (cY acc l) else .range
 | [],acc,h,_=>by
  rw[g9,if_pos h]; rfl
 | c::r,acc,h,ha=>by
  simp only[List.all_cons,Bool.and_eq_true] at ha
  have hc:=fk.1 ha.1
  have ih:=fun h=>pu10 r (acc*10+(c.toNat-48)) h ha.2
  have hg:=qk r (acc*10+(c.toNat-48))
  rw[eA,Lib.parseUint10,if_pos hc]
  generalize cY (acc*10+(c.toNat-48)) r=z at *
  generalize c.toNat-48=d at *
  split
  ·rw[if_neg (by omega)]
  ·split
   ·rw[if_neg (by omega)]
   ·exact ih (by omega)
theorem nL {l:List UInt8} (h0:l≠ []) (ha:l.all bz=true):Lib.atoiAll l=if cY 0 l<9223372036854775808 then .ok (cY 0 l:Int) else .range:=by
 cases l with
 | nil=>exact absurd rfl h0
 | cons c r =>
  have hc:=fk.1 (show bz c=true by simp at ha; exact ha.1)
  unfold Lib.atoiAll
  simp only
  rw[if_neg (by omega)]
  unfold Lib.parseMag
  rw[if_neg (List.cons_ne_nil c r),pu10 _ _ (by omega) ha]
  generalize cY 0 (c::r)=v
  by_cases h1:v<18446744073709551616
  ·rw[if_pos h1]
   simp only
   by_cases h2:v<9223372036854775808
   ·rw[if_neg (by omega),if_neg (by omega),if_neg (by omega),if_pos h2]
   ·rw[if_pos (by omega),if_neg h2]
  ·rw[if_neg h1,if_neg (by omega)]
theorem atoi_f {l:List UInt8} (h0:l≠ []) (ha:l.all bz=true) (hl:l.length<1000000):g_atoi.f l=if cY 0 l<9223372036854775808 then some ((cY 0 l:Int),false) else some (9223372036854775807,true):=by
 unfold g_atoi.f
 rw[if_pos (by omega),nL h0 ha]
 by_cases h:cY 0 l<9223372036854775808
 ·rw[if_pos h,if_pos h]
 ·rw[if_neg h,if_neg h]
  simp only
  have:Lib.atoiSat l=9223372036854775807:=by
   cases l with
   | nil=>exact absurd rfl h0
   | cons c r =>
    have hc:=fk.1 (show bz c=true by simp at ha; exact ha.1)
    unfold Lib.atoiSat
    rw[if_neg (by simp; omega)]
  rw[this]
def stp (t:List UInt8) (a:Nat) (out:List UInt8) (own:List Bool) (frm:List Int):Except Int (Nat×List UInt8×List Bool×List (Int×Int)) :=
 let c:=t.getD a default
 if c=39∨c=34 then
  match (t.drop (a+1)).findIdx? (· == c) with
  | none=> .error 21
  | some n=> .ok (a+(n+2),dx t a (n+2),List.replicate (n+2) true,[((a:Int),((a+(n+2):Nat):Int))])
 else match (if upC c=72 then hol out own else none) with
  | some b =>
   let n:=cY 0 (out.drop b)
   if t.length<a+1+n then .error 21 else if n=0 then .error 11 else
    .ok (a+1+n,72::dx t (a+1) n,false::List.replicate n true,[(frm.getD b default,((a+1+n:Nat):Int))])
  | none=>if upC c=32 then .ok (a+1,[],[],[]) else .ok (a+1,[upC c],[false],[])
theorem dT {out:List UInt8} {own:List Bool} {b:Nat} (h:hol out own=some b):b<out.length∧(out.drop b).all bz=true∧0<b:=by
 unfold hol at h
 have hle:=kC (pD out own) out.length
 have hall:=th (pD out own) out.length
 simp only at h
 generalize dg (pD out own) out.length=d at *
 have key:d<out.length→(out.drop d).all bz=true:=fun hd=>by
  rw[List.all_eq_true]
  intro x hx
  obtain⟨i,hi,rfl⟩:=List.mem_iff_getElem.1 hx
  rw[List.length_drop] at hi
  rw[List.getElem_drop]
  have:=hall (d+i) (by omega) (by omega)
  unfold pD at this
  rw[Bool.and_eq_true,List.getD_eq_getElem?_getD (l:=out),List.getElem?_eq_getElem (by omega)] at this
  exact this.2
 have pos: ∀sg,isB out own d sg=true→0<d:=fun sg hs=>by
  cases d with
  | zero=>simp[isB] at hs
  | succ d=>omega
 split at h
 ·cases h
 ·split at h
  ·rename_i h1 h2
   obtain rfl:=Option.some.inj h
   exact⟨by omega,key (by omega),pos _ h2⟩
  ·split at h
   ·split at h
    ·rename_i h1 h2 h3 h4
     obtain rfl:=Option.some.inj h
     exact⟨by omega,key (by omega),pos _ h3⟩
    ·cases h
   ·cases h
end Go.Proofs.YtcafgoomipkljaaGreatDoorAi
namespace Go.Proofs.YtcafgoomipkljaaGreatDoorAi
open Go Go.RowKit
set_option linter.unusedVariables false
set_option linter.unusedSimpArgs false
theorem fH {α:Type} (l:List α) (n:Nat):mid l (n:Int) (l.length:Int)=l.drop n:=by
 unfold mid
 rw[Int.toNat_natCast,Int.toNat_natCast,List.take_length]
theorem fN (a b:UInt8):((a.toNat:Int)==(b.toNat:Int))=decide (a=b):=by
 by_cases h:a=b
 ·subst h; simp
 ·rw[decide_eq_false h]
  exact beq_eq_false_iff_ne.2 fun e=>h (UInt8.toNat_inj.1 (by omega))
theorem rp (c:UInt8):g_2w.f c=some (decide (c=39)||decide (c=34)):=by
 unfold g_2w.f
 rw[fN,fN]
def enc (out:List UInt8) (frm:List Int) (own:List Bool) (cs:List (Int×Int)) (a:Nat):Except Int (Nat×List UInt8×List Bool×List (Int×Int))→Int×Int×List UInt8×List Int×List Bool×List (Int×Int)
 | .error e=>(0,e,out,frm,own,cs)
 | .ok (a',o,w,c)=>((a':Int),0,out++o,frm++rng a o.length,own++w,cs++c)
theorem nM {t:List UInt8} (ht:t.length<10000) {a:Nat} (ha:a<t.length) {out:List UInt8} {frm:List Int} {own:List Bool} {cs:List (Int×Int)} (h1:out.length<800000) (h2:frm.length<800000) (h3:own.length<800000) (h4:cs.length<800000) :
  g_30.f t out frm own cs (a:Int)=some (enc out frm own cs a (match (t.drop (a+1)).findIdx? (· == t.getD a default) with
  | none=> .error 21
  | some n=> .ok (a+(n+2),dx t a (n+2),List.replicate (n+2) true,[((a:Int),((a+(n+2):Nat):Int))]))):=by
 have hw:w64 ((a:Int)+1)=((a+1:Nat):Int):=by rw[aq]<;>omega
 unfold g_30.f
 rw[hw,if_pos ⟨by omega,by omega,Int.le_refl _⟩,if_pos ⟨by omega,by omega⟩,cp,fH,aB,Option.bind_some]
 unfold jo
 cases h:(t.drop (a+1)).findIdx? (· == t.getD a default) with
 | none=>rfl
 | some n =>
  obtain⟨hn,_,_⟩:=List.findIdx?_eq_some_iff_getElem.1 h
  rw[List.length_drop] at hn
  have hw2:w64 (w64 ((a:Int)+(n:Int))+2)=((a+(n+2):Nat):Int):=by rw[aq (x:=(a:Int)+(n:Int)) (by omega) (by omega),aq]<;>omega
  rw[if_neg (by simp),hw2,if_pos (by simp only[List.length_cons,List.length_nil]; omega),kF ht (by omega) h1 h2 h3,Option.bind_some]
  simp only[enc]
  rw[bU (by omega)]
theorem count_f {t:List UInt8} (ht:t.length<10000) {a:Nat} (ha:a<t.length) {out:List UInt8} {frm:List Int} {own:List Bool} {cs:List (Int×Int)} (h1:out.length<700000) (h2:frm.length=out.length) (h3:own.length<700000) (h4:cs.length<800000)
  {b:Nat} (hb:b<out.length) (hd:(out.drop b).all bz=true) :
  g_32.f t out frm own cs (b:Int) (a:Int)=some (enc out frm own cs a (
   if t.length<a+1+cY 0 (out.drop b) then .error 21 else if cY 0 (out.drop b)=0 then .error 11 else
    .ok (a+1+cY 0 (out.drop b),72::dx t (a+1) (cY 0 (out.drop b)),false::List.replicate (cY 0 (out.drop b)) true,[(frm.getD b default,((a+1+cY 0 (out.drop b):Nat):Int))]))):=by
 have hne:out.drop b≠ []:=fun e=>by
  have:=congrArg List.length e
  rw[List.length_drop] at this
  simp at this; omega
 have hw:w64 (w64 ((t.length:Int)-(a:Int))-1)=((t.length-a-1:Nat):Int):=by rw[aq (x:=(t.length:Int)-(a:Int)) (by omega) (by omega),aq]<;>omega
 unfold g_32.f
 rw[if_pos ⟨by omega,by omega,Int.le_refl _⟩,fH,atoi_f hne hd (by rw[List.length_drop]; omega)]
 generalize cY 0 (out.drop b)=v
 by_cases hv:v<9223372036854775808
 ·rw[if_pos hv,Option.bind_some]
  simp only[Bool.false_or,hw]
  by_cases hq:t.length<a+1+v
  ·rw[if_pos (decide_eq_true (by omega)),if_pos hq]; rfl
  ·rw[if_neg (by simp; omega),if_neg hq]
   by_cases h0:v=0
   ·subst h0; rfl
   ·have hw2:w64 ((a:Int)+1)=((a+1:Nat):Int):=by rw[aq]<;>omega
    have hw3:w64 (((a+1:Nat):Int)+(v:Int))=((a+1+v:Nat):Int):=by rw[aq]<;>omega
    rw[if_neg (by simp; omega),if_neg h0,if_pos ⟨by omega,by omega⟩,if_pos (by simp only[List.length_cons,List.length_nil]; omega),ti (by omega) (by omega) (by omega),Option.bind_some]
    simp only
    rw[hw2,hw3,kF ht (n:=v) (a:=a+1) (by omega) (by simp; omega) (by simp; omega) (by simp; omega),Option.bind_some]
    simp only[enc,aB,List.append_assoc,List.singleton_append]
    rw[List.length_cons,bU (by omega)]
    rfl
 ·rw[if_neg hv,Option.bind_some,if_pos (show t.length<a+1+v by omega),if_pos (by simp)]; rfl
theorem upC_eq (c:UInt8):(if((decide (((97:UInt8).toNat:Int)≤(c.toNat:Int)))&&(decide ((c.toNat:Int)≤((122:UInt8).toNat:Int))))=true then some (c-32) else some c)=some (upC c):=by
 have e1:((97:UInt8).toNat:Int)=97:=rfl
 have e2:((122:UInt8).toNat:Int)=122:=rfl
 rw[e1,e2]
 unfold upC
 by_cases h:97≤c.toNat∧c.toNat≤122
 ·rw[if_pos h,if_pos (by simp; omega)]
 ·rw[if_neg h,if_neg (by simp; omega)]
structure eP (t:List UInt8) (a:Nat) (out:List UInt8) (frm:List Int) (own:List Bool) (cs:List (Int×Int)):Prop where
 lt:t.length<10000
 la:a≤t.length
 lo:out.length≤a
 lf:frm.length=out.length
 lw:own.length=out.length
 lc:cs.length≤a
theorem next_f {t:List UInt8} {a:Nat} {out:List UInt8} {frm:List Int} {own:List Bool} {cs:List (Int×Int)} (h:eP t a out frm own cs) (ha:a<t.length) :
  g_36.f t out frm own cs (a:Int)=some (enc out frm own cs a (stp t a out own frm)):=by
 obtain⟨h1,h2,h3,h4,h5,h6⟩:=h
 unfold g_36.f
 rw[if_pos ⟨by omega,by omega⟩,aB,rp,Option.bind_some]
 unfold stp
 simp only
 by_cases hq:t.getD a default=39∨t.getD a default=34
 ·rw[if_pos (by simpa using hq),if_pos hq,nM h1 ha (by omega) (by omega) (by omega) (by omega)]
  rfl
 ·rw[if_neg (by simpa using hq),if_neg hq,upC_eq,Option.bind_some]
  have hend:Option.bind ((if((((upC (t.getD a default)).toNat:Int) != ((32:UInt8).toNat:Int)))=true then Option.bind (g_37.f out frm own (upC (t.getD a default)) (a:Int) false) fun y=>some (y.1,y.2.1,y.2.2) else some (out,frm,own))) (fun z=>some ((w64 ((a:Int)+1)),(0:Int),z.1,z.2.1,z.2.2,cs)) =
    some (enc out frm own cs a (if upC (t.getD a default)=32 then .ok (a+1,[],[],[]) else .ok (a+1,[upC (t.getD a default)],[false],[]))):=by
   rw[bne,fN,aq (by omega) (by omega)]
   by_cases h32:upC (t.getD a default)=32
   ·rw[if_pos h32,if_neg (by rw[decide_eq_true h32]; decide)]
    simp[enc,rng]
   ·rw[if_neg h32,if_pos (by rw[decide_eq_false h32]; rfl),ti (by omega) (by omega) (by omega)]
    simp[enc,rng]
  rw[fN]
  by_cases h72:upC (t.getD a default)=72
  ·rw[if_pos (decide_eq_true h72),if_pos h72]
   obtain⟨d,hd⟩:=nK (out:=out) (own:=own) (by omega) (by omega)
   rw[hd,Option.bind_some]
   cases hh:hol out own with
   | none=>simp only[Bool.false_eq_true,if_false]; exact hend
   | some b =>
    obtain⟨k1,k2,_⟩:=dT hh
    simp only[if_true]
    rw[count_f h1 ha (by omega) (by omega) (by omega) (by omega) k1 k2]
    rfl
  ·rw[if_neg (by rw[decide_eq_false h72]; decide),if_neg h72]
   exact hend
end Go.Proofs.YtcafgoomipkljaaGreatDoorAi
namespace Go.Proofs.YtcafgoomipkljaaGreatDoorAi
open Go Go.RowKit
set_option linter.unusedVariables false
set_option linter.unusedSimpArgs false
theorem nN (l:List UInt8) (i:Nat):(⟨l.toArray⟩:ByteArray).get! i=l.getD i default:=by
 show l.toArray[i]! = _
 simp[List.getD_eq_getElem?_getD]
theorem dec_lo {l:List UInt8} {p:Nat} (h:(l.getD p default).toNat<128):dec l p=((l.getD p default).toNat,1):=by
 unfold dec Utf8.decode
 simp only[Nat.add_zero,nN]
 rw[if_pos h]
theorem dec_hi {l:List UInt8} {p:Nat} (h: ¬ (l.getD p default).toNat<128):126<(dec l p).1:=by
 unfold dec Utf8.decode
 simp only[Nat.add_zero,nN]
 rw[if_neg h]
 split
 ·split
  ·simp only; omega
  ·decide
 ·split
  ·split
   ·rename_i h2
    simp only[Bool.and_eq_true,decide_eq_true_eq] at h2
    simp only; omega
   ·decide
  ·split
   ·split
    ·rename_i h2
     simp only[Bool.and_eq_true,decide_eq_true_eq] at h2
     simp only; omega
    ·decide
   ·decide
def da (c:UInt8):Bool:=decide (32≤c.toNat)&&decide (c.toNat≤126)
theorem nO (r:Nat):g_2y.f (r:Int) 32=some (!(decide (32≤r)&&decide (r≤126))):=by
 unfold g_2y.f
 have:IntKind.i32.wrap (((32:UInt8).toNat:Nat):Int)=32:=by decide
 rw[this]
 congr 1
 by_cases h1:32≤r<;>by_cases h2:r≤126<;>simp[h1,h2]<;>omega
theorem cI {t:List UInt8} {a:Nat} (h:a<t.length):t.drop a=t.getD a default::t.drop (a+1):=by
 rw[List.drop_eq_getElem_cons h,List.getD_eq_getElem?_getD,List.getElem?_eq_getElem h]; rfl
theorem fl (t:List UInt8): ∀d x:Nat,x+d=t.length →
  if(t.drop x).all da=true then iter (g_3e.b0 t 32 true) x=some (.inl t.length) else ∃k:Nat,iter (g_3e.b0 t 32 true) x=some (.inr (k:Int))
 | 0,x,h=>by
  rw[show x=t.length by omega,List.drop_length]
  exact ah (by unfold g_3e.b0; rw[if_neg (by simp)])
 | d+1,x,h=>by
  have ih:=fl t d (x+1) (by omega)
  have key:g_3e.b0 t 32 true x=if(decide (32≤(dec t x).1)&&decide ((dec t x).1≤126))=true then some (.inl (x+(dec t x).2)) else some (.inr (.inr (x:Int))):=by
   unfold g_3e.b0
   rw[if_pos (decide_eq_true (by omega)),nO,Option.bind_some]
   cases(decide (32≤(dec t x).1)&&decide ((dec t x).1≤126))<;>rfl
  rw[cI (by omega),List.all_cons]
  by_cases hb:(t.getD x default).toNat<128
  ·rw[dec_lo hb] at key
   cases hs:da (t.getD x default)
   ·rw[Bool.false_and,if_neg (by decide)]
    unfold da at hs
    exact⟨x,ah (key.trans (if_neg (by rw[hs]; decide)))⟩
   ·rw[Bool.true_and]
    unfold da at hs
    rw[ak (key.trans (if_pos hs))]
    exact ih
  ·have hh:=dec_hi hb
   have hs:da (t.getD x default)=false:=by unfold da; rw[decide_eq_false (show ¬ (t.getD x default).toNat≤126 by omega),Bool.and_false]
   rw[hs,Bool.false_and,if_neg (by decide)]
   exact⟨x,ah (key.trans (if_neg (by rw[decide_eq_false (show ¬ (dec t x).1≤126 by omega),Bool.and_false]; decide)))⟩
theorem rr (t:List UInt8):g_2x.f t 32=some (t.all da):=by
 have h:=fl t t.length 0 (by omega)
 rw[List.drop_zero] at h
 unfold g_2x.f g_3d.f g_3e.f
 cases hs:t.all da
 ·rw[hs,if_neg (by decide)] at h
  obtain⟨k,hk⟩:=h
  rw[hk]
  simp[cu]
 ·rw[hs,if_pos rfl] at h
  rw[h]
  simp[cu]
theorem tj (a b:Int):g_2u.f [a,b]=some (if a≠0 then a else b):=by
 have s0:g_2u.b0 [a,b] 0=if(a != 0)=true then some (.inr (.inr a)) else some (.inl 1):=rfl
 have s1:g_2u.b0 [a,b] 1=if(b != 0)=true then some (.inr (.inr b)) else some (.inl 2):=rfl
 have s2:g_2u.b0 [a,b] 2=some (.inr (.inl 2)):=rfl
 unfold g_2u.f
 by_cases ha:a=0
 ·subst ha
  rw[ak (s0.trans (if_neg (by simp))),if_neg (by simp)]
  by_cases hb:b=0
  ·subst hb
   rw[ak (s1.trans (if_neg (by simp))),ah s2]; rfl
  ·rw[ah (s1.trans (if_pos (by simp[hb])))]; rfl
 ·rw[ah (s0.trans (if_pos (by simp[ha]))),if_pos ha]; rfl
def fO (t:List UInt8):Int:=if 1320<t.length then 8 else if t.all da=true then 0 else 3
theorem rt (t:List UInt8):g_38.f t=some (fO t):=by
 unfold g_38.f g_39.f fO
 rw[rr]
 by_cases h:1320<t.length
 ·rw[if_neg (by simp; omega),if_pos h]
  cases t.all da<;>simp[tj]
 ·rw[if_pos (by simp; omega),if_neg h]
  cases t.all da<;>simp[tj]
theorem ru (c:UInt8):g_5.f (IntKind.i64.wrap (c.toNat:Int)) 32 126=some (da c):=by
 have hc:=c.toNat_lt
 have:IntKind.i64.wrap (c.toNat:Int)=(c.toNat:Int):=aq (by omega) (by omega)
 rw[this]
 unfold g_5.f da
 congr 1
 by_cases h1:32≤c.toNat<;>by_cases h2:c.toNat≤126<;>simp[h1,h2]<;>omega
theorem jc (t:List UInt8) (ht:t.length<10000): ∀d x:Nat,x+d=t.length →
  iter (g_4.b0 t) (x:Int)=if(t.drop x).all da=true then some (.inl (t.length:Int)) else some (.inr false)
 | 0,x,h=>by
  rw[show x=t.length by omega,List.drop_length]
  exact ah (by unfold g_4.b0; rw[if_neg (by simp)])
 | d+1,x,h=>by
  have ih:=jc t ht d (x+1) (by omega)
  have key:g_4.b0 t (x:Int)=if da (t.getD x default)=true then some (.inl ((x+1:Nat):Int)) else some (.inr (.inr false)):=by
   unfold g_4.b0
   rw[if_pos (decide_eq_true (by omega)),if_pos ⟨by omega,by omega⟩,aB,ru,Option.bind_some,aq (by omega) (by omega)]
   cases da (t.getD x default)<;>rfl
  rw[cI (by omega),List.all_cons]
  cases hs:da (t.getD x default)
  ·rw[hs,if_neg (by decide)] at key
   rw[ah key]; rfl
  ·rw[hs,if_pos rfl] at key
   rw[ak key,ih]; rfl
theorem mB (t:List UInt8) (ht:t.length<10000):g_2f.f t=some (fO t):=by
 unfold g_2f.f fO
 by_cases h:1320<t.length
 ·rw[if_pos (by simp; omega),if_pos h]
 ·have:=jc t ht t.length 0 (by omega)
  rw[List.drop_zero] at this
  unfold g_4.f
  rw[if_neg (by simp; omega),if_neg h,if_neg (by simp; omega)]
  show Option.bind (Option.bind (iter (g_4.b0 t) ((0:Nat):Int)) _) _=_
  rw[this]
  cases t.all da<;>simp[cu]
theorem cV {t:List UInt8} {a:Nat} {out:List UInt8} {frm:List Int} {own:List Bool} {cs:List (Int×Int)} (h:eP t a out frm own cs) (ha:a<t.length) {a':Nat} {o:List UInt8} {w:List Bool} {c:List (Int×Int)} (hs:stp t a out own frm= .ok (a',o,w,c)) :
  a<a'∧eP t a' (out++o) (frm++rng a o.length) (own++w) (cs++c)∧o.length=w.length:=by
 obtain⟨h1,h2,h3,h4,h5,h6⟩:=h
 have key:a<a'∧a'≤t.length∧o.length≤a'-a∧w.length=o.length∧c.length≤1:=by
  unfold stp at hs
  simp only at hs
  split at hs
  ·split at hs
   ·cases hs
   ·rename_i n hn
    obtain⟨hn,_,_⟩:=List.findIdx?_eq_some_iff_getElem.1 hn
    rw[List.length_drop] at hn
    simp only[Except.ok.injEq,Prod.mk.injEq] at hs
    obtain⟨rfl,rfl,rfl,rfl⟩:=hs
    rw[bU (by omega),List.length_replicate]
    exact⟨by omega,by omega,by omega,rfl,Nat.le_refl _⟩
  ·split at hs
   ·split at hs
    ·cases hs
    ·split at hs
     ·cases hs
     ·simp only[Except.ok.injEq,Prod.mk.injEq] at hs
      obtain⟨rfl,rfl,rfl,rfl⟩:=hs
      rw[List.length_cons,bU (by omega),List.length_cons,List.length_replicate]
      exact⟨by omega,by omega,by omega,rfl,Nat.le_refl _⟩
   ·split at hs
    ·simp only[Except.ok.injEq,Prod.mk.injEq] at hs
     obtain⟨rfl,rfl,rfl,rfl⟩:=hs
     exact⟨by omega,by omega,by simp,rfl,by simp⟩
    ·simp only[Except.ok.injEq,Prod.mk.injEq] at hs
     obtain⟨rfl,rfl,rfl,rfl⟩:=hs
     exact⟨by omega,by omega,by simp,rfl,by simp⟩
 obtain⟨k1,k2,k3,k4,k5⟩:=key
 refine⟨k1,⟨h1,k2,?_,?_,?_,?_⟩,k4.symm⟩
 ·rw[List.length_append]; omega
 ·rw[List.length_append,List.length_append,g8]; omega
 ·rw[List.length_append,List.length_append]; omega
 ·rw[List.length_append]; omega
theorem ql {t:List UInt8} {a:Nat} {out:List UInt8} {frm:List Int} {own:List Bool} {e:Int} (hs:stp t a out own frm= .error e):e=21∨e=11:=by
 unfold stp at hs
 simp only at hs
 split at hs
 ·split at hs
  ·simp only[Except.error.injEq] at hs; exact .inl hs.symm
  ·cases hs
 ·split at hs
  ·split at hs
   ·simp only[Except.error.injEq] at hs; exact .inl hs.symm
   ·split at hs
    ·simp only[Except.error.injEq] at hs; exact .inr hs.symm
    ·cases hs
  ·split at hs<;>cases hs
def sqz (t:List UInt8):Nat→Nat→List UInt8→List Int→List Bool→List (Int×Int)→Except Int (List UInt8×List Int×List Bool×List (Int×Int))
 | 0,_,out,frm,own,cs=> .ok (out,frm,own,cs)
 | n+1,a,out,frm,own,cs=>if a<t.length then
   match stp t a out own frm with
   | .error e=> .error e
   | .ok (a',o,w,c)=>sqz t n a' (out++o) (frm++rng a o.length) (own++w) (cs++c)
  else .ok (out,frm,own,cs)
theorem hY {t:List UInt8}: ∀(n a:Nat) (out:List UInt8) (frm:List Int) (own:List Bool) (cs:List (Int×Int)),eP t a out frm own cs→t.length<a+n →
  iter (g_2z.b0 t) ((a:Int),out,frm,own,cs)=some (match sqz t n a out frm own cs with | .error e=> .inr (none,e) | .ok r=> .inl ((t.length:Int),r))
 | 0,a,out,frm,own,cs,h,hn=>absurd h.la (by omega)
 | n+1,a,out,frm,own,cs,h,hn=>by
  unfold sqz
  by_cases ha:a<t.length
  ·rw[if_pos ha]
   have key:g_2z.b0 t ((a:Int),out,frm,own,cs)=match stp t a out own frm with | .error e=>some (.inr (.inr (none,e))) | .ok (a',o,w,c)=>some (.inl ((a':Int),out++o,frm++rng a o.length,own++w,cs++c)):=by
    unfold g_2z.b0
    rw[if_pos (decide_eq_true (by simp only; omega))]
    simp only
    rw[next_f h ha,Option.bind_some]
    cases hs:stp t a out own frm with
    | error e =>
     rcases ql hs with rfl | rfl<;>rfl
    | ok r=>rfl
   cases hs:stp t a out own frm with
   | error e =>
    rw[hs] at key
    exact ah key
   | ok r =>
    obtain⟨a',o,w,c⟩:=r
    rw[hs] at key
    obtain⟨k1,k2,_⟩:=cV h ha hs
    rw[ak key]
    exact hY n a' _ _ _ _ k2 (by omega)
  ·rw[if_neg ha]
   have:=h.la
   rw[show a=t.length by omega]
   exact ah (by
    unfold g_2z.b0
    rw[if_neg (by simp)])
def SQ (t:List UInt8):Except Int (List UInt8×List Int×List Bool×List (Int×Int)):=if fO t≠0 then .error (fO t) else sqz t (t.length+1) 0 [] [] [] []
theorem lJ (t:List UInt8):g_2z.f t=some (match SQ t with | .error e=>(none,e) | .ok r=>(some (t,r),0)):=by
 unfold g_2z.f SQ
 rw[rt,Option.bind_some]
 by_cases h:fO t=0
 ·have hl:t.length≤1320:=by
   unfold fO at h
   split at h
   ·cases h
   ·omega
  rw[if_neg (by simp[h]),if_neg (by simp[h])]
  have:=hY (t:=t) (t.length+1) 0 [] [] [] [] ⟨by omega,by omega,Nat.le_refl _,rfl,rfl,Nat.le_refl _⟩ (by omega)
  show Option.bind (iter (g_2z.b0 t) (((0:Nat):Int),_)) _=_
  rw[this,Option.bind_some]
  cases sqz t (t.length+1) 0 [] [] [] []<;>rfl
 ·rw[if_pos (by simp[h]),if_pos (by simp[h])]
theorem qm {t:List UInt8}: ∀(n a:Nat) (out:List UInt8) (frm:List Int) (own:List Bool) (cs:List (Int×Int)) (e:Int),sqz t n a out frm own cs= .error e→e≠0
 | 0,_,_,_,_,_,e,h=>by cases h
 | n+1,a,out,frm,own,cs,e,h=>by
  unfold sqz at h
  split at h
  ·split at h
   ·rename_i e' he
    simp only[Except.error.injEq] at h
    subst h
    rcases ql he with rfl | rfl<;>decide
   ·exact qm n _ _ _ _ _ e h
  ·cases h
theorem mC {t:List UInt8} {e:Int} (h:SQ t= .error e):e≠0:=by
 unfold SQ at h
 split at h
 ·rename_i h0
  simp only[Except.error.injEq] at h
  rw[← h]; exact h0
 ·exact qm _ _ _ _ _ _ _ h
theorem oW (t:List UInt8):g_2t.f t=some (match SQ t with | .error e=>([],[],e) | .ok r=>(r.1,r.2.1,0)):=by
 unfold g_2t.f
 rw[lJ,Option.bind_some]
 cases h:SQ t with
 | error e =>
  have:=mC h
  simp[lF,this]
 | ok r=>rfl
theorem k9 (t:List UInt8):g_2s.f t=some (match SQ t with | .error e=>([],e) | .ok r=>(r.2.2.2,0)):=by
 unfold g_2s.f
 rw[lJ,Option.bind_some]
 cases h:SQ t with
 | error e =>
  have:=mC h
  simp[lF,this]
 | ok r=>rfl
end Go.Proofs.YtcafgoomipkljaaGreatDoorAi
namespace Go.Proofs.YtcafgoomipkljaaGreatDoorAi
open Go Go.RowKit
set_option linter.unusedVariables false
set_option linter.unusedSimpArgs false
structure Rel (out:List UInt8) (own:List Bool) (pl:List UInt8):Prop where
 h1:out.length=own.length
 h2:pl.length=own.length
 q: ∀(k:Nat) (q:UInt8→Bool),q 72=false→q 34=false→(!(own.getD k default)&&q (out.getD k default))=q (pl.getD k default)
theorem kG {α:Type} (l m:List α) (d:α) (k:Nat):(l++m).getD k d=if k<l.length then l.getD k d else m.getD (k-l.length) d:=by
 simp only[List.getD_eq_getElem?_getD]
 split
 ·rw[List.getElem?_append_left (by assumption)]
 ·rw[List.getElem?_append_right (by omega)]
theorem Rel.nil:Rel [] [] []:=⟨rfl,rfl,fun k q _ _=>by simp⟩
theorem Rel.app {out:List UInt8} {own:List Bool} {pl o:List UInt8} {w:List Bool} {p:List UInt8} (h:Rel out own pl) (k:Rel o w p):Rel (out++o) (own++w) (pl++p):=by
 refine⟨by rw[List.length_append,List.length_append,h.h1,k.h1],by rw[List.length_append,List.length_append,h.h2,k.h2],fun i q q1 q2=>?_⟩
 rw[kG,kG,kG,h.h1,h.h2]
 split
 ·exact h.q i q q1 q2
 ·exact k.q _ q q1 q2
theorem Rel.one (c:UInt8):Rel [c] [false] [c]:=⟨rfl,rfl,fun k q _ _=>by
 cases k with
 | zero=>simp
 | succ k=>simp⟩
theorem Rel.hide (c:UInt8) (b:Bool) (hb:b=true∨c=72):Rel [c] [b] [34]:=⟨rfl,rfl,fun k q q1 q2=>by
 cases k with
 | zero =>
  show(!b&&q c)=q 34
  rcases hb with rfl | rfl
  ·rw[q2]; rfl
  ·rw[q1,q2,Bool.and_false]
 | succ k=>simp⟩
theorem Rel.const: ∀(o:List UInt8),Rel o (List.replicate o.length true) (List.replicate o.length 34)
 | []=>Rel.nil
 | c::o=>(Rel.hide c true (.inl rfl)).app (Rel.const o)
theorem u8cast (a:UInt8):IntKind.i64.wrap (a.toNat:Int)=(a.toNat:Int):=by
 have:=a.toNat_lt
 exact aq (by omega) (by omega)
theorem fm {pl:List UInt8} (hs:pl.length<1000000): ∀n:Nat,n≤pl.length→iter (g_2h.b0 pl) (n:Int)=some ((dg (fun k=>bz (pl.getD k default)) n:Nat):Int)
 | 0,_=>ah (by unfold g_2h.b0; rfl)
 | n+1,hn=>by
  have hw:w64 (((n+1:Nat):Int)-1)=(n:Int):=by rw[aq]<;>omega
  have key:g_2h.b0 pl ((n+1:Nat):Int)=if bz (pl.getD n default)=true then some (.inl (n:Int)) else some (.inr ((n+1:Nat):Int)):=by
   unfold g_2h.b0
   rw[hw,if_pos (decide_eq_true (by omega)),if_pos ⟨by omega,by omega⟩,nI,aB]
   rfl
  unfold dg
  split
  ·rename_i h
   rw[ak (key.trans (if_pos h))]
   exact fm hs n (by omega)
  ·rename_i h
   exact ah (key.trans (if_neg h))
theorem mD:g_2h.b1=g_2h.b0:=rfl
def isP (pl:List UInt8) (n:Nat) (sg:List UInt8):Bool:=match n with | 0=>false | n+1=>sg.contains (pl.getD n default)
theorem hZ (pl:List UInt8) (n:Nat) (sg:List UInt8):isP pl (n+1) sg=sg.contains (pl.getD n default):=rfl
theorem Rel.isB {out:List UInt8} {own:List Bool} {pl:List UInt8} (h:Rel out own pl) (n:Nat) (sg:List UInt8) (h1:sg.contains 72=false) (h2:sg.contains 34=false):isB out own n sg=isP pl n sg:=by
 cases n with
 | zero=>rfl
 | succ n=>exact h.q n (fun c=>sg.contains c) h1 h2
theorem Rel.pD {out:List UInt8} {own:List Bool} {pl:List UInt8} (h:Rel out own pl):pD out own=fun k=>bz (pl.getD k default):=by
 funext k
 exact h.q k bz (by decide) (by decide)
theorem tk {pl:List UInt8} (hp:pl.length<1000000) (o:Nat) (ho:o≤pl.length) :
  (if(((o:Int)==0))=true then some true else(if 0≤(w64 ((o:Int)-1))∧(w64 ((o:Int)-1))<(pl.length:Int) then Option.bind ((if((((gt pl (w64 ((o:Int)-1))).toNat:Int) != ((40:UInt8).toNat:Int)))=true then(if 0≤(w64 ((o:Int)-1))∧(w64 ((o:Int)-1))<(pl.length:Int) then some (((gt pl (w64 ((o:Int)-1))).toNat:Int) != ((44:UInt8).toNat:Int)) else none) else some false)) fun z29=>Option.bind ((if z29=true then(if 0≤(w64 ((o:Int)-1))∧(w64 ((o:Int)-1))<(pl.length:Int) then some (((gt pl (w64 ((o:Int)-1))).toNat:Int) != ((47:UInt8).toNat:Int)) else none) else some false)) fun z32=>Option.bind ((if z32=true then(if 0≤(w64 ((o:Int)-1))∧(w64 ((o:Int)-1))<(pl.length:Int) then some (((gt pl (w64 ((o:Int)-1))).toNat:Int) != ((61:UInt8).toNat:Int)) else none) else some false)) fun z35=>some z35 else none))=some (!isP pl o [40,44,47,61]):=by
 cases o with
 | zero=>rfl
 | succ n =>
  have hw:w64 (((n+1:Nat):Int)-1)=(n:Int):=by rw[aq]<;>omega
  have hc:0≤(n:Int)∧(n:Int)<(pl.length:Int):=⟨by omega,by omega⟩
  rw[if_neg (by simp; omega)]
  simp only[hw,if_pos hc,aB,bne,fN]
  rw[hZ]
  generalize pl.getD n default=c
  by_cases e1:c=40
  ·subst e1; rfl
  ·by_cases e2:c=44
   ·subst e2; rfl
   ·by_cases e3:c=47
    ·subst e3; rfl
    ·by_cases e4:c=61
     ·subst e4; rfl
     ·simp[e1,e2,e3,e4]
theorem mE {out:List UInt8} {own:List Bool} {pl:List UInt8} (h:Rel out own pl) (hp:pl.length<1000000) :
  g_2h.f pl=some (match hol out own with | some b=>((out.length-b:Nat):Int) | none=>0):=by
 have hlen:out.length=pl.length:=by rw[h.h1,h.h2]
 unfold hol
 have e1:=fun n=>h.isB n [40,44,47,61] (by decide) (by decide)
 have e2:=fun n=>h.isB n [42] (by decide) (by decide)
 simp only[e1,e2,h.pD,hlen]
 have hle:=kC (fun k=>bz (pl.getD k default)) pl.length
 unfold g_2h.f
 rw[fm hp pl.length (Nat.le_refl _),Option.bind_some]
 generalize dg (fun k=>bz (pl.getD k default)) pl.length=b at *
 have hw:w64 ((pl.length:Int)-(b:Int))=((pl.length-b:Nat):Int):=by rw[aq]<;>omega
 have hz11:(if((decide ((w64 ((pl.length:Int)-(b:Int)))>0))&&(decide ((b:Int)>0)))=true then(if 0≤(w64 ((b:Int)-1))∧(w64 ((b:Int)-1))<(pl.length:Int) then some (((gt pl (w64 ((b:Int)-1))).toNat:Int)==((42:UInt8).toNat:Int)) else none) else some false)=some (decide (b<pl.length)&&isP pl b [42]):=by
  cases b with
  | zero=>rw[if_neg (by simp)]; simp[isP]
  | succ n =>
   have hw2:w64 (((n+1:Nat):Int)-1)=(n:Int):=by rw[aq]<;>omega
   rw[hw]
   by_cases hb:n+1<pl.length
   ·rw[if_pos (by simp; omega),hw2,if_pos ⟨by omega,by omega⟩,aB,fN,decide_eq_true hb,Bool.true_and,hZ]
    generalize pl.getD n default=c
    by_cases e:c=42
    ·subst e; rfl
    ·rw[decide_eq_false e]; simp[e]
   ·rw[if_neg (by simp; omega),decide_eq_false hb,Bool.false_and]
 rw[hz11,Option.bind_some]
 by_cases hb:b=pl.length
 ·rw[if_pos hb,if_neg (by simp[hb]),tk hp b hle,Option.bind_some,hw]
  subst hb
  cases isP pl pl.length [40,44,47,61]<;>simp
 ·rw[if_neg hb,decide_eq_true (by omega),Bool.true_and]
  have hsg:isP pl b [42]=true→isP pl b [40,44,47,61]=false:=by
   cases b with
   | zero=>intro; rfl
   | succ n =>
    rw[hZ,hZ]
    intro hc
    have:pl.getD n default=42:=by
     generalize pl.getD n default=c at *
     simpa using hc
    rw[this]; decide
  cases h42:isP pl b [42]
  ·rw[if_neg (by decide),tk hp b hle,Option.bind_some,hw]
   cases isP pl b [40,44,47,61]<;>simp
  ·rw[if_pos rfl,hsg h42]
   have hb0:0<b:=by
    cases b with
    | zero=>simp[isP] at h42
    | succ b=>omega
   have hw2:w64 ((b:Int)-1)=((b-1:Nat):Int):=by rw[aq]<;>omega
   have hk:=kC (fun k=>bz (pl.getD k default)) (b-1)
   rw[hw2,mD,fm hp (b-1) (by omega),Option.bind_some]
   generalize dg (fun k=>bz (pl.getD k default)) (b-1)=k at *
   simp only[Bool.false_eq_true,if_false,if_true]
   by_cases h3:k=b-1
   ·rw[if_pos (by simp[h3]),if_neg (by omega)]
   ·rw[if_neg (by simp; omega),tk hp k (by omega),Option.bind_some,hw]
    cases h4:isP pl k [40,44,47,61]
    ·simp
    ·have h5:k<b-1:=by omega
     simp[h5]
end Go.Proofs.YtcafgoomipkljaaGreatDoorAi
namespace Go.Proofs.YtcafgoomipkljaaGreatDoorAi
open Go Go.RowKit
set_option linter.unusedVariables false
set_option linter.unusedSimpArgs false
theorem oX {tx pl:List UInt8} {ix:List Int} {cs:List (Int×Int)} {er:Int} (h1:tx.length<1000000) (h2:pl.length<1000000) (h3:ix.length<1000000) (c:UInt8) (i:Int) :
  g_2k.f tx pl ix cs er c i=some (tx++ [c],pl++ [c],ix++ [i],cs,er):=by
 unfold g_2k.f
 rw[if_pos (by simp only[List.length_cons,List.length_nil]; omega),if_pos (by simp only[List.length_cons,List.length_nil]; omega),if_pos (by simp only[List.length_cons,List.length_nil]; omega)]
theorem nP {tx pl:List UInt8} {ix:List Int} {cs:List (Int×Int)} {er:Int} (h2:pl.length<1000000) (c:UInt8) :
  g_2g.f tx (pl++ [c]) ix cs er=some (tx,pl++ [34],ix,cs,er):=by
 have hl:(pl++ [c]).length=pl.length+1:=by simp
 have hw:w64 (((pl++ [c]).length:Int)-1)=(pl.length:Int):=by rw[hl,aq]<;>omega
 have hm:mid (pl++ [c]) 0 (pl.length:Int)=pl:=by
  unfold mid
  rw[Int.toNat_natCast]
  simp
 unfold g_2g.f
 rw[hw,if_pos ⟨by omega,by omega,by rw[hl]; omega⟩,hm,if_pos (by simp only[List.length_cons,List.length_nil]; omega)]
theorem qo {t:List UInt8} (ht:t.length<10000) (x6:Int×List UInt8×List UInt8×List Int×(List (Int×Int))×Int) {a:Nat} (hx:x6.1=(a:Int)): ∀d k:Nat,k+d=t.length →
  iter (g_2e.b1 t x6) (k:Int)=some (match (t.drop k).findIdx? (· == t.getD a default) with | none=>(t.length:Int) | some n=>((k+n:Nat):Int))
 | 0,k,h=>by
  rw[show k=t.length by omega,List.drop_length]
  exact ah (by unfold g_2e.b1; rw[if_neg (by simp)]; rfl)
 | d+1,k,h=>by
  have ih:=qo ht x6 hx d (k+1) (by omega)
  have key:g_2e.b1 t x6 (k:Int)=if(t.getD k default==t.getD a default)=true then some (.inr (k:Int)) else some (.inl ((k+1:Nat):Int)):=by
   unfold g_2e.b1
   rw[if_pos (decide_eq_true (by omega)),if_pos ⟨by omega,by omega⟩,hx,aB,aB,bne,fN,aq (by omega) (by omega),Option.bind_some]
   generalize t.getD k default=c
   generalize t.getD a default=e
   by_cases he:c=e
   ·subst he; simp
   ·rw[decide_eq_false he]; simp[he]
  rw[cI (by omega),List.findIdx?_cons]
  cases hc:(t.getD k default==t.getD a default)
  ·rw[hc,if_neg (by decide)] at key
   rw[ak key,ih]
   cases(t.drop (k+1)).findIdx? (· == t.getD a default) with
   | none=>rfl
   | some n =>
    show some (((k+1+n:Nat)):Int)=some ((k+(n+1):Nat):Int)
    rw[show k+1+n=k+(n+1) by omega]
  ·rw[hc,if_pos rfl] at key
   rw[ah key]; rfl
theorem mF {t:List UInt8} (ht:t.length<10000) {cs:List (Int×Int)} {er:Int} (e:Nat) (he:e<t.length): ∀(n a:Nat) (tx pl:List UInt8) (ix:List Int),a+n=e+1→tx.length+n<900000→pl.length+n<900000→ix.length+n<900000 →
  iter (g_2e.b2 t (e:Int)) ((a:Int),tx,pl,ix,cs,er)=some (((e+1:Nat):Int),tx++dx t a n,pl++List.replicate n 34,ix++rng a n,cs,er)
 | 0,a,tx,pl,ix,h,_,_,_=>by
  rw[show e+1=a by omega]
  exact ah (by
   unfold g_2e.b2
   rw[if_neg (by simp; omega)]
   simp[kD,rng])
 | n+1,a,tx,pl,ix,h,h1,h2,h3=>by
  have ih:=mF ht (cs:=cs) (er:=er) e he n (a+1) (tx++ [t.getD a default]) (pl++ [34]) (ix++ [(a:Int)]) (by omega) (by simp; omega) (by simp; omega) (by simp; omega)
  rw[ak (y:=(((a+1:Nat):Int),tx++ [t.getD a default],pl++ [34],ix++ [(a:Int)],cs,er)) (by
   unfold g_2e.b2
   rw[if_pos (decide_eq_true (by simp only; omega)),if_pos ⟨by simp only; omega,by simp only; omega⟩]
   simp only
   rw[oX (by omega) (by omega) (by omega),Option.bind_some]
   simp only
   rw[nP (by omega),Option.bind_some,aq (by omega) (by omega),aB]
   rfl),ih,kE n (by omega)]
  simp[rng,List.replicate_succ]
theorem b4_eq (t:List UInt8) (x6:Int×List UInt8×List UInt8×List Int×(List (Int×Int))×Int) (o:Int×Int):g_2e.b4 t x6 o=g_2e.b2 t (w64 (x6.1+o.1)):=rfl
theorem tl (l:List UInt8): ∀a P:Nat,min (cY a l) P=min (cY (min a P) l) P:=by
 induction l with
 | nil=>intro a P; rw[g9,g9]; omega
 | cons c r ih =>
  intro a P
  rw[eA,eA,ih (a*10+(c.toNat-48)),ih (min a P*10+(c.toNat-48))]
  have:min (a*10+(c.toNat-48)) P=min (min a P*10+(c.toNat-48)) P:=by
   generalize c.toNat-48=d
   omega
  rw[this]
theorem qp (x6:Int×List UInt8×List UInt8×List Int×(List (Int×Int))×Int) (hl:x6.2.1.length<100000): ∀d k v:Nat,k+d=x6.2.1.length→v≤10000→(x6.2.1.drop k).all bz=true →
  iter (g_2e.b3 x6) ((v:Int),(k:Int))=some (((min (cY v (x6.2.1.drop k)) 10000:Nat):Int),(x6.2.1.length:Int))
 | 0,k,v,h,hv,_=>by
  rw[show k=x6.2.1.length by omega,List.drop_length,g9,Nat.min_eq_left hv]
  exact ah (by unfold g_2e.b3; rw[if_neg (by simp)])
 | d+1,k,v,h,hv,ha=>by
  rw[cI (by omega),List.all_cons,Bool.and_eq_true] at ha
  have ih:=qp x6 hl d (k+1) (min (v*10+((x6.2.1.getD k default).toNat-48)) 10000) (by omega) (by omega) ha.2
  have hd:=fk.1 ha.1
  have key:g_2e.b3 x6 ((v:Int),(k:Int))=some (.inl (((min (v*10+((x6.2.1.getD k default).toNat-48)) 10000:Nat):Int),((k+1:Nat):Int))):=by
   unfold g_2e.b3
   rw[if_pos (decide_eq_true (by simp only; omega)),if_pos ⟨by simp only; omega,by simp only; omega⟩]
   simp only
   have hsub:((gt x6.2.1 (k:Int)-48).toNat:Int)=(((x6.2.1.getD k default).toNat-48:Nat):Int):=by
    rw[aB]
    have:(x6.2.1.getD k default-48).toNat=(x6.2.1.getD k default).toNat-48:=by
     rw[UInt8.toNat_sub]
     show(256-48+_) % 256=_
     omega
    rw[this]
   rw[u8cast,hsub]
   have hz:(x6.2.1.getD k default).toNat-48<1000:=by omega
   generalize (x6.2.1.getD k default).toNat-48=z at *
   rw[aq (x:=10*(v:Int)) (by omega) (by omega),aq (x:=10*(v:Int)+(z:Int)) (by omega) (by omega),aq (x:=(k:Int)+1) (by omega) (by omega)]
   by_cases hb:(10000:Int)<10*(v:Int)+(z:Int)
   ·rw[if_pos hb,show min (v*10+z) 10000=10000 by omega]; rfl
   ·rw[if_neg hb,show((min (v*10+z) 10000:Nat):Int)=10*(v:Int)+(z:Int) by omega]; rfl
  rw[ak key,ih,cI (t:=x6.2.1) (a:=k) (by omega),eA,tl (List.drop (k+1) x6.2.1) (v*10+_)]
theorem rx (c:UInt8):g_2j.f [c]=some [upC c]:=by
 have s0:g_2j.b0 [c] ([],0)=some (.inl ([upC c],1)):=by
  unfold g_2j.b0
  rw[if_pos (decide_eq_true (by simp)),if_pos ⟨Int.le_refl _,by simp⟩]
  have e1:((97:UInt8).toNat:Int)=97:=rfl
  have e2:((122:UInt8).toNat:Int)=122:=rfl
  have e3:gt [c] (0:Int)=c:=rfl
  simp only[e1,e2,e3]
  unfold upC
  by_cases h:97≤c.toNat∧c.toNat≤122
  ·rw[if_pos h,if_pos (by simp; omega)]; rfl
  ·rw[if_neg h,if_neg (by simp; omega)]; rfl
 have s1:g_2j.b0 [c] ([upC c],1)=some (.inr ([upC c],1)):=rfl
 unfold g_2j.f
 rw[ak s0,ah s1]; rfl
end Go.Proofs.YtcafgoomipkljaaGreatDoorAi
namespace Go.Proofs.YtcafgoomipkljaaGreatDoorAi
open Go Go.RowKit
set_option linter.unusedVariables false
set_option linter.unusedSimpArgs false
theorem tm: ∀n:Fin 256,(decide (upC (UInt8.ofNat n.val)=72)=(decide (UInt8.ofNat n.val=72)||decide (UInt8.ofNat n.val=104)))∧decide (upC (UInt8.ofNat n.val)=32)=decide (UInt8.ofNat n.val=32):=by decide +kernel
theorem up72 (c:UInt8):decide (upC c=72)=(decide (c=72)||decide (c=104)):=by
 have h:=(tm ⟨c.toNat,c.toNat_lt⟩).1
 simpa using h
theorem up32 (c:UInt8):decide (upC c=32)=decide (c=32):=by
 have h:=(tm ⟨c.toNat,c.toNat_lt⟩).2
 simpa using h
theorem mid_one {t:List UInt8} {a:Nat} (ha:a<t.length):mid t (a:Int) ((a+1:Nat):Int)= [t.getD a default]:=by
 unfold mid
 rw[Int.toNat_natCast,Int.toNat_natCast,List.drop_take,cI ha]
 simp
theorem tn {t:List UInt8} {a:Nat} {out:List UInt8} {frm:List Int} {own:List Bool} {cs:List (Int×Int)} {pl:List UInt8} (h:eP t a out frm own cs) (hr:Rel out own pl) (ha:a<t.length) :
  match stp t a out own frm with
  | .error e=>g_2e.b0 t ((a:Int),out,pl,frm,cs,0)=some (.inr (.inr ([],[],[],[],e)))
  | .ok (a',o,w,c)=> ∃p,Rel o w p∧g_2e.b0 t ((a:Int),out,pl,frm,cs,0)=some (.inl ((a':Int),out++o,pl++p,frm++rng a o.length,cs++c,0)):=by
 obtain⟨h1,h2,h3,h4,h5,h6⟩:=h
 have hpl:pl.length=out.length:=by rw[hr.h2,h5]
 have hw1:w64 ((a:Int)+1)=((a+1:Nat):Int):=by rw[aq]<;>omega
 -- what the reference does with a character that is none of these
 have key:g_2e.b0 t ((a:Int),out,pl,frm,cs,0)=(if t.getD a default=32 then some (.inl (((a+1:Nat):Int),out,pl,frm,cs,0)) else if t.getD a default=39∨t.getD a default=34 then
   Option.bind (iter (g_2e.b1 t ((a:Int),out,pl,frm,cs,0)) ((a+1:Nat):Int)) (fun o31=>(if(o31==(t.length:Int))=true then some (.inr (.inr ([],[],([]:List Int),([]:List (Int×Int)),21))) else(if cs.length+([((a:Int),(w64 (o31+1)))]:List (Int×Int)).length<1000000000 then Option.bind (iter (g_2e.b2 t o31) ((a:Int),out,pl,frm,(cs++([((a:Int),(w64 (o31+1)))]:List (Int×Int))),0)) fun o54=>some (.inl (o54.1,o54.2.1,o54.2.2.1,o54.2.2.2.1,o54.2.2.2.2.1,o54.2.2.2.2.2)) else none)))
   else match (if upC (t.getD a default)=72 then hol out own else none) with
   | some b=>Option.bind (iter (g_2e.b3 ((a:Int),out,pl,frm,cs,0)) (0,(b:Int))) (fun o103=>(if(o103.1==0)=true then some (.inr (.inr ([],[],([]:List Int),([]:List (Int×Int)),11))) else(if(decide ((w64 ((a:Int)+o103.1))≥(t.length:Int)))=true then some (.inr (.inr ([],[],([]:List Int),([]:List (Int×Int)),21))) else
     (if cs.length+([((gt frm (b:Int)),(w64 ((w64 ((a:Int)+o103.1))+1)))]:List (Int×Int)).length<1000000000 then Option.bind (g_2k.f out pl frm (cs++([((gt frm (b:Int)),(w64 ((w64 ((a:Int)+o103.1))+1)))]:List (Int×Int))) 0 72 (a:Int)) fun y126=>Option.bind (g_2g.f y126.1 y126.2.1 y126.2.2.1 y126.2.2.2.1 y126.2.2.2.2) fun y136=>Option.bind (iter (g_2e.b4 t ((a:Int),out,pl,frm,cs,0) o103) (((a+1:Nat):Int),y136.1,y136.2.1,y136.2.2.1,y136.2.2.2.1,y136.2.2.2.2)) fun o155=>some (.inl ((w64 ((w64 ((a:Int)+o103.1))+1)),o155.2.1,o155.2.2.1,o155.2.2.2.1,o155.2.2.2.2.1,o155.2.2.2.2.2)) else none))))
   | none=>some (.inl (((a+1:Nat):Int),out++ [upC (t.getD a default)],pl++ [upC (t.getD a default)],frm++ [(a:Int)],cs,0))):=by
  have hend:(if 0≤(a:Int)∧(a:Int)≤((a+1:Nat):Int)∧((a+1:Nat):Int)≤(t.length:Int) then Option.bind (g_2j.f (mid t (a:Int) ((a+1:Nat):Int))) fun y197=>(if 0≤(0:Int)∧(0:Int)<(y197.length:Int) then Option.bind (g_2k.f out pl frm cs 0 (gt y197 (0:Int)) (a:Int)) fun y200=>some ((Sum.inl (((a+1:Nat):Int),y200.1,y200.2.1,y200.2.2.1,y200.2.2.2.1,y200.2.2.2.2)):(Int×List UInt8×List UInt8×List Int×(List (Int×Int))×Int)⊕((Int×List UInt8×List UInt8×List Int×(List (Int×Int))×Int)⊕(List UInt8×List UInt8×List Int×(List (Int×Int))×Int))) else none) else none) =
    some (.inl (((a+1:Nat):Int),out++ [upC (t.getD a default)],pl++ [upC (t.getD a default)],frm++ [(a:Int)],cs,0)):=by
   rw[if_pos ⟨by omega,by omega,by omega⟩,mid_one ha,rx,Option.bind_some,if_pos ⟨by omega,by simp⟩,oX (by omega) (by omega) (by omega)]
   rfl
  unfold g_2e.b0
  rw[if_pos (decide_eq_true (by simp only; omega)),if_pos ⟨by simp only; omega,by simp only; omega⟩]
  simp only[aB,fN,hw1]
  by_cases c32:t.getD a default=32
  ·rw[if_pos c32,if_pos (decide_eq_true c32)]
  ·rw[if_neg c32,if_neg (by rw[decide_eq_false c32]; decide)]
   by_cases cq:t.getD a default=39∨t.getD a default=34
   ·rw[if_pos cq,if_pos (by rcases cq with q | q<;>rw[decide_eq_true q]<;>simp)]
   ·have cq': ¬ (decide (t.getD a default=39)||decide (t.getD a default=34))=true:=by
     simp only[Bool.or_eq_true,decide_eq_true_eq]; exact cq
    rw[if_neg cq,if_neg cq']
    by_cases c72:upC (t.getD a default)=72
    ·have c72':=up72 (t.getD a default)
     rw[decide_eq_true c72] at c72'
     rw[if_pos c72,if_pos c72'.symm,mE hr (by omega),Option.bind_some,Option.bind_some]
     cases hh:hol out own with
     | none=>rw[if_neg (by simp)]; exact hend
     | some b =>
      obtain⟨k1,k2,k3⟩:=dT hh
      have e1:w64 ((out.length:Int)-((out.length-b:Nat):Int))=(b:Int):=by rw[aq]<;>omega
      have e2:w64 ((frm.length:Int)-((out.length-b:Nat):Int))=(b:Int):=by rw[aq]<;>omega
      rw[if_pos (decide_eq_true (show((out.length-b:Nat):Int)>0 by omega))]
      simp only[Option.bind_some,e1,e2]
      congr 1
      funext o103
      rw[if_pos (show 0≤(b:Int)∧(b:Int)<(frm.length:Int) from⟨by omega,by omega⟩)]
      rfl
    ·have c72':=up72 (t.getD a default)
     rw[decide_eq_false c72] at c72'
     rw[if_neg c72,if_neg (by rw[← c72']; decide),Option.bind_some,if_neg (by decide)]
     exact hend
 rw[key]
 unfold stp
 simp only
 by_cases c32:t.getD a default=32
 ·rw[c32,if_pos rfl,if_neg (by decide),if_neg (by decide)]
  simp only
  rw[if_pos (by decide)]
  simp only
  exact⟨[],Rel.nil,by simp[rng]⟩
 ·rw[if_neg c32]
  by_cases cq:t.getD a default=39∨t.getD a default=34
  ·rw[if_pos cq,if_pos cq,qo h1 _ rfl (t.length-(a+1)) (a+1) (by omega),Option.bind_some]
   cases hf:(t.drop (a+1)).findIdx? (· == t.getD a default) with
   | none=>simp only; rw[if_pos (by simp)]
   | some n =>
    obtain⟨hn,_,_⟩:=List.findIdx?_eq_some_iff_getElem.1 hf
    rw[List.length_drop] at hn
    have e1:w64 (((a+1+n:Nat):Int)+1)=((a+(n+2):Nat):Int):=by rw[aq]<;>omega
    simp only[e1]
    rw[if_neg (by simp; omega),if_pos (by simp only[List.length_cons,List.length_nil]; omega),mF h1 (a+1+n) (by omega) (n+2) a out pl frm (by omega) (by omega) (by omega) (by omega),Option.bind_some]
    refine⟨List.replicate (n+2) 34,?_,?_⟩
    ·have:=Rel.const (dx t a (n+2))
     rwa [bU (by omega)] at this
    ·simp only
     rw[bU (by omega),show a+1+n+1=a+(n+2) by omega]
  ·rw[if_neg cq,if_neg cq]
   cases hh:(if upC (t.getD a default)=72 then hol out own else none) with
   | none =>
    simp only
    have c32':=up32 (t.getD a default)
    rw[decide_eq_false c32,decide_eq_false_iff_not] at c32'
    rw[if_neg c32']
    exact⟨[upC (t.getD a default)],Rel.one _,by simp[rng]⟩
   | some b =>
    have hh':hol out own=some b:=by
     split at hh
     ·exact hh
     ·cases hh
    obtain⟨k1,k2,k3⟩:=dT hh'
    simp only
    have hb3:=qp ((a:Int),out,pl,frm,cs,0) (show out.length<100000 by omega) (out.length-b) b 0 (show b+(out.length-b)=out.length by omega) (by omega) k2
    rw[show((0:Nat):Int)=0 from rfl] at hb3
    simp only at hb3
    rw[hb3,Option.bind_some]
    generalize cY 0 (out.drop b)=v
    simp only
    by_cases hv0:v=0
    ·subst hv0
     rw[if_neg (show ¬ t.length<a+1+0 by omega),if_pos rfl,if_pos (by decide)]
    ·have hw2:w64 ((a:Int)+((min v 10000:Nat):Int))=((a+min v 10000:Nat):Int):=by rw[aq]<;>omega
     rw[if_neg (show ¬ ((((min v 10000:Nat):Int)==0)=true) by simp; omega)]
     simp only[hw2]
     by_cases hvl:t.length<a+1+v
     ·rw[if_pos hvl,if_pos (decide_eq_true (by omega))]
     ·have hm:min v 10000=v:=by omega
      rw[if_neg hvl,if_neg hv0,hm,if_neg (by simp; omega),if_pos (by simp only[List.length_cons,List.length_nil]; omega),oX (by omega) (by omega) (by omega),Option.bind_some]
      simp only
      rw[nP (by omega),Option.bind_some,b4_eq]
      simp only
      have hw3:w64 ((a:Int)+(v:Int))=((a+v:Nat):Int):=by rw[aq]<;>omega
      have hw4:w64 (((a+v:Nat):Int)+1)=((a+1+v:Nat):Int):=by rw[aq]<;>omega
      rw[hw3,hw4,mF h1 (a+v) (by omega) v (a+1) _ _ _ (by omega) (by simp; omega) (by simp; omega) (by simp; omega),Option.bind_some]
      refine⟨34::List.replicate v 34,?_,?_⟩
      ·have:=(Rel.hide 72 false (.inr rfl)).app (Rel.const (dx t (a+1) v))
       rw[bU (by omega)] at this
       exact this
      ·simp only[aB]
       rw[List.length_cons,bU (by omega)]
       simp[rng]
theorem nQ {t:List UInt8}: ∀(n a:Nat) (out:List UInt8) (frm:List Int) (own:List Bool) (cs:List (Int×Int)) (pl:List UInt8),eP t a out frm own cs→Rel out own pl→t.length<a+n →
  ∃p,iter (g_2e.b0 t) ((a:Int),out,pl,frm,cs,0)=some (match sqz t n a out frm own cs with | .error e=> .inr ([],[],[],[],e) | .ok r=> .inl ((t.length:Int),r.1,p,r.2.1,r.2.2.2,0))
 | 0,a,out,frm,own,cs,pl,h,hr,hn=>absurd h.la (by omega)
 | n+1,a,out,frm,own,cs,pl,h,hr,hn=>by
  unfold sqz
  by_cases ha:a<t.length
  ·rw[if_pos ha]
   have key:=tn h hr ha
   cases hs:stp t a out own frm with
   | error e =>
    rw[hs] at key
    exact⟨[],ah key⟩
   | ok r =>
    obtain⟨a',o,w,c⟩:=r
    rw[hs] at key
    obtain⟨p,hp,key⟩:=key
    obtain⟨k1,k2,_⟩:=cV h ha hs
    simp only
    rw[ak key]
    exact nQ n a' _ _ _ _ _ k2 (hr.app hp) (by omega)
  ·rw[if_neg ha]
   have:=h.la
   rw[show a=t.length by omega]
   exact⟨pl,ah (by
    unfold g_2e.b0
    rw[if_neg (by simp)])⟩
theorem lb {t:List UInt8} (ht:t.length<10000): ∃p,g_2e.f t=some (match SQ t with | .error e=>([],[],[],[],e) | .ok r=>(r.1,p,r.2.1,r.2.2.2,0)):=by
 unfold g_2e.f SQ
 rw[mB t ht,Option.bind_some]
 by_cases h:fO t=0
 ·have hl:t.length≤1320:=by
   unfold fO at h
   split at h
   ·cases h
   ·omega
  rw[if_neg (by simp[h]),if_neg (by simp[h])]
  obtain⟨p,this⟩:=nQ (t:=t) (t.length+1) 0 [] [] [] [] [] ⟨by omega,by omega,Nat.le_refl _,rfl,rfl,Nat.le_refl _⟩ Rel.nil (by omega)
  refine⟨p,?_⟩
  show Option.bind (iter (g_2e.b0 t) (((0:Nat):Int),_)) _=_
  rw[this,Option.bind_some]
  cases sqz t (t.length+1) 0 [] [] [] []<;>rfl
 ·rw[if_pos (by simp[h]),if_pos (by simp[h])]
  exact⟨[],rfl⟩
end Go.Proofs.YtcafgoomipkljaaGreatDoorAi
namespace Go.Proofs.YtcafgoomipkljaaGreatDoorAi
open Go Go.RowKit
set_option linter.unusedVariables false
set_option linter.unusedSimpArgs false
theorem qq {t:List UInt8}: ∀(n a:Nat) (out:List UInt8) (frm:List Int) (own:List Bool) (cs:List (Int×Int)) (r:List UInt8×List Int×List Bool×List (Int×Int)),eP t a out frm own cs→sqz t n a out frm own cs= .ok r→r.1.length≤t.length∧r.2.1.length=r.1.length∧r.2.2.1.length=r.1.length∧r.2.2.2.length≤t.length
 | 0,a,out,frm,own,cs,r,hf,h=>by
  simp only[sqz,Except.ok.injEq] at h
  subst h
  exact⟨Nat.le_trans hf.lo hf.la,hf.lf,hf.lw,Nat.le_trans hf.lc hf.la⟩
 | n+1,a,out,frm,own,cs,r,hf,h=>by
  unfold sqz at h
  split at h
  ·rename_i ha
   split at h
   ·cases h
   ·rename_i a' o w c hs
    exact qq n a' _ _ _ _ r (cV hf ha hs).2.1 h
  ·simp only[Except.ok.injEq] at h
   subst h
   exact⟨Nat.le_trans hf.lo hf.la,hf.lf,hf.lw,Nat.le_trans hf.lc hf.la⟩
theorem oY {t:List UInt8} {r:List UInt8×List Int×List Bool×List (Int×Int)} (h:SQ t= .ok r):t.length≤1320∧r.1.length≤t.length∧r.2.1.length=r.1.length∧r.2.2.1.length=r.1.length∧r.2.2.2.length≤t.length:=by
 unfold SQ at h
 split at h
 ·cases h
 ·rename_i h0
  have hl:t.length≤1320:=by
   unfold fO at h0
   split at h0
   ·exact absurd (by decide) h0
   ·omega
  exact⟨hl,qq _ _ _ _ _ _ r ⟨by omega,Nat.zero_le _,Nat.le_refl _,rfl,rfl,Nat.le_refl _⟩ h⟩
end Go.Proofs.YtcafgoomipkljaaGreatDoorAi
namespace Go.Proofs.YtcafgoomipkljaaGreatDoorAi
open Go Go.RowKit
set_option maxRecDepth 100000
theorem awake_t:g_2d.f=some true:=by kernel_rfl
end Go.Proofs.YtcafgoomipkljaaGreatDoorAi
namespace Go.Proofs.YtcafgoomipkljaaGreatDoorAi
open Go Go.RowKit
set_option linter.unusedVariables false
set_option linter.unusedSimpArgs false
def InT (len:Nat) (cs:List (Int×Int)):Prop:= ∀c∈cs,∃i n:Nat,c=((i:Int),((i+n:Nat):Int))∧i+n≤len
def LtA (a:Nat) (frm:List Int):Prop:= ∀x∈frm,∃i:Nat,x=(i:Int)∧i<a
theorem jx {a b:Nat}: ∀n,a+n≤b→LtA b (rng a n)
 | 0,_=>fun x hx=>by simp[rng] at hx
 | n+1,h=>fun x hx=>by
  simp only[rng,List.mem_cons] at hx
  rcases hx with rfl | hx
  ·exact⟨a,rfl,by omega⟩
  ·exact jx (a:=a+1) n (by omega) x hx
theorem LtA.mono {a b:Nat} {l:List Int} (h:LtA a l) (hab:a≤b):LtA b l:=fun x hx=>by
 obtain⟨i,h1,h2⟩:=h x hx
 exact⟨i,h1,by omega⟩
theorem LtA.app {a:Nat} {l m:List Int} (h:LtA a l) (k:LtA a m):LtA a (l++m):=fun x hx=>by
 rcases List.mem_append.1 hx with q | q
 ·exact h x q
 ·exact k x q
theorem InT.app {a:Nat} {l m:List (Int×Int)} (h:InT a l) (k:InT a m):InT a (l++m):=fun x hx=>by
 rcases List.mem_append.1 hx with q | q
 ·exact h x q
 ·exact k x q
theorem oZ {t:List UInt8} {a:Nat} {out:List UInt8} {frm:List Int} {own:List Bool} {cs:List (Int×Int)} (h:eP t a out frm own cs) (hl:LtA a frm) (ha:a<t.length) {a':Nat} {o:List UInt8} {w:List Bool} {c:List (Int×Int)} (hs:stp t a out own frm= .ok (a',o,w,c)) :
  InT t.length c∧a+o.length≤a':=by
 obtain⟨h1,h2,h3,h4,h5,h6⟩:=h
 have none_:InT t.length []:=fun x hx=>by cases hx
 unfold stp at hs
 simp only at hs
 split at hs
 ·split at hs
  ·cases hs
  ·rename_i n hn
   obtain⟨hn,_,_⟩:=List.findIdx?_eq_some_iff_getElem.1 hn
   rw[List.length_drop] at hn
   simp only[Except.ok.injEq,Prod.mk.injEq] at hs
   obtain⟨rfl,rfl,rfl,rfl⟩:=hs
   rw[bU (by omega)]
   refine⟨fun x hx=>?_,by omega⟩
   rw[List.mem_singleton] at hx
   exact⟨a,n+2,hx,by omega⟩
 ·split at hs
  ·rename_i b hb
   have hb':hol out own=some b:=by
    split at hb
    ·exact hb
    ·cases hb
   obtain⟨k1,_,_⟩:=dT hb'
   split at hs
   ·cases hs
   ·split at hs
    ·cases hs
    ·simp only[Except.ok.injEq,Prod.mk.injEq] at hs
     obtain⟨rfl,rfl,rfl,rfl⟩:=hs
     rw[List.length_cons,bU (by omega)]
     refine⟨fun x hx=>?_,by omega⟩
     rw[List.mem_singleton] at hx
     have hm:frm.getD b default∈frm:=by
      rw[List.getD_eq_getElem?_getD,List.getElem?_eq_getElem (by omega)]
      exact List.getElem_mem _
     obtain⟨i,e1,e2⟩:=hl _ hm
     generalize cY 0 (out.drop b)=v at *
     exact⟨i,a+1+v-i,by rw[hx,e1,show i+(a+1+v-i)=a+1+v by omega],by omega⟩
  ·split at hs
   ·simp only[Except.ok.injEq,Prod.mk.injEq] at hs
    obtain⟨rfl,rfl,rfl,rfl⟩:=hs
    exact⟨none_,by simp⟩
   ·simp only[Except.ok.injEq,Prod.mk.injEq] at hs
    obtain⟨rfl,rfl,rfl,rfl⟩:=hs
    exact⟨none_,by simp⟩
theorem tp {t:List UInt8}: ∀(n a:Nat) (out:List UInt8) (frm:List Int) (own:List Bool) (cs:List (Int×Int)) (r:List UInt8×List Int×List Bool×List (Int×Int)),eP t a out frm own cs→LtA a frm→InT t.length cs→sqz t n a out frm own cs= .ok r→InT t.length r.2.2.2
 | 0,a,out,frm,own,cs,r,hf,hl,hi,h=>by
  simp only[sqz,Except.ok.injEq] at h
  subst h
  exact hi
 | n+1,a,out,frm,own,cs,r,hf,hl,hi,h=>by
  unfold sqz at h
  split at h
  ·rename_i ha
   split at h
   ·cases h
   ·rename_i a' o w c hs
    obtain⟨k1,k2⟩:=oZ hf hl ha hs
    obtain⟨k3,k4,_⟩:=cV hf ha hs
    exact tp n a' _ _ _ _ r k4 ((hl.mono (by omega)).app (jx o.length k2)) (hi.app k1) h
  ·simp only[Except.ok.injEq] at h
   subst h
   exact hi
theorem tq {t:List UInt8} {r:List UInt8×List Int×List Bool×List (Int×Int)} (h:SQ t= .ok r):InT t.length r.2.2.2:=by
 unfold SQ at h
 split at h
 ·cases h
 ·rename_i h0
  have hl:t.length≤1320:=by
   unfold fO at h0
   split at h0
   ·exact absurd (by decide) h0
   ·omega
  exact tp _ _ _ _ _ _ r ⟨by omega,Nat.zero_le _,Nat.le_refl _,rfl,rfl,Nat.le_refl _⟩ (fun x hx=>by cases hx) (fun x hx=>by cases hx) h
def dy (l:List Bool) (i:Nat):Nat→List Bool
 | 0=>l
 | n+1=>dy (l.set i true) (i+1) n
theorem fI: ∀(n i:Nat) (l:List Bool),(dy l i n).length=l.length
 | 0,_,_=>rfl
 | n+1,i,l=>by unfold dy; rw[fI n,List.length_set]
def mks:List (Int×Int)→List Bool→List Bool
 | [],l=>l
 | c::cs,l=>mks cs (dy l c.1.toNat (c.2-c.1).toNat)
theorem qr: ∀(cs:List (Int×Int)) (l:List Bool),(mks cs l).length=l.length
 | [],_=>rfl
 | c::cs,l=>by unfold mks; rw[qr cs,fI]
def CS (t:List UInt8):List (Int×Int):=match SQ t with | .error _=>[] | .ok r=>r.2.2.2
theorem CS_in (t:List UInt8):(CS t).length<100000∧InT t.length (CS t):=by
 unfold CS
 cases h:SQ t with
 | error e=>exact⟨by simp,fun x hx=>by cases hx⟩
 | ok r=>exact⟨by have:=oY h; simp only; omega,tq h⟩
theorem CS_f (t:List UInt8): ∃y,g_2s.f t=some y∧y.1=CS t:=by
 rw[k9]
 unfold CS
 cases SQ t<;>exact⟨_,rfl,rfl⟩
theorem CS_ref {t:List UInt8} (ht:t.length<10000): ∃y,g_2e.f t=some y∧y.2.2.2.1=CS t:=by
 obtain⟨p,hp⟩:=lb (t:=t) ht
 rw[hp]
 unfold CS
 cases SQ t<;>exact⟨_,rfl,rfl⟩
def MK (t:List UInt8):List Bool:=mks (CS t) (List.replicate t.length false)
theorem gr (t:List UInt8):(MK t).length=t.length:=by unfold MK; rw[qr,List.length_replicate]
theorem lK {body:List Bool×Int→Option ((List Bool×Int)⊕(List Bool×Int))} {j len:Nat} (hj:j≤len) (hn: ∀(l:List Bool) (k:Nat),k<j→l.length=len→body (l,(k:Int))=some (.inl (l.set k true,((k+1:Nat):Int)))) (hs: ∀l,body (l,(j:Int))=some (.inr (l,(j:Int)))) :
  ∀(n i:Nat) (l:List Bool),i+n=j→l.length=len→iter body (l,(i:Int))=some (dy l i n,(j:Int))
 | 0,i,l,h,hl=>by
  rw[show i=j by omega]
  exact ah (hs l)
 | n+1,i,l,h,hl=>by
  rw[ak (hn l i (by omega) hl)]
  exact lK hj hn hs n (i+1) _ (by omega) (by rw[List.length_set]; exact hl)
theorem kH {body:List Bool×Int→Option ((List Bool×Int)⊕(List Bool×Int))} {cs:List (Int×Int)} {len:Nat}
  (hn: ∀(l:List Bool) (k i n:Nat),k<cs.length→gt cs (k:Int)=((i:Int),((i+n:Nat):Int))→i+n≤len→l.length=len→body (l,(k:Int))=some (.inl (dy l i n,((k+1:Nat):Int))))
  (hs: ∀l,body (l,(cs.length:Int))=some (.inr (l,(cs.length:Int)))) (hi:InT len cs) :
  ∀(d k:Nat) (l:List Bool),k+d=cs.length→l.length=len→iter body (l,(k:Int))=some (mks (cs.drop k) l,(cs.length:Int))
 | 0,k,l,h,hl=>by
  rw[show k=cs.length by omega,List.drop_length]
  exact ah (hs l)
 | d+1,k,l,h,hl=>by
  have hk:k<cs.length:=by omega
  obtain⟨i,n,e1,e2⟩:=hi cs[k] (List.getElem_mem hk)
  have hg:gt cs (k:Int)=((i:Int),((i+n:Nat):Int)):=by
   rw[aB,List.getD_eq_getElem?_getD,List.getElem?_eq_getElem hk]; exact e1
  rw[ak (hn l k i n hk hg e2 hl),kH hn hs hi d (k+1) _ (by omega) (by rw[fI]; exact hl),List.drop_eq_getElem_cons hk]
  show _=some (mks (cs.drop (k+1)) (dy l cs[k].1.toNat (cs[k].2-cs[k].1).toNat),_)
  rw[e1]
  simp only
  rw[Int.toNat_natCast,show(((i+n:Nat):Int)-(i:Int)).toNat=n by omega]
theorem jd {t:List UInt8} (ht:t.length<10000):g_i.f t=some (MK t):=by
 unfold g_i.f MK
 obtain⟨y,hf,hy⟩:=CS_f t
 obtain⟨hc,hi⟩:=CS_in t
 rw[if_pos ⟨by omega,by omega⟩,hf,Option.bind_some]
 generalize CS t=cs at *
 have:=kH (body:=g_i.b0 y) (cs:=cs) (len:=t.length) (fun l k i n hk hg hb hl=>by
  unfold g_i.b0
  rw[hy]
  simp only[hg]
  rw[if_pos (decide_eq_true (by omega)),if_pos ⟨by omega,by omega⟩,lK (j:=i+n) hb (fun l k' hk' hl'=>by
   unfold g_i.b1
   rw[hy]
   simp only[hg]
   rw[if_pos (decide_eq_true (by omega)),if_pos ⟨by omega,by omega⟩,aq (by omega) (by omega)]
   rfl) (fun l=>by
   unfold g_i.b1
   rw[hy]
   simp only[hg]
   rw[if_neg (by simp)]) n i l rfl hl,Option.bind_some,aq (by omega) (by omega)]
  rfl) (fun l=>by
  unfold g_i.b0
  rw[hy,if_neg (by simp)]) hi cs.length 0 (List.replicate t.length false) (by omega) (by simp)
 rw[Int.toNat_natCast]
 show Option.bind (iter (g_i.b0 y) (_,((0:Nat):Int))) _=_
 rw[this]; rfl
end Go.Proofs.YtcafgoomipkljaaGreatDoorAi
namespace Go.Proofs.YtcafgoomipkljaaGreatDoorAi
open Go Go.RowKit
set_option linter.unusedVariables false
set_option linter.unusedSimpArgs false
def lvl:List (Bool×UInt8)→Int→List Int
 | [],_=>[]
 | (m,c)::r,n=>if m=true then -1::lvl r n else(if c=41 then n-1 else n)::lvl r (if c=40 then(if c=41 then n-1 else n)+1 else(if c=41 then n-1 else n))
theorem jy: ∀(z:List (Bool×UInt8)) (n:Int),(lvl z n).length=z.length
 | [],_=>rfl
 | (m,c)::r,n=>by
  unfold lvl
  split<;>rw[List.length_cons,List.length_cons,jy r]
def ZZ (t:List UInt8):List (Bool×UInt8):=(MK t).zip t
theorem dU (t:List UInt8):(ZZ t).length=t.length:=by unfold ZZ; rw[List.length_zip,gr]; omega
theorem jz {t:List UInt8} {k:Nat} (hk:k<t.length):(ZZ t).drop k=((MK t).getD k default,t.getD k default)::(ZZ t).drop (k+1):=by
 have h1:k<(ZZ t).length:=by rw[dU]; exact hk
 have h2:k<(MK t).length:=by rw[gr]; exact hk
 rw[List.drop_eq_getElem_cons h1]
 congr 1
 have:(ZZ t)[k]=((MK t)[k],t[k]):=by simp[ZZ]
 rw[this,List.getD_eq_getElem?_getD,List.getD_eq_getElem?_getD,List.getElem?_eq_getElem h2,List.getElem?_eq_getElem hk]
 rfl
theorem app1 {α:Type} (l:List α) (x:α) (r:List α):(l++ [x])++r=l++x::r:=by simp
theorem je {t:List UInt8} (ht:t.length<10000): ∀(d k:Nat) (acc:List Int) (n:Int),k+d=t.length→acc.length=k→ -(k:Int)≤n→n≤k →
  ∃n',iter (g_m.b0 t (MK t)) (acc,n,(k:Int))=some (acc++lvl ((ZZ t).drop k) n,n',(t.length:Int))
 | 0,k,acc,n,h,ha,h1,h2=>by
  have e:(ZZ t).drop k= []:=by rw[List.drop_eq_nil_iff,dU]; omega
  rw[e,show k=t.length by omega]
  exact⟨n,ah (by unfold g_m.b0; rw[gr,if_neg (by simp)]; simp[lvl])⟩
 | d+1,k,acc,n,h,ha,h1,h2=>by
  rw[jz (by omega)]
  have hk:0≤(k:Int)∧(k:Int)<(t.length:Int):=⟨by omega,by omega⟩
  have ih:=je ht d (k+1)
  unfold lvl
  cases hm:(MK t).getD k default
  ·have e41:((41:UInt8).toNat:Int)=(41:UInt8).toNat:=rfl
   have key:g_m.b0 t (MK t) (acc,n,(k:Int))=some (.inl (acc++ [if t.getD k default=41 then n-1 else n],(if t.getD k default=40 then(if t.getD k default=41 then n-1 else n)+1 else(if t.getD k default=41 then n-1 else n)),((k+1:Nat):Int))):=by
    unfold g_m.b0
    simp only[gr,aB,fN]
    rw[if_pos (decide_eq_true hk.2),if_pos hk,hm,if_neg (by decide),if_pos hk]
    by_cases c41:t.getD k default=41
    ·rw[if_pos (decide_eq_true c41),Option.bind_some,if_pos (by simp only[List.length_cons,List.length_nil]; omega),if_pos hk,if_pos c41,c41,if_neg (by decide),if_neg (by decide),aq (by omega) (by omega),aq (by omega) (by omega)]
     rfl
    ·rw[if_neg (by simpa using c41),Option.bind_some,if_pos (by simp only[List.length_cons,List.length_nil]; omega),if_pos hk,if_neg c41]
     by_cases c40:t.getD k default=40
     ·rw[if_pos (decide_eq_true c40),if_pos c40,aq (by omega) (by omega),aq (by omega) (by omega)]
      rfl
     ·rw[if_neg (by simpa using c40),if_neg c40,aq (by omega) (by omega)]
      rfl
   rw[if_neg (by decide)]
   obtain⟨n',h'⟩:=ih (acc++ [if t.getD k default=41 then n-1 else n]) (if t.getD k default=40 then(if t.getD k default=41 then n-1 else n)+1 else(if t.getD k default=41 then n-1 else n)) (by omega) (by simp; omega) (by split<;>split<;>omega) (by split<;>split<;>omega)
   exact⟨n',by rw[ak key,h',app1]⟩
  ·have key:g_m.b0 t (MK t) (acc,n,(k:Int))=some (.inl (acc++ [-1],n,((k+1:Nat):Int))):=by
    unfold g_m.b0
    simp only[gr,aB,fN]
    rw[if_pos (decide_eq_true hk.2),if_pos hk,hm,if_pos rfl,if_pos (by simp only[List.length_cons,List.length_nil]; omega),aq (by omega) (by omega)]
    rfl
   rw[if_pos rfl]
   obtain⟨n',h'⟩:=ih (acc++ [-1]) n (by omega) (by simp; omega) (by omega) (by omega)
   exact⟨n',by rw[ak key,h',app1]⟩
def LV (t:List UInt8):List Int:=lvl (ZZ t) 0
theorem mG (t:List UInt8):(LV t).length=t.length:=by unfold LV; rw[jy,dU]
theorem kI {t:List UInt8} (ht:t.length<10000):g_m.f t=some (LV t):=by
 unfold g_m.f
 rw[jd ht,Option.bind_some]
 obtain⟨n',h⟩:=je ht t.length 0 [] 0 (by omega) rfl (by omega) (by omega)
 show Option.bind (iter (g_m.b0 t (MK t)) (([]:List Int),(0:Int),((0:Nat):Int))) _=_
 rw[h]; rfl
def chk:List (Bool×UInt8)→Nat→List Int→Int⊕List Int
 | [],_,o=> .inr o
 | (m,c)::r,k,o=>if m=true then chk r (k+1) o else if c=40 then chk r (k+1) (o++ [(k:Int)]) else if c=41 then(if o= [] then .inl (k:Int) else chk r (k+1) o.dropLast) else chk r (k+1) o
theorem tt (l:List Int) (h:l≠ []) (hl:l.length<1000000):(0≤(0:Int)∧(0:Int)≤(w64 ((l.length:Int)-1))∧(w64 ((l.length:Int)-1))≤(l.length:Int))∧mid l (0:Int) (w64 ((l.length:Int)-1))=l.dropLast:=by
 have h0:0<l.length:=List.length_pos_iff.2 h
 have hw:w64 ((l.length:Int)-1)=((l.length-1:Nat):Int):=by rw[aq]<;>omega
 rw[hw]
 refine⟨⟨by omega,by omega,by omega⟩,?_⟩
 unfold mid
 rw[Int.toNat_natCast,List.dropLast_eq_take]
 rfl
theorem nR {t:List UInt8} (ht:t.length<10000): ∀(d k:Nat) (o:List Int),k+d=t.length→o.length≤k →
  iter (g_a.b1 t (MK t)) (o,(k:Int))=some (match chk ((ZZ t).drop k) k o with | .inl i=> .inr (i,10) | .inr o'=> .inl (o',(t.length:Int)))
 | 0,k,o,h,ho=>by
  have e:(ZZ t).drop k= []:=by rw[List.drop_eq_nil_iff,dU]; omega
  rw[e,show k=t.length by omega]
  exact ah (by unfold g_a.b1; rw[gr,if_neg (by simp)]; rfl)
 | d+1,k,o,h,ho=>by
  rw[jz (by omega)]
  have hk:0≤(k:Int)∧(k:Int)<(t.length:Int):=⟨by omega,by omega⟩
  have ih:=nR ht d (k+1)
  have hw:w64 ((k:Int)+1)=((k+1:Nat):Int):=by rw[aq]<;>omega
  unfold chk
  have key:g_a.b1 t (MK t) (o,(k:Int))=if(MK t).getD k default=true then some (.inl (o,((k+1:Nat):Int))) else if t.getD k default=40 then some (.inl (o++ [(k:Int)],((k+1:Nat):Int))) else if t.getD k default=41 then(if o= [] then some (.inr (.inr ((k:Int),10))) else some (.inl (o.dropLast,((k+1:Nat):Int)))) else some (.inl (o,((k+1:Nat):Int))):=by
   unfold g_a.b1
   simp only[gr,aB,fN,hw]
   rw[if_pos (decide_eq_true hk.2),if_pos hk]
   cases(MK t).getD k default
   ·rw[if_neg (show ¬ (false=true) by decide),if_neg (show ¬ (false=true) by decide),if_pos hk]
    by_cases c40:t.getD k default=40
    ·rw[if_pos (decide_eq_true c40),if_pos c40,if_pos (by simp only[List.length_cons,List.length_nil]; omega)]
    ·rw[if_neg (by simpa using c40),if_neg c40,if_pos hk]
     by_cases c41:t.getD k default=41
     ·rw[if_pos (decide_eq_true c41),if_pos c41]
      by_cases h0:o= []
      ·rw[if_pos h0,if_pos (by simp[h0])]
      ·obtain⟨g1,g2⟩:=tt o h0 (by omega)
       have:=List.length_pos_iff.2 h0
       rw[if_neg h0,if_neg (by simp; omega),if_pos g1,g2]
     ·rw[if_neg (by simpa using c41),if_neg c41]
   ·rw[if_pos rfl,if_pos rfl]
  cases hm:(MK t).getD k default
  ·rw[hm,if_neg (by decide)] at key
   rw[if_neg (by decide)]
   by_cases c40:t.getD k default=40
   ·rw[if_pos c40] at key ⊢
    rw[ak key,ih _ (by omega) (by simp; omega)]
   ·rw[if_neg c40] at key ⊢
    by_cases c41:t.getD k default=41
    ·rw[if_pos c41] at key ⊢
     by_cases h0:o= []
     ·rw[if_pos h0] at key ⊢
      rw[ah key]
     ·rw[if_neg h0] at key ⊢
      rw[ak key,ih _ (by omega) (by rw[List.length_dropLast]; omega)]
    ·rw[if_neg c41] at key ⊢
     rw[ak key,ih _ (by omega) (by omega)]
  ·rw[hm,if_pos rfl] at key
   rw[if_pos rfl,ak key,ih _ (by omega) (by omega)]
def agr:List UInt8→List UInt8→Nat
 | a::l,b::m=>if a=b then agr l m+1 else 0
 | _,_=>0
theorem eB: ∀(z:List (Bool×UInt8)) (k:Nat) (o o':List Int),chk z k o= .inr o'→o'.length≤o.length+z.length
 | [],_,o,o',h=>by simp only[chk,Sum.inr.injEq] at h; subst h; simp
 | (m,c)::r,k,o,o',h=>by
  unfold chk at h
  split at h
  ·have:=eB r _ _ _ h; simp; omega
  ·split at h
   ·have:=eB r _ _ _ h; simp at this ⊢; omega
   ·split at h
    ·split at h
     ·cases h
     ·have:=eB r _ _ _ h; simp at this ⊢; omega
    ·have:=eB r _ _ _ h; simp; omega
theorem nS {t:List UInt8} (ht:t.length<10000) (y:List UInt8×List Int×Int) (hy:y.1.length≤t.length): ∀(d k:Nat),k+d=y.1.length →
  iter (g_a.b0 t y) (k:Int)=some ((k+agr (y.1.drop k) (t.drop k):Nat):Int)
 | 0,k,h=>by
  rw[show k=y.1.length by omega,List.drop_length]
  have hm:(if(t.length:Int)<(y.1.length:Int) then(t.length:Int) else(y.1.length:Int))=(y.1.length:Int):=if_neg (by omega)
  exact ah (by unfold g_a.b0; rw[hm,if_neg (by simp)]; simp[agr])
 | d+1,k,h=>by
  have ih:=nS ht y hy d (k+1) (by omega)
  have hm:(if(t.length:Int)<(y.1.length:Int) then(t.length:Int) else(y.1.length:Int))=(y.1.length:Int):=if_neg (by omega)
  have key:g_a.b0 t y (k:Int)=if y.1.getD k default=t.getD k default then some (.inl ((k+1:Nat):Int)) else some (.inr (k:Int)):=by
   unfold g_a.b0
   rw[hm,if_pos (decide_eq_true (by omega)),if_pos ⟨by omega,by omega⟩,if_pos ⟨by omega,by omega⟩,fN,aB,aB,aq (by omega) (by omega)]
   by_cases e:y.1.getD k default=t.getD k default
   ·rw[if_pos e,if_pos (decide_eq_true e)]; rfl
   ·rw[if_neg e,if_neg (by simpa using e)]
  rw[cI (t:=y.1) (a:=k) (by omega),cI (t:=t) (a:=k) (by omega)]
  unfold agr
  by_cases e:y.1.getD k default=t.getD k default
  ·rw[if_pos e] at key ⊢
   rw[ak key,ih,show k+1+agr (y.1.drop (k+1)) (t.drop (k+1))=k+(agr (y.1.drop (k+1)) (t.drop (k+1))+1) by omega]
  ·rw[if_neg e] at key ⊢
   rw[ah key]; rfl
def CT (t:List UInt8):Int×Int:=match SQ t with
 | .error e=>(0,e)
 | .ok r=>if t= [] then(0,17) else if r.1≠t then((agr r.1 t:Nat),3) else match chk (ZZ t) 0 [] with
  | .inl i=>(i,10)
  | .inr o=>if o= [] then(0,0) else(o.getD (o.length-1) default,10)
theorem tail_eq {t:List UInt8} (ht:t.length<10000): ∀z:Int⊕List Int,z=chk (ZZ t) 0 [] →
  (cu (match z with | .inl i=>(.inr (i,10):(List Int×Int)⊕(Int×Int)) | .inr o'=> .inl (o',(t.length:Int))) fun y66=>(if(decide ((y66.1.length:Int)>0))=true then(if 0≤(w64 ((y66.1.length:Int)-1))∧(w64 ((y66.1.length:Int)-1))<(y66.1.length:Int) then some ((gt y66.1 (w64 ((y66.1.length:Int)-1))),(10:Int)) else none) else some (0,0))) =
   some (match z with | .inl i=>(i,10) | .inr o=>if o= [] then(0,0) else(o.getD (o.length-1) default,10)):=by
 intro z hz
 cases z with
 | inl i=>rfl
 | inr o =>
  have hb:=eB _ _ _ _ hz.symm
  rw[dU] at hb
  simp only[List.length_nil,Nat.zero_add] at hb
  unfold cu
  simp only
  by_cases h0:o= []
  ·rw[if_pos h0,if_neg (by simp[h0])]
  ·have:=List.length_pos_iff.2 h0
   have hw:w64 ((o.length:Int)-1)=((o.length-1:Nat):Int):=by rw[aq]<;>omega
   rw[if_neg h0,if_pos (by simp; omega),hw,if_pos ⟨by omega,by omega⟩,aB]
theorem nT {t:List UInt8} (ht:t.length<10000):g_a.f t=some (CT t):=by
 unfold g_a.f CT
 rw[oW,Option.bind_some]
 cases hs:SQ t with
 | error e =>
  have he:=mC hs
  simp only
  rw[if_pos (by simpa using he)]
 | ok r =>
  obtain⟨l1,l2,_⟩:=oY hs
  simp only
  rw[if_neg (by decide)]
  by_cases h0:t= []
  ·rw[if_pos (decide_eq_true h0),if_pos h0]
  ·rw[if_neg (by simpa using h0),if_neg h0]
   by_cases h1:r.1=t
   ·rw[if_neg (by simpa using h1),if_neg (by simpa using h1),jd ht,Option.bind_some]
    have:=nR ht t.length 0 [] (by omega) (by simp)
    show Option.bind (iter (g_a.b1 t (MK t)) (([]:List Int),((0:Nat):Int))) _=_
    rw[this,List.drop_zero,Option.bind_some]
    exact tail_eq ht _ rfl
   ·rw[if_pos (by simpa using h1),if_pos (by simpa using h1)]
    have:=nS ht (r.1,r.2.1,0) l2 r.1.length 0 (by simp)
    show Option.bind (iter (g_a.b0 t (r.1,r.2.1,0)) ((0:Nat):Int)) _=_
    rw[this]; simp
theorem mH {t:List UInt8} (ht:t.length<10000):g_26.f t=some (CT t).2:=by
 unfold g_26.f
 rw[nT ht]; rfl
theorem o7 {t:List UInt8} (ht:t.length<10000):g_c.f t=some (if(CT t).2=0 then(LV t,0) else([],(CT t).2)):=by
 unfold g_c.f
 rw[mH ht,Option.bind_some,kI ht]
 by_cases h:(CT t).2=0
 ·rw[if_neg (by simpa using h),if_pos h]; rfl
 ·rw[if_pos (by simpa using h),if_neg h]
end Go.Proofs.YtcafgoomipkljaaGreatDoorAi
namespace Go.Proofs.YtcafgoomipkljaaGreatDoorAi
open Go Go.RowKit
set_option linter.unusedVariables false
set_option linter.unusedSimpArgs false
def opK (L:List Int) (t sg:List UInt8):Nat→Nat→List Int
 | 0,_=>[]
 | d+1,k=>(if L.getD k default=0∧sg.contains (t.getD k default)=true then [(k:Int)] else [])++opK L t sg d (k+1)
theorem qt (L:List Int) (t sg:List UInt8): ∀d k,(opK L t sg d k).length≤d
 | 0,_=>by simp[opK]
 | d+1,k=>by
  have:=qt L t sg d (k+1)
  unfold opK
  rw[List.length_append]
  split<;>simp<;>omega
theorem lL {t sg:List UInt8} (ht:t.length<10000) {L:List Int} (hL:L.length=t.length): ∀(d k:Nat) (acc:List Int),k+d=t.length→acc.length≤k →
  iter (g_d.b0 t sg L) (acc,(k:Int))=some (acc++opK L t sg d k,(t.length:Int))
 | 0,k,acc,h,ha=>by
  rw[show k=t.length by omega]
  exact ah (by unfold g_d.b0; rw[hL,if_neg (by simp)]; simp[opK])
 | d+1,k,acc,h,ha=>by
  have hk:0≤(k:Int)∧(k:Int)<(t.length:Int):=⟨by omega,by omega⟩
  have key:g_d.b0 t sg L (acc,(k:Int))=some (.inl (acc++(if L.getD k default=0∧sg.contains (t.getD k default)=true then [(k:Int)] else []),((k+1:Nat):Int))):=by
   have hl:acc.length+([(k:Int)]:List Int).length<1000000000:=by simp only[List.length_cons,List.length_nil]; omega
   unfold g_d.b0
   simp only[hL,aB]
   rw[if_pos (decide_eq_true hk.2),if_pos hk,if_pos hk,cp,aq (by omega) (by omega),Option.bind_some,g7]
   by_cases h0:L.getD k default=0
   ·have e:(L.getD k default==0)=true:=by rw[h0]; rfl
    simp only[e,if_true,Option.bind_some,h0,true_and]
    cases hc:sg.contains (t.getD k default)
    ·simp
    ·simp only[if_true,if_pos hl]; rfl
   ·have e:(L.getD k default==0)=false:=by simpa using h0
    simp only[e,Bool.false_eq_true,if_false,Option.bind_some,h0,false_and,List.append_nil]; rfl
  rw[ak key,lL ht hL d (k+1) _ (by omega) (by rw[List.length_append]; split<;>simp<;>omega)]
  conv=>rhs; unfold opK
  rw[List.append_assoc]
theorem tu {t sg:List UInt8} (ht:t.length<10000):g_d.f t sg=some (if(CT t).2=0 then(opK (LV t) t sg t.length 0,0) else([],(CT t).2)):=by
 unfold g_d.f
 rw[mH ht,Option.bind_some,kI ht]
 by_cases h:(CT t).2=0
 ·rw[if_neg (by simpa using h),if_pos h,Option.bind_some]
  have:=lL (sg:=sg) ht (mG t) t.length 0 [] (by omega) (by simp)
  show Option.bind (iter (g_d.b0 t sg (LV t)) (([]:List Int),((0:Nat):Int))) _=_
  rw[this]; rfl
 ·rw[if_pos (by simpa using h),if_neg h]
end Go.Proofs.YtcafgoomipkljaaGreatDoorAi
namespace Go.Proofs.YtcafgoomipkljaaGreatDoorAi
open Go Go.RowKit
set_option linter.unusedVariables false
set_option linter.unusedSimpArgs false
structure G0 (t:List UInt8) (L:List Int):Prop where
 hl:t.length<10000
 hL:L.length=t.length
structure GG (t:List UInt8) (L:List Int):Prop extends G0 t L where
 par: ∀i,i<t.length→L.getD i default=0→t.getD i default=40→ ∃j,i<j∧j<t.length∧L.getD j default=0∧t.getD j default=41∧ ∀k,i<k→k<j→L.getD k default≠0
def nx (t:List UInt8) (L:List Int) (a:Nat) (p:UInt8→Bool):Bool:=decide (a<t.length)&&(L.getD a default==0&&p (t.getD a default))
theorem cw {t:List UInt8} {L:List Int} {a:Nat} {p:UInt8→Bool}:nx t L a p=true↔a<t.length∧L.getD a default=0∧p (t.getD a default)=true:=by
 simp[nx]
def NS (t:List UInt8) (L:List Int) (c:UInt8) (a b:Nat):Prop:= ∀i,a≤i→i<b→ ¬ (L.getD i default=0∧t.getD i default=c)
theorem NS.self {t:List UInt8} {L:List Int} {c:UInt8} {a:Nat}:NS t L c a a:=fun i h1 h2=>absurd h1 (by omega)
theorem NS.trans {t:List UInt8} {L:List Int} {c:UInt8} {a b d:Nat} (h:NS t L c a b) (k:NS t L c b d):NS t L c a d:=fun i h1 h2=>by
 by_cases hb:i<b
 ·exact h i h1 hb
 ·exact k i (by omega) h2
theorem NS.one {t:List UInt8} {L:List Int} {c:UInt8} {a:Nat} (h:t.getD a default≠c):NS t L c a (a+1):=fun i h1 h2=>by
 rw[show i=a by omega]; exact fun k=>h k.2
structure Mo (t:List UInt8) (L:List Int) (a:Nat) (ok:Bool) (b:Nat) (ok':Bool):Prop where
 le:a≤b
 len:b≤t.length
 good:ok'=true→ok=true
 ne:NS t L 61 a b
theorem Mo.self {t:List UInt8} {L:List Int} {a:Nat} (h:a≤t.length) {ok ok':Bool} (g:ok'=true→ok=true):Mo t L a ok a ok':=⟨Nat.le_refl _,h,g,NS.self⟩
theorem Mo.trans {t:List UInt8} {L:List Int} {a b d:Nat} {o o' o'':Bool} (h:Mo t L a o b o') (k:Mo t L b o' d o''):Mo t L a o d o'' :=
 ⟨Nat.le_trans h.le k.le,k.len,fun g=>h.good (k.good g),h.ne.trans k.ne⟩
theorem kJ {t:List UInt8} {L:List Int} (g:G0 t L) (a:Nat) (ok:Bool) (p:UInt8→Bool) :
  (if ok=true then(if(decide ((a:Int)<(t.length:Int)))=true then(if 0≤(a:Int)∧(a:Int)<(L.length:Int) then(if((L.getD a default)==0)=true then(if 0≤(a:Int)∧(a:Int)<(t.length:Int) then some (p (t.getD a default)) else none) else some false) else none) else some false) else some false)=some (ok&&nx t L a p):=by
 have hL:=g.hL
 unfold nx
 cases ok
 ·rfl
 ·rw[if_pos rfl,Bool.true_and]
  by_cases h:a<t.length
  ·rw[if_pos (decide_eq_true (by omega)),if_pos ⟨by omega,by omega⟩,decide_eq_true h,Bool.true_and]
   cases hl:(L.getD a default==0)
   ·rw[if_neg (by decide)]; rfl
   ·rw[if_pos rfl,if_pos ⟨by omega,by omega⟩]; rfl
  ·rw[if_neg (by simpa using h),decide_eq_false h]; rfl
def cy (c:UInt8):Bool:=decide (65≤c.toNat)&&decide (c.toNat≤90)
theorem tv {c:UInt8}:cy c=true↔65≤c.toNat∧c.toNat≤90:=by simp[cy]
theorem dz (c:UInt8):g_l.f c=some (cy c):=by
 unfold g_l.f cy
 congr 1
 congr 1
 ·exact decide_eq_decide.2 (by show((65:Nat):Int)≤_↔_; omega)
 ·exact decide_eq_decide.2 (by show _≤((90:Nat):Int)↔_; omega)
theorem d6 (c:UInt8):g_k.f c=some (bz c):=by
 unfold g_k.f bz
 congr 1
 congr 1
 ·exact decide_eq_decide.2 (by show((48:Nat):Int)≤_↔_; omega)
 ·exact decide_eq_decide.2 (by show _≤((57:Nat):Int)↔_; omega)
def cJ (c:UInt8):Bool:=(cy c||bz c)||decide (c=95)
theorem tw (c:UInt8):g_1q.f c=some (cJ c):=by
 unfold g_1q.f
 rw[dz,Option.bind_some,d6,fN]
 unfold cJ
 cases cy c<;>rfl
theorem is1_f {t:List UInt8} {L:List Int} (g:G0 t L) (a:Nat) (ok:Bool) (u:UInt8):g_15.f t L (a:Int) ok u=some (ok&&nx t L a (fun c=>decide (c=u))):=by
 unfold g_15.f g_14.f
 simp only[Option.bind_some,aB,fN]
 exact kJ g a ok (fun c=>decide (c=u))
theorem is2_f {t:List UInt8} {L:List Int} (g:G0 t L) (a:Nat) (ok:Bool):g_16.f t L (a:Int) ok=some (ok&&nx t L a cy):=by
 unfold g_16.f
 simp only[dz,Option.bind_some,aB]
 exact kJ g a ok _
theorem tz {t:List UInt8} {L:List Int} (g:G0 t L) (a:Nat) (ok:Bool):g_17.f t L (a:Int) ok=some (ok&&nx t L a cJ):=by
 unfold g_17.f
 simp only[tw,Option.bind_some,aB]
 exact kJ g a ok _
theorem tA {t:List UInt8} {L:List Int} (g:G0 t L) (a:Nat) (ok:Bool):g_18.f t L (a:Int) ok=some (ok&&nx t L a bz):=by
 unfold g_18.f
 simp only[d6,Option.bind_some,aB]
 exact kJ g a ok _
theorem o9 (c:UInt8) (sg:List UInt8):g_q.f c sg=some (cy c||sg.contains c):=by
 unfold g_q.f
 rw[dz,Option.bind_some,cp,Option.bind_some,g7]
 cases cy c<;>rfl
theorem nU {t:List UInt8} {L:List Int} (g:G0 t L) (a:Nat) (ok:Bool) (sg:List UInt8):g_p.f t L (a:Int) ok sg=some (ok&&nx t L a (fun c=>cy c||sg.contains c)):=by
 unfold g_p.f g_19.f
 simp only[o9,Option.bind_some,aB]
 have h:=kJ g a ok (fun c=>cy c||sg.contains c)
 exact(congrArg (fun o=>Option.bind o fun y=>some y) h).trans rfl
theorem kK {t:List UInt8} {L:List Int} (g:G0 t L) (a:Nat) (ok:Bool) (u:UInt8):g_13.f t L (a:Int) ok u=some (ok&&nx t L a (fun c=>decide (c=u))):=by
 unfold g_13.f
 rw[is1_f g,Option.bind_some]
theorem dV {t:List UInt8} {L:List Int} (g:G0 t L) (a:Nat) (ok:Bool):g_12.f t L (a:Int) ok=some (ok&&nx t L a (fun c=>decide (c=40))):=by
 unfold g_12.f
 rw[kK g,Option.bind_some]
theorem up1 {t:List UInt8} {L:List Int} (g:G0 t L) {a:Nat} (ha:a≤t.length):w64 ((a:Int)+1)=((a+1:Nat):Int):=by
 have:=g.hl
 rw[aq (by omega) (by omega)]; rfl
theorem ia {t:List UInt8} {L:List Int} (g:G0 t L) (a:Nat) (ha:a≤t.length) (ok:Bool) (u:UInt8) :
  g_1y.f t L (a:Int) ok u=some (if(ok&&nx t L a (fun c=>decide (c=u)))=true then(true,((a+1:Nat):Int)) else(false,(a:Int))):=by
 unfold g_1y.f
 rw[kK g,Option.bind_some,up1 g ha]
 cases(ok&&nx t L a (fun c=>decide (c=u)))<;>rfl
theorem kL {t:List UInt8} {L:List Int} (g:G0 t L) (a:Nat) (ha:a≤t.length) (ok:Bool) (u:UInt8) :
  g_1v.f t L (a:Int) ok u=some (if(ok&&nx t L a (fun c=>decide (c=u)))=true then(((a+1:Nat):Int),true) else((a:Int),false)):=by
 unfold g_1v.f g_1o.f
 rw[ia g a ha,Option.bind_some,Option.bind_some]
 cases ok
 ·rfl
 ·cases(true&&nx t L a (fun c=>decide (c=u)))<;>rfl
theorem cz {t:List UInt8} {L:List Int} (g:G0 t L) (a:Nat) (ha:a≤t.length) (ok:Bool) {u:UInt8} (hu:u≠61) :
  ∃is b,g_1y.f t L (a:Int) ok u=some (is,((b:Nat):Int))∧Mo t L a ok b ok∧(is=true→ok=true∧b=a+1∧a<t.length∧L.getD a default=0∧t.getD a default=u)∧(is=false→b=a):=by
 rw[ia g a ha]
 cases h:(ok&&nx t L a (fun c=>decide (c=u)))
 ·exact⟨false,a,rfl,Mo.self ha id,(fun h=>by cases h),fun _=>rfl⟩
 ·rw[Bool.and_eq_true,cw,decide_eq_true_eq] at h
  exact⟨true,a+1,rfl,⟨by omega,by omega,id,NS.one (by rw[h.2.2.2]; exact hu)⟩,fun _=>⟨h.1,rfl,h.2.1,h.2.2.1,h.2.2.2⟩,fun h=>by cases h⟩
theorem mI {t:List UInt8} {L:List Int} (g:G0 t L) (a:Nat) (ha:a≤t.length) (ok:Bool) {u:UInt8} (hu:u≠61) :
  ∃b ok',g_1v.f t L (a:Int) ok u=some (((b:Nat):Int),ok')∧Mo t L a ok b ok'∧(ok'=true→b=a+1∧a<t.length∧L.getD a default=0∧t.getD a default=u)∧(ok'=false→b=a):=by
 rw[kL g a ha]
 cases h:(ok&&nx t L a (fun c=>decide (c=u)))
 ·exact⟨a,false,rfl,Mo.self ha (fun h=>by cases h),(fun h=>by cases h),fun _=>rfl⟩
 ·rw[Bool.and_eq_true,cw,decide_eq_true_eq] at h
  exact⟨a+1,true,rfl,⟨by omega,by omega,fun _=>h.1,NS.one (by rw[h.2.2.2]; exact hu)⟩,fun _=>⟨rfl,h.2.1,h.2.2.1,h.2.2.2⟩,fun h=>by cases h⟩
theorem dD {c:UInt8} (h:cJ c=true):c≠61∧c≠44∧c≠40∧c≠41∧c≠39∧c≠34:=by
 refine⟨?_,?_,?_,?_,?_,?_⟩<;>(rintro rfl; revert h; decide)
theorem lM {t:List UInt8} {L:List Int} (g:G0 t L) (ok:Bool): ∀(d n a:Nat),n+d=31→a≤t.length →
  ∃(n' b:Nat),iter (g_1p.b0 t L ok) ((n:Int),(a:Int))=some ((n':Int),(b:Int))∧a≤b∧b≤t.length∧(∀i,a≤i→i<b→L.getD i default=0∧cJ (t.getD i default)=true)∧((0<d∧ok=true∧nx t L a cJ=true)→a<b)
 | 0,n,a,h,ha=>⟨n,a,ah (by
   unfold g_1p.b0
   simp only
   rw[if_neg (by simp; omega),Option.bind_some]
   rfl),Nat.le_refl _,ha,fun i h1 h2=>absurd h1 (by omega),fun h=>absurd h.1 (by omega)⟩
 | d+1,n,a,h,ha=>by
  have hl:=g.hl
  have key:g_1p.b0 t L ok ((n:Int),(a:Int))=some (if(ok&&nx t L a cJ)=true then .inl (((n+1:Nat):Int),((a+1:Nat):Int)) else .inr ((n:Int),(a:Int))):=by
   unfold g_1p.b0
   simp only
   rw[if_pos (decide_eq_true (by omega)),tz g,Option.bind_some,Option.bind_some,up1 g ha,aq (by omega) (by omega)]
   cases(ok&&nx t L a cJ)<;>rfl
  cases hc:(ok&&nx t L a cJ)
  ·rw[hc] at key
   refine⟨n,a,ah key,Nat.le_refl _,ha,fun i h1 h2=>absurd h1 (by omega),fun h=>?_⟩
   rw[h.2.1,h.2.2] at hc
   cases hc
  ·rw[hc] at key
   rw[Bool.and_eq_true,cw] at hc
   obtain⟨n',b,h1,h2,h3,h4,h5⟩:=lM g ok d (n+1) (a+1) (by omega) (by omega)
   refine⟨n',b,by rw[ak key,h1],by omega,h3,fun i i1 i2=>?_,fun _=>by omega⟩
   by_cases hi:i=a
   ·rw[hi]; exact⟨hc.2.2.1,hc.2.2.2⟩
   ·exact h4 i (by omega) i2
theorem cW {t:List UInt8} {L:List Int} (g:G0 t L) (a:Nat) (ha:a≤t.length) (ok:Bool) :
  ∃b ok',g_1p.f t L (a:Int) ok=some (((b:Nat):Int),ok')∧Mo t L a ok b ok'∧NS t L 44 a b∧(∀i,a≤i→i<b→L.getD i default=0∧cJ (t.getD i default)=true)∧(ok'=true→a<b∧cy (t.getD a default)=true):=by
 unfold g_1p.f g_1o.f
 rw[is2_f g,Option.bind_some,Option.bind_some]
 obtain⟨n',b,h1,h2,h3,h4,h5⟩:=lM g (ok&&(ok&&nx t L a cy)) 31 0 a (by omega) ha
 have e:((0:Int),(a:Int))=(((0:Nat):Int),(a:Int)):=rfl
 rw[e,h1,Option.bind_some]
 refine⟨b,_,rfl,⟨h2,h3,fun h=>by rw[Bool.and_eq_true] at h; exact h.1,fun i i1 i2 k=>(dD (h4 i i1 i2).2).1 k.2⟩,fun i i1 i2 k=>(dD (h4 i i1 i2).2).2.1 k.2,h4,fun h=>?_⟩
 have h':=h
 rw[Bool.and_eq_true,Bool.and_eq_true,cw] at h'
 refine⟨h5 ⟨by omega,h,cw.2 ⟨h'.2.2.1,h'.2.2.2.1,?_⟩⟩,h'.2.2.2.2⟩
 unfold cJ
 rw[h'.2.2.2.2]; rfl
end Go.Proofs.YtcafgoomipkljaaGreatDoorAi
namespace Go.Proofs.YtcafgoomipkljaaGreatDoorAi
open Go Go.RowKit
set_option linter.unusedVariables false
set_option linter.unusedSimpArgs false
theorem fo {t:List UInt8} {L:List Int} (g:G0 t L) {j:Nat} (hj:j<t.length) (hj0:L.getD j default=0) (hj1:t.getD j default=41) (y:Int) :
  ∀(d k:Nat),k+d=j→(∀i,k≤i→i<j→L.getD i default≠0)→iter (g_1t.b0 t L (y,true)) (k:Int)=some (.inr (((j+1:Nat):Int),true))
 | 0,k,h,hn=>by
  have hl:=g.hl
  have hL:=g.hL
  obtain rfl:k=j:=by omega
  refine ah ?_
  unfold g_1t.b0
  simp only
  rw[aq (x:=(k:Int)+1) (by omega) (by omega),aq (by omega) (by omega),show(k:Int)+1-1=(k:Int) by omega,if_pos True.intro,if_pos ⟨by omega,by omega⟩,aB,aB,hj0,hj1,if_pos (by decide),if_pos ⟨by omega,by omega⟩]
  rfl
 | d+1,k,h,hn=>by
  have hl:=g.hl
  have hL:=g.hL
  rw[ak (y:=((k+1:Nat):Int)) ?_]
  ·exact fo g hj hj0 hj1 y d (k+1) (by omega) (fun i h1 h2=>hn i (by omega) h2)
  unfold g_1t.b0
  simp only
  rw[aq (x:=(k:Int)+1) (by omega) (by omega),aq (by omega) (by omega),show(k:Int)+1-1=(k:Int) by omega,if_pos True.intro,if_pos ⟨by omega,by omega⟩,aB,if_neg (by simpa using hn k (by omega) (by omega))]
  rfl
theorem bB {t:List UInt8} {L:List Int} (g:GG t L) (a:Nat) (ha:a≤t.length) (ok:Bool) :
  ∃b ok',g_1t.f t L (a:Int) ok=some (((b:Nat):Int),ok')∧Mo t L a ok b ok'∧NS t L 44 a b∧(ok'=true→a+1<b∧L.getD a default=0∧t.getD a default=40∧L.getD (b-1) default=0∧t.getD (b-1) default=41)∧(ok'=false→b=a):=by
 have hl:=g.hl
 unfold g_1t.f
 rw[kL g.toG0 a ha]
 cases h:(ok&&nx t L a (fun c=>decide (c=40)))
 ·refine⟨a,false,?_,Mo.self ha (fun h=>by cases h),NS.self,(fun h=>by cases h),fun _=>rfl⟩
  simp only[Bool.false_eq_true,if_false,Option.bind_some]
  rw[ah (r:= .inl (a:Int)) (by unfold g_1t.b0; rfl)]
  rfl
 ·rw[Bool.and_eq_true,cw,decide_eq_true_eq] at h
  obtain⟨h0,h1,h2,h3⟩:=h
  obtain⟨j,j1,j2,j3,j4,j5⟩:=g.par a h1 h2 h3
  refine⟨j+1,true,?_,⟨by omega,by omega,fun _=>h0,?_⟩,?_,fun _=>⟨by omega,h2,h3,j3,j4⟩,fun h=>by cases h⟩
  ·simp only[if_true,Option.bind_some]
   rw[fo g.toG0 j2 j3 j4 _ (j-(a+1)) (a+1) (by omega) (fun i i1 i2=>j5 i (by omega) i2)]
   rfl
  all_goals
   intro i i1 i2 k
   by_cases e:i=a
   ·rw[e,h3] at k; exact absurd k.2 (by decide)
   ·by_cases e:i=j
    ·rw[e,j4] at k; exact absurd k.2 (by decide)
    ·exact j5 i (by omega) (by omega) k.1
theorem cX {t:List UInt8} {L:List Int} (g:GG t L) (a:Nat) (ha:a≤t.length) (ok:Bool) :
  ∃b ok',g_1n.f t L (a:Int) ok=some (((b:Nat):Int),ok')∧Mo t L a ok b ok'∧NS t L 44 a b:=by
 unfold g_1n.f
 rw[dV g.toG0,Option.bind_some]
 cases h:(ok&&nx t L a (fun c=>decide (c=40)))
 ·exact⟨a,ok,rfl,Mo.self ha id,NS.self⟩
 ·obtain⟨b,ok',h1,h2,h3,_⟩:=bB g a ha ok
  refine⟨b,ok',?_,h2,h3⟩
  rw[if_pos rfl,h1]; rfl
theorem nV {t:List UInt8} {L:List Int} (g:G0 t L) (ok:Bool): ∀(d a:Nat),a+d=t.length →
  ∃b:Nat,iter (g_v.b0 t L ok) (a:Int)=some (b:Int)∧a≤b∧b≤t.length∧ ∀i,a≤i→i<b→L.getD i default=0∧bz (t.getD i default)=true:=by
 have hl:=g.hl
 intro d
 induction d with
 | zero =>
  intro a h
  refine⟨a,ah ?_,Nat.le_refl _,by omega,fun i h1 h2=>absurd h1 (by omega)⟩
  unfold g_v.b0
  rw[tA g,Option.bind_some]
  have:nx t L a bz=false:=by unfold nx; rw[decide_eq_false (by omega)]; rfl
  rw[this,Bool.and_false,if_neg (by decide)]
 | succ d ih =>
  intro a h
  have key:g_v.b0 t L ok (a:Int)=some (if(ok&&nx t L a bz)=true then .inl ((a+1:Nat):Int) else .inr (a:Int)):=by
   unfold g_v.b0
   rw[tA g,Option.bind_some,up1 g (by omega)]
   cases(ok&&nx t L a bz)<;>rfl
  cases hc:(ok&&nx t L a bz)
  ·rw[hc] at key
   exact⟨a,ah key,Nat.le_refl _,by omega,fun i h1 h2=>absurd h1 (by omega)⟩
  ·rw[hc] at key
   rw[Bool.and_eq_true,cw] at hc
   obtain⟨b,h1,h2,h3,h4⟩:=ih (a+1) (by omega)
   refine⟨b,by rw[ak key,h1],by omega,h3,fun i i1 i2=>?_⟩
   by_cases hi:i=a
   ·rw[hi]; exact⟨hc.2.2.1,hc.2.2.2⟩
   ·exact h4 i (by omega) i2
theorem isDg_ne {c:UInt8} (h:bz c=true):c≠61∧c≠44:=by
 refine⟨?_,?_⟩<;>(rintro rfl; revert h; decide)
theorem iO {t:List UInt8} {L:List Int} (g:G0 t L) (a:Nat) (ha:a≤t.length) (ok:Bool) :
  ∃s b ok',g_v.f t L (a:Int) ok=some (s,((b:Nat):Int),ok')∧Mo t L a ok b ok'∧(ok'=true→a<b∧L.getD a default=0∧bz (t.getD a default)=true∧ ∀i,a≤i→i<b→L.getD i default=0)∧s.length≤t.length:=by
 have hl:=g.hl
 unfold g_v.f g_1o.f
 obtain⟨b,h1,h2,h3,h4⟩:=nV g ok (t.length-a) a (by omega)
 rw[h1,Option.bind_some,Option.bind_some,if_pos ⟨by omega,by omega,by omega⟩]
 refine⟨_,b,_,rfl,⟨h2,h3,(fun h=>by rw[Bool.and_eq_true] at h; exact h.1),fun i i1 i2 k=>(isDg_ne (h4 i i1 i2).2).1 k.2⟩,fun h=>?_,?_⟩
 ·rw[Bool.and_eq_true,decide_eq_true_eq] at h
  have:a<b:=by omega
  exact⟨this,(h4 a (Nat.le_refl _) this).1,(h4 a (Nat.le_refl _) this).2,fun i i1 i2=>(h4 i i1 i2).1⟩
 ·unfold mid; rw[List.length_drop,List.length_take]; omega
theorem dW {t:List UInt8} {L:List Int} (g:G0 t L) (a:Nat) (ha:a≤t.length) (ok:Bool) :
  ∃b ok',g_1d.f t L (a:Int) ok=some (((b:Nat):Int),ok')∧Mo t L a ok b ok'∧(ok'=true→a<b∧L.getD a default=0∧bz (t.getD a default)=true∧ ∀i,a≤i→i<b→L.getD i default=0):=by
 have hl:=g.hl
 unfold g_1d.f g_1o.f
 obtain⟨s,b,o,h1,h2,h3,h4⟩:=iO g a ha ok
 rw[h1,Option.bind_some]
 simp only
 have tr:g_Trim.f s [48]=some (Lib.trimB s 48):=by
  unfold g_Trim.f
  exact if_pos ⟨by decide,by omega⟩
 rw[tr]
 have key: ∀z:Bool,∃b' ok',Option.bind (some (o&&z)) (fun y7=>some (((b:Nat):Int),y7))=some (((b':Nat):Int),ok')∧Mo t L a ok b' ok'∧(ok'=true→a<b'∧L.getD a default=0∧bz (t.getD a default)=true∧ ∀i,a≤i→i<b'→L.getD i default=0):=fun z =>
  ⟨b,_,rfl,⟨h2.le,h2.len,(fun h=>by rw[Bool.and_eq_true] at h; exact h2.good h.1),h2.ne⟩,(fun h=>by rw[Bool.and_eq_true] at h; exact h3 h.1)⟩
 split
 ·exact key _
 ·exact key _
theorem ry {t:List UInt8} {L:List Int} (g:G0 t L) (ok:Bool) (sg:List UInt8): ∀(d a:Nat),a+d=t.length →
  ∃b:Nat,iter (g_1w.b0 t L ok sg) (a:Int)=some (b:Int)∧a≤b∧b≤t.length∧ ∀i,a≤i→i<b→L.getD i default≠0∨sg.contains (t.getD i default)=false:=by
 have hl:=g.hl
 have hL:=g.hL
 intro d
 induction d with
 | zero =>
  intro a h
  refine⟨a,ah ?_,Nat.le_refl _,by omega,fun i h1 h2=>absurd h1 (by omega)⟩
  unfold g_1w.b0
  rw[if_neg (c:=decide _=true) (by simp; omega)]
  cases ok<;>rfl
 | succ d ih =>
  intro a h
  have key:g_1w.b0 t L ok sg (a:Int)=some (if(ok&&((L.getD a default != 0)|| !sg.contains (t.getD a default)))=true then .inl ((a+1:Nat):Int) else .inr (a:Int)):=by
   unfold g_1w.b0
   cases ok
   ·rfl
   ·rw[if_pos rfl,if_pos (decide_eq_true (by omega)),if_pos ⟨by omega,by omega⟩,aB,aB,up1 g (by omega)]
    cases(L.getD a default != 0)
    ·rw[if_neg (by decide),if_pos ⟨by omega,by omega⟩,cp,Option.bind_some,← g7]
     by_cases hx:jo sg (t.getD a default)<0
     ·rw[if_pos (decide_eq_true hx),decide_eq_false (by omega)]; rfl
     ·rw[if_neg (by simpa using hx),decide_eq_true (by omega)]; rfl
    ·rfl
  cases hc:(ok&&((L.getD a default != 0)|| !sg.contains (t.getD a default)))
  ·rw[hc] at key
   exact⟨a,ah key,Nat.le_refl _,by omega,fun i h1 h2=>absurd h1 (by omega)⟩
  ·rw[hc] at key
   rw[Bool.and_eq_true,Bool.or_eq_true] at hc
   obtain⟨b,h1,h2,h3,h4⟩:=ih (a+1) (by omega)
   refine⟨b,by rw[ak key,h1],by omega,h3,fun i i1 i2=>?_⟩
   by_cases hi:i=a
   ·rw[hi]
    rcases hc.2 with q | q
    ·exact .inl (by simpa using q)
    ·exact .inr (by simpa using q)
   ·exact h4 i (by omega) i2
theorem qu {t:List UInt8} {L:List Int} (g:G0 t L) (a:Nat) (ha:a≤t.length) (ok:Bool) {sg:List UInt8} (hs:sg.contains 61=true) :
  ∃b ok',g_1w.f t L (a:Int) ok sg=some (((b:Nat):Int),ok')∧Mo t L a ok b ok'∧(ok'=true→a<b)∧(sg.contains 44=true→NS t L 44 a b):=by
 have hl:=g.hl
 unfold g_1w.f g_1o.f
 obtain⟨b,h1,h2,h3,h4⟩:=ry g ok sg (t.length-a) a (by omega)
 rw[h1,Option.bind_some,Option.bind_some]
 have ns: ∀c,sg.contains c=true→NS t L c a b:=fun c hc i i1 i2 k=>by
  rcases h4 i i1 i2 with q | q
  ·exact q k.1
  ·rw[k.2,hc] at q; cases q
 exact⟨b,_,rfl,⟨h2,h3,(fun h=>by rw[Bool.and_eq_true] at h; exact h.1),ns 61 hs⟩,(fun h=>by rw[Bool.and_eq_true,decide_eq_true_eq] at h; omega),ns 44⟩
theorem d7 {t:List UInt8} {L:List Int} (g:G0 t L) (a:Nat) (ha:a≤t.length) (ok:Bool) :
  ∃b ok',g_y.f t L (a:Int) ok=some (((b:Nat):Int),ok')∧Mo t L a ok b ok'∧(ok'=true→a<b)∧NS t L 44 a b:=by
 unfold g_y.f
 obtain⟨b,ok',h1,h2,h3,h4⟩:=qu g a ha ok (sg:=[61,44]) (by decide)
 rw[h1]
 exact⟨b,ok',rfl,h2,h3,h4 (by decide)⟩
theorem jA {t:List UInt8} {L:List Int} (g:G0 t L) (a:Nat) (ha:a≤t.length) (ok:Bool) :
  ∃b ok',g_1u.f t L (a:Int) ok=some (((b:Nat):Int),ok')∧Mo t L a ok b ok':=by
 unfold g_1u.f
 obtain⟨b,ok',h1,h2,h3,h4⟩:=qu g a ha ok (sg:=[61]) (by decide)
 rw[h1]
 exact⟨b,ok',rfl,h2⟩
end Go.Proofs.YtcafgoomipkljaaGreatDoorAi
namespace Go.Proofs.YtcafgoomipkljaaGreatDoorAi
open Go Go.RowKit
set_option linter.unusedVariables false
set_option linter.unusedSimpArgs false
structure CK (t:List UInt8) (L:List Int) (a:Nat) (J:List Int):Prop where
 asc:J.Pairwise (· < ·)
 at1: ∀c∈J,∃n:Nat,c=((n+1:Nat):Int)∧n+1≤a∧n+1<t.length∧L.getD n default=0
 num:J.length≤a
theorem CK.nil {t:List UInt8} {L:List Int} {a:Nat}:CK t L a []:=⟨List.Pairwise.nil,(fun c h=>by cases h),Nat.zero_le _⟩
theorem CK.mono {t:List UInt8} {L:List Int} {a b:Nat} {J:List Int} (h:CK t L a J) (k:a≤b):CK t L b J :=
 ⟨h.asc,fun c hc=>by obtain⟨n,n1,n2,n3⟩:=h.at1 c hc; exact⟨n,n1,by omega,n3⟩,Nat.le_trans h.num k⟩
theorem CK.snoc {t:List UInt8} {L:List Int} {a:Nat} {J:List Int} (h:CK t L a J) (h1:a+1<t.length) (h2:L.getD a default=0):CK t L (a+1) (J++ [((a+1:Nat):Int)]):=by
 refine⟨List.pairwise_append.2 ⟨h.asc,List.pairwise_singleton _ _,fun x hx y hy=>?_⟩,fun c hc=>?_,by have:=h.num; simp; omega⟩
 ·obtain⟨n,n1,n2,_⟩:=h.at1 x hx
  rw[List.mem_singleton] at hy
  rw[n1,hy]; omega
 ·rcases List.mem_append.1 hc with q | q
  ·exact(h.mono (Nat.le_succ a)).at1 c q
  ·rw[List.mem_singleton] at q
   exact⟨a,q,Nat.le_refl _,h1,h2⟩
theorem tB {t:List UInt8} {L:List Int} (g:G0 t L) (a:Nat) (ha:a+1≤t.length) {J:List Int} (hJ:CK t L a J) (ok:Bool) (h0:ok=true→L.getD a default=0) :
  ∃J',g_t.f t ((a+1:Nat):Int) J ok=some J'∧CK t L (a+1) J':=by
 have hl:=g.hl
 have hn:=hJ.num
 unfold g_t.f
 cases ok
 ·exact⟨J,rfl,hJ.mono (Nat.le_succ _)⟩
 ·rw[if_pos rfl]
  by_cases h:a+1<t.length
  ·rw[if_pos (decide_eq_true (by omega)),if_pos ⟨by omega,by omega⟩,dz,Option.bind_some,d6,Option.bind_some,if_pos (c:=J.length+_<_) (by simp; omega)]
   cases cy (gt t ((a+1:Nat):Int))
   ·cases bz (gt t ((a+1:Nat):Int))
    ·refine⟨J,?_,hJ.mono (Nat.le_succ _)⟩
     rw[if_neg (by decide),if_pos ⟨by omega,by omega⟩]; rfl
    ·refine⟨_,?_,hJ.snoc h (h0 rfl)⟩
     rw[if_neg (by decide),if_pos ⟨by omega,by omega⟩,if_pos rfl]
   ·exact⟨_,if_pos rfl,hJ.snoc h (h0 rfl)⟩
  ·rw[if_neg (by simp; omega)]
   exact⟨J,rfl,hJ.mono (Nat.le_succ _)⟩
theorem fp (l:List Int) (hl:l.length<100000): ∀(d k:Nat),k+d=l.length →
  ∃r:Int⊕Int,iter (g_2q.b0 l) (k:Int)=some r∧((r= .inl (l.length:Int)∧ ∀i,k≤i→i<l.length→l.getD i default=0)∨ ∃i:Nat,r= .inr (i:Int))
 | 0,k,h=>⟨.inl (k:Int),ah (by unfold g_2q.b0; rw[if_neg (by simp; omega)]),.inl ⟨by rw[show k=l.length by omega],fun i h1 h2=>absurd h1 (by omega)⟩⟩
 | d+1,k,h=>by
  by_cases h0:l.getD k default=0
  ·obtain⟨r,h1,h2⟩:=fp l hl d (k+1) (by omega)
   refine⟨r,?_,?_⟩
   ·rw[ak (y:=((k+1:Nat):Int)) ?_]
    ·exact h1
    unfold g_2q.b0 g_10.f
    rw[if_pos (decide_eq_true (by omega)),if_pos ⟨by omega,by omega⟩,aB,h0,aq (by omega) (by omega)]
    rfl
   ·rcases h2 with⟨q,q'⟩ | q
    ·exact .inl ⟨q,fun i i1 i2=>by
      by_cases e:i=k
      ·rw[e]; exact h0
      ·exact q' i (by omega) i2⟩
    ·exact .inr q
  ·refine⟨.inr (k:Int),ah ?_,.inr ⟨k,rfl⟩⟩
   unfold g_2q.b0 g_10.f
   rw[if_pos (decide_eq_true (by omega)),if_pos ⟨by omega,by omega⟩,aB,Option.bind_some,if_pos (by simpa using h0)]
theorem nW (l:List Int) (hl:l.length<100000): ∃is,g_2m.f l=some is∧(is=false→ ∀i,i<l.length→l.getD i default=0):=by
 unfold g_2m.f g_2q.f
 obtain⟨r,h1,h2⟩:=fp l hl l.length 0 (by omega)
 show ∃is,Option.bind (Option.bind (iter _ ((0:Nat):Int)) _) _=_∧_
 rw[h1,Option.bind_some]
 rcases h2 with⟨rfl,q⟩ | ⟨i,rfl⟩
 ·exact⟨false,rfl,fun _ i hi=>q i (by omega) hi⟩
 ·refine⟨true,?_,(fun h=>by cases h)⟩
  show Option.bind (some (i:Int)) _=_
  rw[Option.bind_some,decide_eq_true (by omega)]
theorem eQ {t:List UInt8} {L:List Int} (g:G0 t L) (a:Nat) (ha:a≤t.length) (ok:Bool) (w:List UInt8) (hw:w.length<1000) :
  ∃is,g_z.f t L (a:Int) ok w=some is∧(is=true→ok=true∧(t.drop a).take w.length=w∧a+w.length≤t.length∧ ∀i,a≤i→i<a+w.length→L.getD i default=0):=by
 have hl:=g.hl
 have hL:=g.hL
 unfold g_z.f
 cases ok
 ·exact⟨false,rfl,(fun h=>by cases h)⟩
 ·rw[if_neg (by decide),if_pos ⟨by omega,by omega,by omega⟩,fH]
  unfold g_3b.f g_2a.f
  by_cases h1:w.length≤(t.drop a).length
  ·have h1':=h1
   rw[List.length_drop] at h1'
   rw[if_pos (decide_eq_true (by omega)),if_pos ⟨by omega,by omega,by omega⟩,Option.bind_some,Option.bind_some,Option.bind_some]
   have e:mid (t.drop a) (0:Int) (w.length:Int)=(t.drop a).take w.length:=rfl
   rw[e]
   by_cases h2:(t.drop a).take w.length=w
   ·rw[decide_eq_true h2,if_neg (by decide),aq (by omega) (by omega),if_pos ⟨by omega,by omega,by omega⟩]
    have e2:mid L (a:Int) ((a:Int)+(w.length:Int))=(L.take (a+w.length)).drop a:=by
     rw[show(a:Int)+(w.length:Int)=((a+w.length:Nat):Int) by omega]; rfl
    rw[e2]
    obtain⟨is,q1,q2⟩:=nW ((L.take (a+w.length)).drop a) (by rw[List.length_drop,List.length_take]; omega)
    rw[q1,Option.bind_some]
    refine⟨!is,rfl,fun h=>⟨rfl,h2,by omega,fun i i1 i2=>?_⟩⟩
    have:=q2 (by cases is<;>simp_all) (i-a) (by rw[List.length_drop,List.length_take]; omega)
    rw[List.getD_eq_getElem?_getD,List.getElem?_drop,show a+(i-a)=i by omega,List.getElem?_take,if_pos i2] at this
    rw[List.getD_eq_getElem?_getD]; exact this
   ·exact⟨false,by rw[decide_eq_false h2]; rfl,(fun h=>by cases h)⟩
  ·rw[List.length_drop] at h1
   rw[if_neg (by rw[List.length_drop]; simp; omega)]
   exact⟨false,rfl,(fun h=>by cases h)⟩
theorem mJ {t w:List UInt8} {a:Nat} (h:(t.drop a).take w.length=w) {i:Nat} (h1:a≤i) (h2:i<a+w.length):t.getD i default=w.getD (i-a) default:=by
 conv=>rhs; rw[← h]
 rw[List.getD_eq_getElem?_getD,List.getD_eq_getElem?_getD,List.getElem?_take,if_pos (by omega),List.getElem?_drop,show a+(i-a)=i by omega]
theorem d8 {t:List UInt8} {L:List Int} (g:G0 t L) (a:Nat) (ha:a≤t.length) {J:List Int} (hJ:CK t L a J) (ok:Bool) (w:List UInt8) (hw:0<w.length∧w.length<1000) (hw2:w.contains 61=false) :
  ∃b J' ok',g_20.f t L (a:Int) J ok w=some (((b:Nat):Int),J',ok')∧Mo t L a ok b ok'∧CK t L b J'∧(ok'=true→(t.drop a).take w.length=w∧b=a+w.length):=by
 have hl:=g.hl
 unfold g_20.f g_1o.f
 obtain⟨is,h1,h2⟩:=eQ g a ha ok w hw.2
 rw[h1,Option.bind_some,Option.bind_some]
 cases is
 ·rw[Bool.and_false,if_neg (by decide)]
  exact⟨a,J,false,rfl,Mo.self ha (fun h=>by cases h),hJ,(fun h=>by cases h)⟩
 ·obtain⟨rfl,p1,p2,p3⟩:=h2 rfl
  rw[Bool.and_true,if_pos rfl,aq (by omega) (by omega),show(a:Int)+(w.length:Int)=((a+w.length-1+1:Nat):Int) by omega]
  obtain⟨J',c1,c2⟩:=tB g (a+w.length-1) (by omega) (hJ.mono (by omega)) true (fun _=>p3 _ (by omega) (by omega))
  rw[c1,Option.bind_some]
  refine⟨a+w.length-1+1,J',true,rfl,⟨by omega,by omega,id,fun i i1 i2 k=>?_⟩,c2,fun _=>⟨p1,by omega⟩⟩
  have:=k.2
  rw[mJ p1 i1 (by omega)] at this
  have hm:(61:UInt8)∈w:=by
   rw[← this,List.getD_eq_getElem?_getD,List.getElem?_eq_getElem (show i-a<w.length by omega)]
   exact List.getElem_mem _
  rw[List.contains_eq_mem,decide_eq_false_iff_not] at hw2
  exact hw2 hm
def TY:List (List UInt8):=[([73,78,84,69,71,69,82]),([82,69,65,76]),([68,79,85,66,76,69,80,82,69,67,73,83,73,79,78]),([67,79,77,80,76,69,88]),([68,79,85,66,76,69,67,79,77,80,76,69,88]),([76,79,71,73,67,65,76]),([67,72,65,82,65,67,84,69,82])]
theorem qv: ∀w∈TY,(0<w.length∧w.length<1000)∧w.contains 61=false:=by decide
theorem qw:g_27.f=some TY:=rfl
theorem jf {t:List UInt8} {L:List Int} (g:G0 t L) (a:Nat) (ha:a≤t.length) (ok:Bool): ∀(d k:Nat),k+d=7 →
  ∃r:Int⊕Int,iter (g_2r.b0 TY t L (a:Int) ok) (k:Int)=some r∧((∃v,r= .inl v)∨ ∃i:Nat,i<7∧r= .inr (i:Int))
 | 0,k,h=>⟨.inl (k:Int),ah (by
   unfold g_2r.b0
   rw[if_neg (by show ¬ decide ((k:Int)<((7:Nat):Int))=true; simp; omega)]),.inl ⟨_,rfl⟩⟩
 | d+1,k,h=>by
  have e7:TY.length=7:=rfl
  have hk:k<TY.length:=by omega
  obtain⟨is,q,_⟩:=eQ g a ha ok (TY.getD k default) (by
   rw[List.getD_eq_getElem?_getD,List.getElem?_eq_getElem hk]
   exact(qv _ (List.getElem_mem hk)).1.2)
  cases is
  ·obtain⟨r,h1,h2⟩:=jf g a ha ok d (k+1) (by omega)
   refine⟨r,?_,h2⟩
   rw[ak (y:=((k+1:Nat):Int)) ?_]
   ·exact h1
   unfold g_2r.b0
   rw[if_pos (decide_eq_true (by omega)),if_pos ⟨by omega,by omega⟩,aB,q,Option.bind_some,aq (by omega) (by omega)]
   rfl
  ·refine⟨.inr (k:Int),ah ?_,.inr ⟨k,by omega,rfl⟩⟩
   unfold g_2r.b0
   rw[if_pos (decide_eq_true (by omega)),if_pos ⟨by omega,by omega⟩,aB,q,Option.bind_some]
   rfl
theorem eR {t:List UInt8} {L:List Int} (g:G0 t L) (a:Nat) (ha:a≤t.length) {J:List Int} (hJ:CK t L a J) (ok:Bool) :
  ∃is b J' ok',g_1r.f t L (a:Int) J ok=some (is,((b:Nat):Int),J',ok')∧Mo t L a ok b ok'∧CK t L b J'∧(is=true→ok'=true→ ∃w∈TY,(t.drop a).take w.length=w∧b=a+w.length)∧(is=false→b=a∧J'=J∧ok'=ok):=by
 unfold g_1r.f g_2r.f
 rw[qw,Option.bind_some]
 obtain⟨r,h1,h2⟩:=jf g a ha ok 7 0 (by omega)
 show ∃is b J' ok',Option.bind (Option.bind (iter _ ((0:Nat):Int)) _) _=_∧_
 rw[h1,Option.bind_some]
 rcases h2 with⟨v,rfl⟩ | ⟨i,hi,rfl⟩
 ·exact⟨false,a,J,ok,rfl,Mo.self ha id,hJ,(fun h=>by cases h),fun _=>⟨rfl,rfl,rfl⟩⟩
 ·have e7:TY.length=7:=rfl
  have hk:i<TY.length:=by omega
  have hm:TY.getD i default∈TY:=by
   rw[List.getD_eq_getElem?_getD,List.getElem?_eq_getElem hk]
   exact List.getElem_mem hk
  obtain⟨b,J',ok',q1,q2,q3,q4⟩:=d8 g a ha hJ ok (TY.getD i default) (qv _ hm).1 (qv _ hm).2
  show ∃is b J' ok',Option.bind (some (i:Int)) _=_∧_
  rw[Option.bind_some,if_neg (by simp),Option.bind_some,if_pos ⟨by omega,by omega⟩,aB,q1,Option.bind_some]
  exact⟨true,b,J',ok',rfl,q2,q3,fun _ h=>⟨_,hm,q4 h⟩,(fun h=>by cases h)⟩
theorem tC {t:List UInt8} {L:List Int} (g:G0 t L) (P:Int→Bool→Option (Int×Bool)) (body:Int×Bool→Option ((Int×Bool)⊕(Int×Bool)))
  (hb: ∀(a:Nat) ok,body ((a:Int),ok)=(if ok=true then Option.bind (g_1y.f t L (a:Int) ok 44) fun y8=>(if y8.1=true then Option.bind (P y8.2 ok) fun y11=>some (.inl (y11.1,y11.2)) else some (.inr (y8.2,ok))) else some (.inr ((a:Int),ok))))
  (hP: ∀(a:Nat) ok,a≤t.length→ ∃b ok',P (a:Int) ok=some (((b:Nat):Int),ok')∧Mo t L a ok b ok') :
  ∀(d a:Nat) (ok:Bool),a≤t.length→t.length≤a+d→ ∃b ok',iter body ((a:Int),ok)=some (((b:Nat):Int),ok')∧Mo t L a ok b ok':=by
 intro d
 induction d with
 | zero =>
  intro a ok ha hd
  refine⟨a,ok,ah ?_,Mo.self ha id⟩
  rw[hb,ia g a ha]
  have:nx t L a (fun c=>decide (c=44))=false:=by unfold nx; rw[decide_eq_false (by omega)]; rfl
  rw[this]
  cases ok<;>rfl
 | succ d ih =>
  intro a ok ha hd
  cases ok
  ·refine⟨a,false,ah ?_,Mo.self ha id⟩
   rw[hb]; rfl
  ·obtain⟨is,b,h1,h2,h3,h4⟩:=cz g a ha true (u:=44) (by decide)
   have hb1:=hb a true
   rw[h1,if_pos rfl,Option.bind_some] at hb1
   cases is
   ·obtain rfl:=h4 rfl
    exact⟨b,true,ah hb1,Mo.self ha id⟩
   ·obtain⟨_,e,_⟩:=h3 rfl
    obtain⟨b',ok',p1,p2⟩:=hP b true h2.len
    simp only[if_true] at hb1
    rw[p1,Option.bind_some] at hb1
    obtain⟨b2,ok2,i1,i2⟩:=ih b' ok' p2.len (by have:=p2.le; omega)
    exact⟨b2,ok2,by rw[ak hb1,i1],(h2.trans p2).trans i2⟩
theorem eD {t:List UInt8} {L:List Int} (g:G0 t L) (P:Int→Bool→Option (Int×Bool)) (body:Int×Bool→Option ((Int×Bool)⊕(Int×Bool)))
  (hb: ∀(a:Nat) ok,body ((a:Int),ok)=(if ok=true then Option.bind (g_1y.f t L (a:Int) ok 44) fun y8=>(if y8.1=true then Option.bind (P y8.2 ok) fun y11=>some (.inl (y11.1,y11.2)) else some (.inr (y8.2,ok))) else some (.inr ((a:Int),ok))))
  (hP: ∀(a:Nat) ok,a≤t.length→ ∃b ok',P (a:Int) ok=some (((b:Nat):Int),ok')∧Mo t L a ok b ok') (a:Nat) (ha:a≤t.length) (ok:Bool) :
  ∃b ok',(Option.bind (P (a:Int) ok) fun y1=>Option.bind (iter body (y1.1,y1.2)) fun o4=>some (o4.1,o4.2))=some (((b:Nat):Int),ok')∧Mo t L a ok b ok':=by
 obtain⟨b,o,h1,h2⟩:=hP a ok ha
 obtain⟨b',o',k1,k2⟩:=tC g P body hb hP t.length b o h2.len (by omega)
 refine⟨b',o',?_,h2.trans k2⟩
 rw[h1,Option.bind_some,k1]; rfl
end Go.Proofs.YtcafgoomipkljaaGreatDoorAi
namespace Go.Proofs.YtcafgoomipkljaaGreatDoorAi
open Go Go.RowKit
set_option linter.unusedVariables false
set_option linter.unusedSimpArgs false
section
variable {t:List UInt8} {L:List Int}
theorem rz (g:GG t L) (a:Nat) (ok:Bool) (ha:a≤t.length): ∃b ok',g_x.f t L (a:Int) ok=some (((b:Nat):Int),ok')∧Mo t L a ok b ok':=by
 unfold g_x.f
 obtain⟨b1,o1,e1,m1,_⟩:=cW g.toG0 a ha ok
 obtain⟨b2,o2,e2,m2,_⟩:=cX g b1 m1.len o1
 obtain⟨is,b3,e3,m3,_,n3⟩:=cz g.toG0 b2 m2.len o2 (u:=42) (by decide)
 simp only[e1,e2,e3,Option.bind_some]
 cases is
 ·exact⟨b3,o2,rfl,(m1.trans m2).trans m3⟩
 ·rw[if_neg (by decide),dV g.toG0,Option.bind_some]
  cases(o2&&nx t L b3 (fun c=>decide (c=40)))
  ·obtain⟨s,b4,o4,e4,m4,_⟩:=iO g.toG0 b3 m3.len o2
   rw[if_neg (by decide),e4]
   exact⟨b4,o4,rfl,((m1.trans m2).trans m3).trans m4⟩
  ·obtain⟨b4,o4,e4,m4,_⟩:=bB g b3 m3.len o2
   rw[if_pos rfl,e4]
   exact⟨b4,o4,rfl,((m1.trans m2).trans m3).trans m4⟩
theorem tD (g:GG t L) (a:Nat) (ok:Bool) (ha:a≤t.length): ∃b ok',g_o.f t L (a:Int) ok=some (((b:Nat):Int),ok')∧Mo t L a ok b ok':=by
 unfold g_o.f
 obtain⟨b1,o1,e1,m1,_⟩:=cW g.toG0 a ha ok
 obtain⟨b2,o2,e2,m2,_⟩:=bB g b1 m1.len o1
 simp only[e1,e2,Option.bind_some]
 exact⟨b2,o2,rfl,m1.trans m2⟩
theorem tE (g:GG t L) (a:Nat) (ok:Bool) (ha:a≤t.length): ∃b ok',g_s.f t L (a:Int) ok=some (((b:Nat):Int),ok')∧Mo t L a ok b ok':=by
 unfold g_s.f
 obtain⟨is,b1,e1,m1,n1,n2⟩:=cz g.toG0 a ha ok (u:=47) (by decide)
 obtain⟨b2,o2,e2,m2,_⟩:=cW g.toG0 b1 m1.len ok
 simp only[e1,Option.bind_some]
 cases is
 ·simp only[e2,Option.bind_some,Bool.false_eq_true,if_false]
  exact⟨b2,o2,rfl,m1.trans m2⟩
 ·obtain⟨b3,o3,e3,m3,_⟩:=mI g.toG0 b2 m2.len o2 (u:=47) (by decide)
  simp only[e2,e3,Option.bind_some,if_true]
  exact⟨b3,o3,rfl,(m1.trans m2).trans m3⟩
theorem tF (g:GG t L) (a:Nat) (ok:Bool) (ha:a≤t.length): ∃b ok',g_1g.f t L (a:Int) ok=some (((b:Nat):Int),ok')∧Mo t L a ok b ok' :=
 eD g.toG0 (g_x.f t L) (g_1g.b0 t L) (fun a ok=>rfl) (fun a ok ha=>rz g a ok ha) a ha ok
theorem tG (g:G0 t L) (a:Nat) (ok:Bool) (ha:a≤t.length): ∃b ok',g_1h.f t L (a:Int) ok=some (((b:Nat):Int),ok')∧Mo t L a ok b ok' :=
 eD g (g_1d.f t L) (g_1h.b0 t L) (fun a ok=>rfl) (fun a ok ha=>by obtain⟨b,o,e,m,_⟩:=dW g a ha ok; exact⟨b,o,e,m⟩) a ha ok
theorem tH (g:GG t L) (a:Nat) (ok:Bool) (ha:a≤t.length): ∃b ok',g_1i.f t L (a:Int) ok=some (((b:Nat):Int),ok')∧Mo t L a ok b ok' :=
 eD g.toG0 (g_o.f t L) (g_1i.b0 t L) (fun a ok=>rfl) (fun a ok ha=>tD g a ok ha) a ha ok
theorem tI (g:GG t L) (a:Nat) (ok:Bool) (ha:a≤t.length): ∃b ok',g_1j.f t L (a:Int) ok=some (((b:Nat):Int),ok')∧Mo t L a ok b ok' :=
 eD g.toG0 (g_1t.f t L) (g_1j.b0 t L) (fun a ok=>rfl) (fun a ok ha=>by obtain⟨b,o,e,m,_⟩:=bB g a ha ok; exact⟨b,o,e,m⟩) a ha ok
theorem tJ (g:GG t L) (a:Nat) (ok:Bool) (ha:a≤t.length): ∃b ok',g_1l.f t L (a:Int) ok=some (((b:Nat):Int),ok')∧Mo t L a ok b ok' :=
 eD g.toG0 (g_1p.f t L) (g_1l.b0 t L) (fun a ok=>rfl) (fun a ok ha=>by obtain⟨b,o,e,m,_⟩:=cW g.toG0 a ha ok; exact⟨b,o,e,m⟩) a ha ok
theorem tK (g:GG t L) (a:Nat) (ok:Bool) (ha:a≤t.length): ∃b ok',g_1m.f t L (a:Int) ok=some (((b:Nat):Int),ok')∧Mo t L a ok b ok' :=
 eD g.toG0 (g_s.f t L) (g_1m.b0 t L) (fun a ok=>rfl) (fun a ok ha=>tE g a ok ha) a ha ok
theorem eS (g:GG t L) (a:Nat) (ha:a≤t.length) {J:List Int} (hJ:CK t L a J) (ok:Bool): ∃b J' ok',g_1f.f t L (a:Int) J ok=some (((b:Nat):Int),J',ok')∧Mo t L a ok b ok'∧CK t L b J':=by
 unfold g_1f.f g_1o.f
 obtain⟨is,b1,J1,o1,e1,m1,c1,_⟩:=eR g.toG0 a ha hJ ok
 obtain⟨b2,o2,e2,m2,_⟩:=bB g b1 m1.len (o1&&is)
 simp only[e1,e2,Option.bind_some]
 have m1':Mo t L a ok b1 (o1&&is):=⟨m1.le,m1.len,(fun h=>by rw[Bool.and_eq_true] at h; exact m1.good h.1),m1.ne⟩
 exact⟨b2,J1,o2,rfl,m1'.trans m2,c1.mono m2.le⟩
theorem kM (g:GG t L): ∀(d a:Nat) (J:List Int) (ok:Bool),a≤t.length→t.length≤a+d→CK t L a J →
  ∃b J' ok',iter (g_1k.b0 t L) ((a:Int),J,ok)=some (((b:Nat):Int),J',ok')∧Mo t L a ok b ok'∧CK t L b J':=by
 intro d
 induction d with
 | zero =>
  intro a J ok ha hd hJ
  refine⟨a,J,ok,ah ?_,Mo.self ha id,hJ⟩
  unfold g_1k.b0
  simp only[ia g.toG0 a ha]
  have:nx t L a (fun c=>decide (c=44))=false:=by unfold nx; rw[decide_eq_false (by omega)]; rfl
  rw[this]
  cases ok<;>rfl
 | succ d ih =>
  intro a J ok ha hd hJ
  cases ok
  ·exact⟨a,J,false,ah rfl,Mo.self ha id,hJ⟩
  ·obtain⟨is,b,h1,h2,h3,h4⟩:=cz g.toG0 a ha true (u:=44) (by decide)
   cases is
   ·obtain rfl:=h4 rfl
    refine⟨b,J,true,ah ?_,Mo.self ha id,hJ⟩
    unfold g_1k.b0
    simp only[h1,Option.bind_some]
    rfl
   ·obtain⟨_,e,_⟩:=h3 rfl
    obtain⟨b',J',ok',p1,p2,p3⟩:=eS g b h2.len (hJ.mono h2.le) true
    obtain⟨b2,J2,ok2,i1,i2,i3⟩:=ih b' J' ok' p2.len (by have:=p2.le; omega) p3
    refine⟨b2,J2,ok2,?_,(h2.trans p2).trans i2,i3⟩
    rw[ak (y:=(((b':Nat):Int),J',ok')) ?_,i1]
    unfold g_1k.b0
    simp only[h1,p1,Option.bind_some]
    rfl
theorem tL (g:GG t L) (a:Nat) (ha:a≤t.length) {J:List Int} (hJ:CK t L a J) (ok:Bool): ∃b J' ok',g_1k.f t L (a:Int) J ok=some (((b:Nat):Int),J',ok')∧Mo t L a ok b ok'∧CK t L b J':=by
 unfold g_1k.f
 obtain⟨b,J1,o,h1,h2,h3⟩:=eS g a ha hJ ok
 obtain⟨b',J',o',k1,k2,k3⟩:=kM g t.length b J1 o h2.len (by omega) h3
 simp only[h1,k1,Option.bind_some]
 exact⟨b',J',o',rfl,h2.trans k2,k3⟩
theorem mK (b:Nat) (ok:Bool):g_1z.f t (b:Int) ok=some (ok&&decide (b=t.length)):=by
 unfold g_1z.f
 cases ok
 ·rfl
 ·rw[if_pos rfl]
  congr 1
  rw[Bool.true_and,Bool.eq_iff_iff]
  simp only[beq_iff_eq,decide_eq_true_eq]
  omega
theorem eT (ht:t.length<10000):g_22.f t=some (t,LV t,0,[],true):=by
 unfold g_22.f
 rw[kI ht]; rfl
theorem lN (g:GG t L) (a:Nat) (ok:Bool) (ha:a≤t.length): ∃b ok',g_1e.f t L (a:Int) ok=some (((b:Nat):Int),ok')∧Mo t L a ok b ok'∧(ok'=true→t.getD a default=40):=by
 have hl:=g.hl
 unfold g_1e.f
 obtain⟨b,o,e,m,_,p,q⟩:=bB g a ha ok
 rw[e,Option.bind_some]
 cases o
 ·exact⟨b,false,rfl,m,(fun h=>by cases h)⟩
 ·obtain⟨p1,p2,p3,p4,p5⟩:=p rfl
  have hb:=m.len
  simp only
  rw[if_neg (by decide),aq (by omega) (by omega),aq (by omega) (by omega),if_pos ⟨by omega,by omega,by omega⟩]
  have hm:(mid t ((a:Int)+1) ((b:Int)-1)).length<10000:=by
   unfold mid; rw[List.length_drop,List.length_take]; omega
  generalize mid t ((a:Int)+1) ((b:Int)-1)=s at hm
  rw[eT hm,Option.bind_some]
  obtain⟨b2,o2,e2,_⟩:=tG (t:=s) (L:=LV s) ⟨hm,mG s⟩ 0 true (Nat.zero_le _)
  have e2':g_1h.f s (LV s) 0 true=some (((b2:Nat):Int),o2):=e2
  simp only[e2',Option.bind_some,mK]
  unfold g_1o.f
  exact⟨b,_,rfl,⟨m.le,m.len,fun _=>m.good rfl,m.ne⟩,fun _=>p3⟩
theorem fq (b:Nat) (ok:Bool):g_11.f t (b:Int) ok=some (ok&&decide (b<t.length)):=by
 unfold g_11.f
 cases ok
 ·rfl
 ·rw[if_pos rfl]
  congr 1
  rw[Bool.true_and]
  exact decide_eq_decide.2 (by omega)
theorem nX (g:GG t L) (a:Nat) (ok:Bool) (ha:a≤t.length): ∃b ok',g_1b.f t L (a:Int) ok=some (((b:Nat):Int),ok')∧Mo t L a ok b ok':=by
 unfold g_1b.f g_1o.f
 obtain⟨b1,o1,e1,m1,_⟩:=bB g a ha ok
 simp only[e1,Option.bind_some,fq]
 cases(o1&&decide (b1<t.length))
 ·exact⟨b1,o1,rfl,m1⟩
 ·rw[if_pos rfl,kK g.toG0,Option.bind_some]
  generalize (!(o1&&nx t L b1 fun c=>decide (c=44)))=z
  obtain⟨b2,o2,e2,m2⟩:=jA g.toG0 b1 m1.len (o1&&z)
  rw[e2]
  exact⟨b2,o2,rfl,⟨Nat.le_trans m1.le m2.le,m2.len,(fun h=>m1.good (by have:=m2.good h; rw[Bool.and_eq_true] at this; exact this.1)),m1.ne.trans m2.ne⟩⟩
theorem qx (g:GG t L) (a:Nat) (ok:Bool) (ha:a≤t.length): ∃b ok',g_1a.f t L (a:Int) ok=some (((b:Nat):Int),ok')∧Mo t L a ok b ok':=by
 unfold g_1a.f
 obtain⟨b1,o1,e1,m1,_⟩:=d7 g.toG0 a ha ok
 obtain⟨is,b2,e2,m2,_⟩:=cz g.toG0 b1 m1.len o1 (u:=44) (by decide)
 simp only[e1,e2,Option.bind_some]
 cases is
 ·exact⟨b2,o1,rfl,m1.trans m2⟩
 ·obtain⟨b3,o3,e3,m3⟩:=jA g.toG0 b2 m2.len o1
  simp only[e3,Option.bind_some,if_true]
  exact⟨b3,o3,rfl,(m1.trans m2).trans m3⟩
theorem stop_Mo (g:GG t L) (a:Nat) (ok:Bool) (ha:a≤t.length): ∃b ok',g_1x.f t L (a:Int) ok=some (((b:Nat):Int),ok')∧a≤b∧b≤t.length∧(ok'=true→ok=true)∧(NS t L 61 a b∨(a<t.length∧(t.getD a default=39∨t.getD a default=34))):=by
 have hl:=g.hl
 unfold g_1x.f
 rw[fq,Option.bind_some]
 cases h:(ok&&decide (a<t.length))
 ·exact⟨a,ok,rfl,Nat.le_refl _,ha,id,.inl NS.self⟩
 ·rw[Bool.and_eq_true,decide_eq_true_eq] at h
  rw[if_neg (by decide),if_pos ⟨by omega,by omega,by omega⟩,fH]
  obtain⟨y,h1,h2⟩:=CS_f (t.drop a)
  rw[h1,Option.bind_some,if_pos ⟨by omega,by rw[List.length_drop]; omega⟩]
  have e0:gt (t.drop a) (0:Int)=t.getD a default:=by
   show(t.drop a).getD 0 default=_
   rw[List.getD_eq_getElem?_getD,List.getElem?_drop,List.getD_eq_getElem?_getD]; rfl
  rw[e0,fN,fN]
  obtain⟨s,b1,o1,e1,m1,_⟩:=iO g.toG0 a ha ok
  have two: ∀z:Bool,(z=true→t.getD a default=39∨t.getD a default=34)→ ∃b ok',(Option.bind (some z) fun z17=>(if z17=true then some ((t.length:Int),ok) else Option.bind (g_v.f t L (a:Int) ok) fun y30=>some (y30.2.1,y30.2.2)))=some (((b:Nat):Int),ok')∧a≤b∧b≤t.length∧(ok'=true→ok=true)∧(NS t L 61 a b∨(a<t.length∧(t.getD a default=39∨t.getD a default=34))):=fun z hz=>by
   cases z
   ·refine⟨b1,o1,?_,m1.le,m1.len,m1.good,.inl m1.ne⟩
    rw[Option.bind_some,if_neg (by decide),e1]; rfl
   ·exact⟨t.length,ok,rfl,by omega,Nat.le_refl _,id,.inr ⟨h.2,hz rfl⟩⟩
  have one: ∀z:Bool,(z=true→t.getD a default=39∨t.getD a default=34)→ ∃b ok',(Option.bind (some z) fun z14=>Option.bind ((if(z14&&((y.1.length:Int)==1))=true then(if 0≤(0:Int)∧(0:Int)<(y.1.length:Int) then some ((((gt y.1 (0:Int)).1)==0)&&(((gt y.1 (0:Int)).2)==((t.drop a).length:Int))) else none) else some false)) fun z17=>(if z17=true then some ((t.length:Int),ok) else Option.bind (g_v.f t L (a:Int) ok) fun y30=>some (y30.2.1,y30.2.2)))=some (((b:Nat):Int),ok')∧a≤b∧b≤t.length∧(ok'=true→ok=true)∧(NS t L 61 a b∨(a<t.length∧(t.getD a default=39∨t.getD a default=34))):=fun z hz=>by
   rw[Option.bind_some]
   by_cases hc:(z&&((y.1.length:Int)==1))=true
   ·rw[if_pos hc]
    rw[Bool.and_eq_true,beq_iff_eq] at hc
    rw[if_pos ⟨by omega,by omega⟩]
    exact two _ (fun _=>hz hc.1)
   ·rw[if_neg hc]
    exact two _ (fun h=>by cases h)
  by_cases c1:t.getD a default=39
  ·rw[if_pos (decide_eq_true c1)]
   exact one _ (fun _=> .inl c1)
  ·rw[if_neg (by simpa using c1),if_pos ⟨by omega,by rw[List.length_drop]; omega⟩]
   exact one _ (fun h=> .inr (by simpa using h))
end
end Go.Proofs.YtcafgoomipkljaaGreatDoorAi
namespace Go.Proofs.YtcafgoomipkljaaGreatDoorAi
open Go Go.RowKit
set_option linter.unusedVariables false
set_option linter.unusedSimpArgs false
section
variable {t:List UInt8} {L:List Int}
theorem lO (g:G0 t L): ∀(d k:Nat) (acc:List Int),k+d=t.length→acc.length≤k →
  ∃acc',iter (g_u.b0 t L) (acc,(k:Int))=some (acc',(t.length:Int))∧acc'.length≤t.length
 | 0,k,acc,h,ha=>⟨acc,ah (by
   unfold g_u.b0
   simp only
   rw[if_neg (by simp; omega),show k=t.length by omega]),by omega⟩
 | d+1,k,acc,h,ha=>by
  have hl:=g.hl
  have hL:=g.hL
  have key: ∃a2:List Int,g_u.b0 t L (acc,(k:Int))=some (.inl (a2,((k+1:Nat):Int)))∧a2.length≤k+1:=by
   unfold g_u.b0
   simp only
   rw[if_pos (decide_eq_true (by omega)),if_pos ⟨by omega,by omega⟩,aq (by omega) (by omega)]
   have two: ∀z:Bool,∃a2:List Int,(Option.bind (Option.bind (some z) fun z32=>(if z32=true then(if acc.length+([(k:Int)]:List Int).length<1000000000 then some (acc++([(k:Int)]:List Int)) else none) else some acc)) fun z18=>some (Sum.inl (z18,(k:Int)+1)))=some (Sum.inl (a2,((k+1:Nat):Int)):(List Int×Int)⊕(List Int×Int))∧a2.length≤k+1:=fun z=>by
    cases z
    ·exact⟨acc,rfl,by omega⟩
    ·refine⟨acc++ [(k:Int)],?_,by simp; omega⟩
     rw[Option.bind_some,if_pos rfl,if_pos (by simp; omega)]; rfl
   split
   ·rw[if_pos ⟨by omega,by omega⟩]
    exact two _
   ·exact two _
  obtain⟨a2,k1,k2⟩:=key
  obtain⟨acc',h1,h2⟩:=lO g d (k+1) a2 (by omega) k2
  exact⟨acc',by rw[ak k1,h1],h2⟩
theorem data_Mo (g:GG t L) (a:Nat) (ok:Bool) (ha:a≤t.length): ∃b ok',g_u.f t L (a:Int) ok=some (((b:Nat):Int),ok')∧Mo t L a ok b ok':=by
 have hl:=g.hl
 unfold g_u.f g_1o.f
 obtain⟨acc,h1,h2⟩:=lO g.toG0 (t.length-a) a [] (by omega) (by simp)
 rw[nU g.toG0,Option.bind_some,Option.bind_some,h1,Option.bind_some]
 simp only
 generalize (ok&&nx t L a fun c=>cy c|| [40].contains c)=z
 have r: ∀z2:Bool,∃b ok',(Option.bind (some ((ok&&z)&&z2)) fun y58=>Option.bind (g_1u.f t L (a:Int) y58) fun y60=>some (y60.1,y60.2))=some (((b:Nat):Int),ok')∧Mo t L a ok b ok':=fun z2=>by
  obtain⟨b,o,e,m⟩:=jA g.toG0 a ha ((ok&&z)&&z2)
  rw[Option.bind_some,e]
  exact⟨b,o,rfl,m.le,m.len,(fun h=>by have:=m.good h; rw[Bool.and_eq_true,Bool.and_eq_true] at this; exact this.1.1),m.ne⟩
 by_cases c0:0<acc.length
 ·rw[if_pos (decide_eq_true c0)]
  by_cases c1:(acc.length:Int)>1
  ·rw[if_pos (decide_eq_true c1),if_pos (by rw[aq (by omega) (by omega)]; omega)]
   exact r _
  ·rw[if_neg (by simpa using c1)]
   exact r _
 ·rw[if_neg (by simpa using c0),if_neg (by simp; omega)]
  exact r _
theorem wr {x:Option (Int×Bool)} {a:Nat} {ok:Bool} {J:List Int} (hJ:CK t L a J) (h: ∃b ok',x=some (((b:Nat):Int),ok')∧Mo t L a ok b ok') :
  ∃b J' ok',(Option.bind x fun y=>some (y.1,J,y.2))=some (((b:Nat):Int),J',ok')∧Mo t L a ok b ok'∧CK t L b J':=by
 obtain⟨b,o,e,m⟩:=h
 exact⟨b,J,o,by rw[e]; rfl,m,hJ.mono m.le⟩
theorem wr3 {x:Option (Int×List Int×Bool)} {a:Nat} {ok:Bool} (h: ∃b J' ok',x=some (((b:Nat):Int),J',ok')∧Mo t L a ok b ok'∧CK t L b J') :
  ∃b J' ok',(Option.bind x fun y=>some (y.1,y.2.1,y.2.2))=some (((b:Nat):Int),J',ok')∧Mo t L a ok b ok'∧CK t L b J':=by
 obtain⟨b,J',o,e,m⟩:=h
 exact⟨b,J',o,by rw[e]; rfl,m⟩
theorem tM (g:GG t L) (a:Nat) (ha:a≤t.length) {J:List Int} (hJ:CK t L a J) (ok:Bool) (pT:Int) :
  ∃b J' ok',g_1s.f t L (a:Int) J ok pT=some (((b:Nat):Int),J',ok')∧Mo t L a ok b ok'∧CK t L b J':=by
 have l5:=wr3 (tL g a ha hJ ok)
 have lp: ∃b ok',g_1t.f t L (a:Int) ok=some (((b:Nat):Int),ok')∧Mo t L a ok b ok':=by obtain⟨b,o,e,m,_⟩:=bB g a ha ok; exact⟨b,o,e,m⟩
 have le: ∃b ok',g_y.f t L (a:Int) ok=some (((b:Nat):Int),ok')∧Mo t L a ok b ok':=by obtain⟨b,o,e,m,_⟩:=d7 g.toG0 a ha ok; exact⟨b,o,e,m⟩
 have ln: ∃b ok',g_1p.f t L (a:Int) ok=some (((b:Nat):Int),ok')∧Mo t L a ok b ok':=by obtain⟨b,o,e,m,_⟩:=cW g.toG0 a ha ok; exact⟨b,o,e,m⟩
 have self: ∃b J' ok',(some ((a:Int),J,ok):Option (Int×List Int×Bool))=some (((b:Nat):Int),J',ok')∧Mo t L a ok b ok'∧CK t L b J':=⟨a,J,ok,rfl,Mo.self ha id,hJ⟩
 have two: ∀{c:Option Bool} {X Y:Option (Int×List Int×Bool)},(∃z,c=some z)→(∃b J' ok',X=some (((b:Nat):Int),J',ok')∧Mo t L a ok b ok'∧CK t L b J')→(∃b J' ok',Y=some (((b:Nat):Int),J',ok')∧Mo t L a ok b ok'∧CK t L b J') →
   ∃b J' ok',(Option.bind c fun z=>if z=true then X else Y)=some (((b:Nat):Int),J',ok')∧Mo t L a ok b ok'∧CK t L b J':=fun hc hx hy=>by
  obtain⟨z,rfl⟩:=hc
  rw[Option.bind_some]
  cases z
  ·rw[if_neg (by decide)]; exact hy
  ·rw[if_pos rfl]; exact hx
 have one: ∀{c:Prop} [Decidable c] {X Y:Option (Int×List Int×Bool)},(∃b J' ok',X=some (((b:Nat):Int),J',ok')∧Mo t L a ok b ok'∧CK t L b J')→(∃b J' ok',Y=some (((b:Nat):Int),J',ok')∧Mo t L a ok b ok'∧CK t L b J') →
   ∃b J' ok',(if c then X else Y)=some (((b:Nat):Int),J',ok')∧Mo t L a ok b ok'∧CK t L b J':=fun hx hy=>by
  split
  ·exact hx
  ·exact hy
 unfold g_1s.f
 refine one (two ⟨_,dV g.toG0 a ok⟩ (wr hJ (nX g a ok ha)) (wr hJ (qx g a ok ha))) ?_
 refine one (wr hJ (nX g a ok ha)) ?_
 refine one (wr hJ (qx g a ok ha)) ?_
 refine two (by(repeat' split)<;>exact⟨_,rfl⟩) (wr hJ lp) ?_
 refine two (by(repeat' split)<;>exact⟨_,rfl⟩) (wr hJ le) ?_
 refine one (wr hJ (tH g a ok ha)) ?_
 refine one ?_ ?_
 ·rw[nU g.toG0,Option.bind_some]
  unfold g_1o.f
  rw[Option.bind_some]
  refine wr hJ ?_
  generalize (ok&&nx t L a fun c=>cy c|| [47].contains c)=z
  obtain⟨b,o,e,m⟩:=jA g.toG0 a ha (ok&&z)
  exact⟨b,o,e,m.le,m.len,(fun h=>by have:=m.good h; rw[Bool.and_eq_true] at this; exact this.1),m.ne⟩
 refine one (wr hJ (tI g a ok ha)) ?_
 refine one (wr hJ (data_Mo g a ok ha)) ?_
 refine one ?_ ?_
 ·obtain⟨is,q,_⟩:=eQ g.toG0 a ha ok [78,79,78,69] (by decide)
  refine two ⟨is,q⟩ (one (wr3 ?_) l5) l5
  obtain⟨b,J',o,e,m,c,_⟩:=d8 g.toG0 a ha hJ ok [78,79,78,69] (by decide) (by decide)
  exact⟨b,J',o,e,m,c⟩
 refine two (by(repeat' split)<;>exact⟨_,rfl⟩) (wr hJ (tJ g a ok ha)) ?_
 refine one (two ⟨_,fq a ok⟩ (wr hJ (tK g a ok ha)) self) ?_
 refine one (wr hJ ln) ?_
 exact one (two ⟨_,fq a ok⟩ (wr hJ ln) self) self
end
end Go.Proofs.YtcafgoomipkljaaGreatDoorAi
namespace Go.Proofs.YtcafgoomipkljaaGreatDoorAi
open Go Go.RowKit
set_option linter.unusedVariables false
set_option linter.unusedSimpArgs false
section
variable {t:List UInt8} {L:List Int}
theorem qy (g:G0 t L) (b:Nat) (hb:b≤t.length) {J:List Int} (hJ:CK t L b J) (ok:Bool) (h:ok=true→0<b∧CK t L (b-1) J∧L.getD (b-1) default=0) :
  ∃J',g_t.f t (b:Int) J ok=some J'∧CK t L b J':=by
 cases ok
 ·exact⟨J,rfl,hJ⟩
 ·obtain⟨h1,h2,h3⟩:=h rfl
  have:=tB g (b-1) (by omega) h2 true (fun _=>h3)
  rw[show b-1+1=b by omega] at this
  exact this
theorem pa (g:G0 t L) (a:Nat) (ha:a≤t.length) (ok:Bool) (u:UInt8) :
  ∃b ok',g_1v.f t L (a:Int) ok u=some (((b:Nat):Int),ok')∧a≤b∧b≤t.length∧(ok'=true→ok=true)∧(ok'=true→b=a+1∧L.getD a default=0∧t.getD a default=u):=by
 rw[kL g a ha]
 cases h:(ok&&nx t L a (fun c=>decide (c=u)))
 ·exact⟨a,false,rfl,Nat.le_refl _,ha,(fun h=>by cases h),(fun h=>by cases h)⟩
 ·rw[Bool.and_eq_true,cw,decide_eq_true_eq] at h
  exact⟨a+1,true,rfl,by omega,by omega,fun _=>h.1,fun _=>⟨rfl,h.2.2.1,h.2.2.2⟩⟩
theorem do_Mq (g:GG t L) (a:Nat) (ha:a≤t.length) {J:List Int} (hJ:CK t L a J) (ok:Bool) :
  ∃b J' ok',g_w.f t L (a:Int) J ok=some (((b:Nat):Int),J',ok')∧a≤b∧b≤t.length∧(ok'=true→ok=true)∧CK t L b J' ∧
   (ok'=true→(∃e,a≤e∧e<b∧L.getD e default=0∧t.getD e default=44)∧ ∃e,a≤e∧e<b∧L.getD e default=0∧t.getD e default=61):=by
 unfold g_w.f
 have first: ∃b J' ok',(Option.bind (g_18.f t L (a:Int) ok) fun y6=>(if y6=true then Option.bind (g_1d.f t L (a:Int) ok) fun y9=>Option.bind (g_1y.f t L y9.1 y9.2 44) fun y11=>(if(!y11.1)=true then Option.bind (g_t.f t y11.2 J y9.2) fun y14=>some (y11.2,y14,y9.2) else some (y11.2,J,y9.2)) else some ((a:Int),J,ok)))=some (((b:Nat):Int),J',ok')∧Mo t L a ok b ok'∧CK t L b J':=by
  rw[tA g.toG0,Option.bind_some]
  cases(ok&&nx t L a bz)
  ·exact⟨a,J,ok,rfl,Mo.self ha id,hJ⟩
  ·rw[if_pos rfl]
   obtain⟨b1,o1,e1,m1,f1⟩:=dW g.toG0 a ha ok
   obtain⟨is,b2,e2,m2,n1,n2⟩:=cz g.toG0 b1 m1.len o1 (u:=44) (by decide)
   simp only[e1,e2,Option.bind_some]
   cases is
   ·obtain rfl:=n2 rfl
    obtain⟨J',c1,c2⟩:=qy g.toG0 b2 m1.len (hJ.mono m1.le) o1 (fun h=>by
     obtain⟨q1,q2,q3,q4⟩:=f1 h
     exact⟨by omega,hJ.mono (by omega),q4 _ (by omega) (by omega)⟩)
    refine⟨b2,J',o1,?_,m1,c2⟩
    rw[c1]; rfl
   ·exact⟨b2,J,o1,rfl,m1.trans m2,hJ.mono (m1.trans m2).le⟩
 obtain⟨b1,J1,o1,e1,m1,c1⟩:=first
 rw[e1,Option.bind_some]
 obtain⟨b2,o2,e2,m2,_⟩:=cW g.toG0 b1 m1.len o1
 obtain⟨b3,o3,e3,l3,n3,g3,s3⟩:=pa g.toG0 b2 m2.len o2 61
 obtain⟨b4,o4,e4,m4,_⟩:=d7 g.toG0 b3 n3 o3
 obtain⟨b5,o5,e5,l5,n5,g5,s5⟩:=pa g.toG0 b4 m4.len o4 44
 obtain⟨b6,o6,e6,m6,_⟩:=d7 g.toG0 b5 n5 o5
 obtain⟨is,b7,e7,m7,_⟩:=cz g.toG0 b6 m6.len o6 (u:=44) (by decide)
 simp only[e2,e3,e4,e5,e6,e7,Option.bind_some]
 have i1:=m1.le; have i2:=m2.le; have i4:=m4.le; have i6:=m6.le; have i7:=m7.le
 have good:o6=true→ok=true∧(∃e,a≤e∧e<b6∧L.getD e default=0∧t.getD e default=44)∧ ∃e,a≤e∧e<b6∧L.getD e default=0∧t.getD e default=61:=fun h=>by
  have h5:=m6.good h
  have h4:=g5 h5
  have h3:=m4.good h4
  have h2:=g3 h3
  obtain⟨q1,q2,q3⟩:=s5 h5
  obtain⟨r1,r2,r3⟩:=s3 h3
  exact⟨m1.good (m2.good h2),⟨b4,by omega,by omega,q2,q3⟩,b2,by omega,by omega,r2,r3⟩
 cases is
 ·refine⟨b7,J1,o6,rfl,by omega,m7.len,fun h=>(good h).1,c1.mono (by omega),fun h=>?_⟩
  obtain⟨_,⟨e,q1,q2,q3⟩,e',r1,r2,r3⟩:=good h
  exact⟨⟨e,q1,by omega,q3⟩,e',r1,by omega,r3⟩
 ·obtain⟨b8,o8,e8,m8,_⟩:=d7 g.toG0 b7 m7.len o6
  have i8:=m8.le
  simp only[e8,Option.bind_some,if_true]
  refine⟨b8,J1,o8,rfl,by omega,m8.len,fun h=>(good (m8.good h)).1,c1.mono (by omega),fun h=>?_⟩
  obtain⟨_,⟨e,q1,q2,q3⟩,e',r1,r2,r3⟩:=good (m8.good h)
  exact⟨⟨e,q1,by omega,q3⟩,e',r1,by omega,r3⟩
structure BeF (t:List UInt8) (L:List Int) (a:Nat) (ok:Bool) (pT:Int) (b:Nat):Prop where
 ne:pT≠11→NS t L 61 a b∨((pT=16∨pT=17)∧a<t.length∧(t.getD a default=39∨t.getD a default=34))
 do':pT=11→(∃e,a≤e∧e<b∧L.getD e default=0∧t.getD e default=44)∧ ∃e,a≤e∧e<b∧L.getD e default=0∧t.getD e default=61
 go2:pT=2→bz (t.getD a default)=true
 go3:pT=3→t.getD a default=40
 go4:pT=4→cy (t.getD a default)=true
 if5:pT=5→ ∃p:Nat,g_1t.f t L (a:Int) ok=some ((p:Int),true)∧bz (t.getD p default)=true
 if7:pT=7→ ∃p:Nat,g_1t.f t L (a:Int) ok=some ((p:Int),true)∧(t.drop p).take 4= [84,72,69,78]∧b=p+4
 bare:pT=9∨pT=43→b=a
theorem BeF.plain {a:Nat} {ok:Bool} {pT:Int} {b:Nat} (h:pT≠2∧pT≠3∧pT≠4∧pT≠5∧pT≠7∧pT≠9∧pT≠11∧pT≠43) (ne:NS t L 61 a b):BeF t L a ok pT b:=by
 constructor<;>intro q
 ·exact .inl ne
 all_goals omega
theorem rA (g:GG t L) (a:Nat) (ha:a≤t.length) {J:List Int} (hJ:CK t L a J) (ok:Bool) (pT:Int) :
  ∃b J' ok',g_r.f t L (a:Int) J ok pT=some (((b:Nat):Int),J',ok')∧a≤b∧b≤t.length∧(ok'=true→ok=true)∧CK t L b J'∧(ok'=true→BeF t L a ok pT b):=by
 unfold g_r.f
 by_cases h1:pT=1
 ·subst h1
  rw[if_pos (by decide)]
  obtain⟨b1,o1,e1,m1,f1⟩:=dW g.toG0 a ha ok
  obtain⟨J1,c1,c2⟩:=qy g.toG0 b1 m1.len (hJ.mono m1.le) o1 (fun h=>by
   obtain⟨q1,q2,q3,q4⟩:=f1 h
   exact⟨by omega,hJ.mono (by omega),q4 _ (by omega) (by omega)⟩)
  obtain⟨b2,J2,o2,e2,m2,c3,_⟩:=d8 g.toG0 b1 m1.len c2 o1 [84,79] (by decide) (by decide)
  obtain⟨b3,o3,e3,m3,_⟩:=cW g.toG0 b2 m2.len o2
  simp only[e1,c1,e2,e3,Option.bind_some]
  have m:=(m1.trans m2).trans m3
  exact⟨b3,J2,o3,rfl,m.le,m.len,m.good,c3.mono m3.le,fun _=>BeF.plain (by decide) m.ne⟩
 rw[if_neg (by simpa using h1)]
 by_cases h2:pT=2
 ·subst h2
  rw[if_pos (by decide)]
  obtain⟨b1,o1,e1,m1,f1⟩:=dW g.toG0 a ha ok
  simp only[e1,Option.bind_some]
  exact⟨b1,J,o1,rfl,m1.le,m1.len,m1.good,hJ.mono m1.le,fun h=>⟨fun _=> .inl m1.ne,by omega,fun _=>(f1 h).2.2.1,by omega,by omega,by omega,by omega,by omega⟩⟩
 rw[if_neg (by simpa using h2)]
 by_cases h3:pT=3
 ·subst h3
  rw[if_pos (by decide)]
  obtain⟨b1,o1,e1,m1,f1⟩:=lN g a ok ha
  obtain⟨is,b2,e2,m2,_⟩:=cz g.toG0 b1 m1.len o1 (u:=44) (by decide)
  obtain⟨b3,o3,e3,m3,_⟩:=d7 g.toG0 b2 m2.len o1
  simp only[e1,e2,e3,Option.bind_some]
  have m:=(m1.trans m2).trans m3
  exact⟨b3,J,o3,rfl,m.le,m.len,m.good,hJ.mono m.le,fun h=>⟨fun _=> .inl m.ne,by omega,by omega,fun _=>f1 (m3.good h),by omega,by omega,by omega,by omega⟩⟩
 rw[if_neg (by simpa using h3)]
 by_cases h4:pT=4
 ·subst h4
  rw[if_pos (by decide)]
  obtain⟨b1,o1,e1,m1,_,_,f1⟩:=cW g.toG0 a ha ok
  obtain⟨is,b2,e2,m2,_⟩:=cz g.toG0 b1 m1.len o1 (u:=44) (by decide)
  simp only[e1,e2,Option.bind_some]
  cases is
  ·have m:=m1.trans m2
   exact⟨b2,J,o1,rfl,m.le,m.len,m.good,hJ.mono m.le,fun h=>⟨fun _=> .inl m.ne,by omega,by omega,by omega,fun _=>(f1 h).2,by omega,by omega,by omega⟩⟩
  ·obtain⟨b3,o3,e3,m3,_⟩:=lN g b2 o1 m2.len
   simp only[e3,Option.bind_some,if_true]
   have m:=(m1.trans m2).trans m3
   exact⟨b3,J,o3,rfl,m.le,m.len,m.good,hJ.mono m.le,fun h=>⟨fun _=> .inl m.ne,by omega,by omega,by omega,fun _=>(f1 (m3.good h)).2,by omega,by omega,by omega⟩⟩
 rw[if_neg (by simpa using h4)]
 by_cases h5:pT=5
 ·subst h5
  rw[if_pos (by decide)]
  obtain⟨b0,o0,e0,m0,_⟩:=bB g a ha ok
  obtain⟨b1,o1,e1,m1,f1⟩:=dW g.toG0 b0 m0.len o0
  obtain⟨b2,o2,e2,m2,_⟩:=mI g.toG0 b1 m1.len o1 (u:=44) (by decide)
  obtain⟨b3,o3,e3,m3,_⟩:=dW g.toG0 b2 m2.len o2
  obtain⟨b4,o4,e4,m4,_⟩:=mI g.toG0 b3 m3.len o3 (u:=44) (by decide)
  obtain⟨b5,o5,e5,m5,_⟩:=dW g.toG0 b4 m4.len o4
  have it:iter (g_r.b0 t L) ((0:Int),(b0:Int),o0)=some ((3:Int),(b5:Int),o5):=by
   rw[ak (y:=((1:Int),(b1:Int),o1)) (by unfold g_r.b0; simp only[e1,Option.bind_some]; rfl),
    ak (y:=((2:Int),(b3:Int),o3)) (by unfold g_r.b0; simp only[e2,e3,Option.bind_some]; rfl),
    ak (y:=((3:Int),(b5:Int),o5)) (by unfold g_r.b0; simp only[e4,e5,Option.bind_some]; rfl)]
   exact ah rfl
  simp only[e0,it,Option.bind_some]
  have m':=((m1.trans m2).trans m3).trans (m4.trans m5)
  have m:=m0.trans m'
  refine⟨b5,J,o5,rfl,m.le,m.len,m.good,hJ.mono m.le,fun h=>⟨fun _=> .inl m.ne,by omega,by omega,by omega,by omega,fun _=>⟨b0,?_,?_⟩,by omega,by omega⟩⟩
  ·rw[m'.good h] at e0; exact e0
  ·exact(f1 (m2.good (m3.good (m4.good (m5.good h))))).2.2.1
 rw[if_neg (by simpa using h5)]
 by_cases h78:pT=7∨pT=8
 ·have hz:(if(pT==7)=true then some true else some (pT==8))=some true:=by rcases h78 with rfl | rfl<;>rfl
  rw[hz,Option.bind_some,if_pos rfl]
  obtain⟨b0,o0,e0,m0,_⟩:=bB g a ha ok
  obtain⟨b1,J1,o1,e1,m1,c1,f1⟩:=d8 g.toG0 b0 m0.len (hJ.mono m0.le) o0 [84,72,69,78] (by decide) (by decide)
  simp only[e0,e1,Option.bind_some]
  have m:=m0.trans m1
  refine⟨b1,J1,o1,rfl,m.le,m.len,m.good,c1,fun h=>⟨fun _=> .inl m.ne,by omega,by omega,by omega,by omega,by omega,fun _=>⟨b0,?_,f1 h⟩,by omega⟩⟩
  rw[m1.good h] at e0; exact e0
 have hz:(if(pT==7)=true then some true else some (pT==8))=some false:=by
  rw[if_neg (by simp; omega)]; congr 1; simp; omega
 rw[hz,Option.bind_some,if_neg (by decide)]
 by_cases h11:pT=11
 ·subst h11
  rw[if_pos (by decide)]
  obtain⟨b,J',o,e,l,n,gd,c,f⟩:=do_Mq g a ha hJ ok
  simp only[e,Option.bind_some]
  exact⟨b,J',o,rfl,l,n,gd,c,fun h=>⟨by omega,fun _=>f h,by omega,by omega,by omega,by omega,by omega,by omega⟩⟩
 rw[if_neg (by simpa using h11)]
 by_cases h14:pT=14∨pT=39∨pT=41
 ·have hz:(if(pT==14)=true then some true else(if(pT==39)=true then some true else some (pT==41)))=some true:=by rcases h14 with rfl | rfl | rfl<;>rfl
  rw[hz,Option.bind_some,if_pos rfl]
  obtain⟨b1,o1,e1,m1,_⟩:=cW g.toG0 a ha ok
  obtain⟨b2,o2,e2,m2,_⟩:=cX g b1 m1.len o1
  simp only[e1,e2,Option.bind_some]
  have m:=m1.trans m2
  exact⟨b2,J,o2,rfl,m.le,m.len,m.good,hJ.mono m.le,fun h=>BeF.plain (by omega) m.ne⟩
 have hz:(if(pT==14)=true then some true else(if(pT==39)=true then some true else some (pT==41)))=some false:=by
  rw[if_neg (by simp; omega),if_neg (by simp; omega)]; congr 1; simp; omega
 rw[hz,Option.bind_some,if_neg (by decide)]
 by_cases h15:pT=15
 ·subst h15
  rw[if_pos (by decide),fq,Option.bind_some]
  cases(ok&&decide (a<t.length))
  ·exact⟨a,J,ok,rfl,Nat.le_refl _,ha,id,hJ,fun h=>BeF.plain (by decide) NS.self⟩
  ·obtain⟨b1,o1,e1,m,_⟩:=d7 g.toG0 a ha ok
   rw[if_pos rfl,e1]
   exact⟨b1,J,o1,rfl,m.le,m.len,m.good,hJ.mono m.le,fun h=>BeF.plain (by decide) m.ne⟩
 rw[if_neg (by simpa using h15)]
 by_cases h16:pT=16∨pT=17
 ·have hz:(if(pT==16)=true then some true else some (pT==17))=some true:=by rcases h16 with rfl | rfl<;>rfl
  rw[hz,Option.bind_some,if_pos rfl]
  obtain⟨b1,o1,e1,l,n,gd,f⟩:=stop_Mo g a ok ha
  rw[e1]
  exact⟨b1,J,o1,rfl,l,n,gd,hJ.mono l,fun h=>⟨fun _=>by
   rcases f with f | f
   ·exact .inl f
   ·exact .inr ⟨h16,f⟩,by omega,by omega,by omega,by omega,by omega,by omega,by omega⟩⟩
 have hz:(if(pT==16)=true then some true else some (pT==17))=some false:=by
  rw[if_neg (by simp; omega)]; congr 1; simp; omega
 rw[hz,Option.bind_some,if_neg (by decide)]
 by_cases h9:pT=9∨pT=43
 ·have ho:g_1s.f t L (a:Int) J ok pT=some ((a:Int),J,ok):=by rcases h9 with rfl | rfl<;>rfl
  rw[ho]
  exact⟨a,J,ok,rfl,Nat.le_refl _,ha,id,hJ,fun h=>⟨fun _=> .inl NS.self,by omega,by omega,by omega,by omega,by omega,by omega,fun _=>rfl⟩⟩
 ·obtain⟨b,J',o,e,m,c⟩:=tM g a ha hJ ok pT
  rw[e]
  exact⟨b,J',o,rfl,m.le,m.len,m.good,c,fun h=>BeF.plain (by omega) m.ne⟩
end
end Go.Proofs.YtcafgoomipkljaaGreatDoorAi
namespace Go.Proofs.YtcafgoomipkljaaGreatDoorAi
open Go Go.RowKit
set_option linter.unusedVariables false
set_option linter.unusedSimpArgs false
def WO:List (List UInt8):=[[],[65,83,83,73,71,78],[71,79,84,79],[71,79,84,79],[71,79,84,79],[73,70],[73,70],[73,70],[69,76,83,69,73,70],[69,76,83,69],[69,78,68,73,70],[68,79],[69,78,68,68,79],[67,79,78,84,73,78,85,69],[67,65,76,76],[82,69,84,85,82,78],[83,84,79,80],[80,65,85,83,69],[82,69,65,68],[87,82,73,84,69],[80,82,73,78,84],[79,80,69,78],[67,76,79,83,69],[73,78,81,85,73,82,69],[66,65,67,75,83,80,65,67,69],[69,78,68,70,73,76,69],[82,69,87,73,78,68],[70,79,82,77,65,84],[73,78,84,69,71,69,82],[68,73,77,69,78,83,73,79,78],[67,79,77,77,79,78],[69,81,85,73,86,65,76,69,78,67,69],[80,65,82,65,77,69,84,69,82],[68,65,84,65],[73,77,80,76,73,67,73,84],[69,88,84,69,82,78,65,76],[73,78,84,82,73,78,83,73,67],[83,65,86,69],[80,82,79,71,82,65,77],[83,85,66,82,79,85,84,73,78,69],[70,85,78,67,84,73,79,78],[69,78,84,82,89],[66,76,79,67,75,68,65,84,65],[69,78,68]]
theorem mL:g_29.f=some WO:=rfl
theorem WO_ok: ∀k:Fin 44,k.val≠0→(0<(WO.getD k.val default).length∧(WO.getD k.val default).length<1000)∧(WO.getD k.val default).contains 61=false:=by decide
structure KF (t:List UInt8) (L:List Int) (k:Nat) (b:Nat):Prop where
 asg:k=0→ ∃p e,0<p∧cy (t.getD 0 default)=true∧(∀i,i<p→cJ (t.getD i default)=true)∧p≤e∧e<b∧NS t L 44 0 b∧L.getD e default=0∧t.getD e default=61∧(e=p∨(t.getD p default=40∧g_1t.f t L (p:Int) true=some ((e:Int),true)))
 typ:k=28→(∃w∈TY,t.take w.length=w)∧NS t L 61 0 b
 fnc:k=40→((∃w∈TY,t.take w.length=w)∨t.take 8= [70,85,78,67,84,73,79,78])∧NS t L 61 0 b
 wrd:k≠0→k≠28→k≠40→t.take (WO.getD k default).length=WO.getD k default∧(WO.getD k default).length≤b∧BeF t L (WO.getD k default).length true k b∧NS t L 61 0 (WO.getD k default).length
section
variable {t:List UInt8} {L:List Int}
theorem kind_Mq (g:GG t L) (k:Nat) (hk:k<44) :
  ∃b J' ok',g_1c.f t L 0 [] true (k:Int)=some (((b:Nat):Int),J',ok')∧b≤t.length∧CK t L b J'∧(ok'=true→KF t L k b):=by
 unfold g_1c.f
 rw[mL,Option.bind_some,if_pos ⟨by omega,by omega,by show(k:Int)<((44:Nat):Int); omega⟩]
 by_cases h0:k=0
 ·subst h0
  rw[if_pos (by decide)]
  obtain⟨b1,o1,e1,m1,c1,f1,s1⟩:=cW g.toG0 0 (Nat.zero_le _) true
  obtain⟨b2,o2,e2,m2,c2⟩:=cX g b1 m1.len o1
  obtain⟨b3,o3,e3,l3,n3,g3,s3⟩:=pa g.toG0 b2 m2.len o2 61
  obtain⟨b4,o4,e4,m4,f4,c4⟩:=d7 g.toG0 b3 n3 o3
  have e1':g_1p.f t L 0 true=some ((b1:Int),o1):=e1
  simp only[e1',e2,e3,e4,Option.bind_some]
  refine⟨b4,[],o4,rfl,m4.len,CK.nil,fun h=>⟨fun _=>?_,by omega,by omega,by omega⟩⟩
  have g3':=m4.good h
  obtain⟨q1,q2,q3⟩:=s3 g3'
  have g2':=g3 g3'
  have g1':=m2.good g2'
  have i2:=m2.le
  have i4:=f4 h
  refine⟨b1,b2,(s1 g1').1,(s1 g1').2,fun i hi=>(f1 i (Nat.zero_le _) hi).2,i2,by omega,?_,q2,q3,?_⟩
  ·refine(c1.trans c2).trans (NS.trans (b:=b3) ?_ c4)
   rw[q1]
   exact NS.one (by rw[q3]; decide)
  ·unfold g_1n.f at e2
   rw[dV g.toG0,Option.bind_some] at e2
   cases hz:(o1&&nx t L b1 fun c=>decide (c=40))
   ·rw[hz,if_neg (by decide)] at e2
    simp only[Option.some.injEq,Prod.mk.injEq] at e2
    exact .inl (by omega)
   ·rw[hz,if_pos rfl] at e2
    rw[Bool.and_eq_true,cw,decide_eq_true_eq] at hz
    refine .inr ⟨hz.2.2.2,?_⟩
    obtain⟨b',o',p1,_⟩:=bB g b1 m1.len o1
    rw[p1,Option.bind_some,g2'] at e2
    rw[g1'] at p1
    rw[p1]; exact e2
 rw[if_neg (by simp; omega)]
 by_cases h28:k=28
 ·subst h28
  rw[if_pos (by decide)]
  obtain⟨is,b1,J1,o1,e1,m1,c1,f1,f2⟩:=eR g.toG0 0 (Nat.zero_le _) (J:=[]) CK.nil true
  have e1':g_1r.f t L 0 [] true=some (is,(b1:Int),J1,o1):=e1
  obtain⟨b2,o2,e2,m2⟩:=tF g b1 (o1&&is) m1.len
  unfold g_1o.f
  simp only[e1',e2,Option.bind_some]
  refine⟨b2,J1,o2,rfl,m2.len,c1.mono m2.le,fun h=>⟨by omega,fun _=>?_,by omega,by omega⟩⟩
  have:=m2.good h
  rw[Bool.and_eq_true] at this
  obtain⟨w,w1,w2,_⟩:=f1 this.2 this.1
  exact⟨⟨w,w1,w2⟩,m1.ne.trans m2.ne⟩
 rw[if_neg (by simp; omega)]
 by_cases h40:k=40
 ·subst h40
  rw[if_pos (by decide)]
  obtain⟨is,b1,J1,o1,e1,m1,c1,f1,f2⟩:=eR g.toG0 0 (Nat.zero_le _) (J:=[]) CK.nil true
  have e1':g_1r.f t L 0 [] true=some (is,(b1:Int),J1,o1):=e1
  obtain⟨b2,J2,o2,e2,m2,c2,w2⟩:=d8 g.toG0 b1 m1.len c1 o1 [70,85,78,67,84,73,79,78] (by decide) (by decide)
  obtain⟨b3,o3,e3,m3,_⟩:=cW g.toG0 b2 m2.len o2
  obtain⟨b4,o4,e4,m4,_⟩:=cX g b3 m3.len o3
  have ew:gt WO ((40:Nat):Int)= [70,85,78,67,84,73,79,78]:=rfl
  simp only[e1',ew,e2,e3,e4,Option.bind_some]
  have m:=m3.trans m4
  refine⟨b4,J2,o4,rfl,m4.len,c2.mono m.le,fun h=>⟨by omega,by omega,fun _=>⟨?_,(m1.ne.trans m2.ne).trans m.ne⟩,by omega⟩⟩
  have g2:=m.good h
  have g1:=m2.good g2
  cases is
  ·obtain⟨rfl,_⟩:=f2 rfl
   exact .inr (w2 g2).1
  ·obtain⟨w,w1,w2,_⟩:=f1 rfl g1
   exact .inl ⟨w,w1,w2⟩
 rw[if_neg (by simp; omega)]
 have hw:=WO_ok ⟨k,hk⟩ h0
 simp only at hw
 obtain⟨b1,J1,o1,e1,m1,c1,w1⟩:=d8 g.toG0 0 (Nat.zero_le _) (J:=[]) CK.nil true (WO.getD k default) hw.1 hw.2
 have e1':g_20.f t L 0 [] true (gt WO (k:Int))=some ((b1:Int),J1,o1):=e1
 obtain⟨b2,J2,o2,e2,l2,n2,g2,c2,f2⟩:=rA g b1 m1.len c1 o1 (k:Int)
 simp only[e1',e2,Option.bind_some]
 refine⟨b2,J2,o2,rfl,n2,c2,fun h=>⟨by omega,by omega,by omega,fun _ _ _=>?_⟩⟩
 have g1:=g2 h
 obtain⟨q1,q2⟩:=w1 g1
 have hb:=f2 h
 have hm:=m1.ne
 rw[show b1=(WO.getD k default).length by omega] at hb hm l2
 rw[g1] at hb
 exact⟨q1,l2,hb,hm⟩
end
end Go.Proofs.YtcafgoomipkljaaGreatDoorAi
namespace Go.Proofs.YtcafgoomipkljaaGreatDoorAi
open Go Go.RowKit
set_option linter.unusedVariables false
set_option linter.unusedSimpArgs false
def cmp (a b:List UInt8):Bool:=decide (a.take b.length=b.take a.length)
theorem iP {t a b:List UInt8} (h1:t.take a.length=a) (h2:t.take b.length=b):cmp a b=true:=by
 unfold cmp
 rw[decide_eq_true_eq]
 conv=>lhs; rw[← h1]
 conv=>rhs; rw[← h2]
 rw[List.take_take,List.take_take,Nat.min_comm]
def FN:List UInt8:=[70,85,78,67,84,73,79,78]
theorem cmp_ty: ∀w∈FN::TY,∀k:Fin 44,k.val≠0→k.val≠28→k.val≠40→cmp w (WO.getD k.val default)=true→k.val=11:=by decide +kernel
theorem cmp_wo: ∀j k:Fin 44,j.val<k.val→j.val≠0→j.val≠6→j.val≠28→j.val≠40→k.val≠6→k.val≠28→k.val≠40→cmp (WO.getD j.val default) (WO.getD k.val default)=true →
  (j.val,k.val)∈ [(2,3),(2,4),(3,4),(5,7),(8,9),(10,43),(12,43),(25,43)]:=by decide +kernel
theorem cmp_if: ∀k:Fin 44,k.val≠0→k.val≠6→k.val≠28→k.val≠40→cmp (WO.getD k.val default) [73,70]=true→k.val=5∨k.val=7:=by decide +kernel
theorem nY: ∀w∈FN::TY,cmp w [73,70]=false:=by decide
theorem tN: ∀k:Fin 44,k.val≠0→k.val≠28→k.val≠40→cmp (WO.getD k.val default) [84,72,69,78]=false:=by decide +kernel
theorem kN: ∀k:Fin 44,k.val≠0→(WO.getD k.val default).all cy=true∧0<(WO.getD k.val default).length:=by decide +kernel
theorem fu {t w:List UInt8} (h:t.take w.length=w) {i:Nat} (hi:i<w.length):t.getD i default=w.getD i default :=
 (mJ (t:=t) (a:=0) (by simpa using h) (Nat.zero_le i) (by omega)).trans (by simp)
theorem mM {w:List UInt8} {p:UInt8→Bool} (h:w.all p=true) {i:Nat} (hi:i<w.length):p (w.getD i default)=true:=by
 rw[List.all_eq_true] at h
 rw[List.getD_eq_getElem?_getD,List.getElem?_eq_getElem hi]
 exact h _ (List.getElem_mem hi)
section
variable {t:List UInt8} {L:List Int}
theorem KF.ne (g:GG t L) {k:Nat} (hk:k<44) (h:KF t L k t.length) (h0:k≠0) (h11:k≠11):NS t L 61 0 t.length∨(∃q,q<t.length∧(∀i,i<q→cy (t.getD i default)=true)∧(t.getD q default=39∨t.getD q default=34)):=by
 by_cases h28:k=28
 ·exact .inl (h.typ h28).2
 by_cases h40:k=40
 ·exact .inl (h.fnc h40).2
 obtain⟨w1,w2,w3,w4⟩:=h.wrd h0 h28 h40
 rcases w3.ne (by omega) with q | ⟨_,q2,q3⟩
 ·exact .inl (w4.trans q)
 ·exact .inr ⟨_,q2,fun i hi=>by rw[fu w1 hi]; exact mM (kN ⟨k,hk⟩ h0).1 hi,q3⟩
theorem jB {c:UInt8} (h:cy c=true):c≠61∧c≠40∧c≠39∧c≠34∧bz c=false:=by
 refine⟨?_,?_,?_,?_,?_⟩
 any_goals (rintro rfl; revert h; decide)
 rw[tv] at h
 rw[Bool.eq_false_iff]
 intro k
 rw[fk] at k
 omega
theorem uniq (g:GG t L) {j k:Nat} (hjk:j<k) (hk:k<44) (j6:j≠6) (k6:k≠6) (hj:KF t L j t.length) (hk':KF t L k t.length):j=28∧k=40:=by
 by_cases j0:j=0
 ·exfalso
  obtain⟨p,e,p1,p2,p3,p4,p5,p6,p7,p8,p9⟩:=hj.asg j0
  by_cases k11:k=11
  ·obtain⟨w1,w2,w3,w4⟩:=hk'.wrd (by omega) (by omega) (by omega)
   obtain⟨⟨c,_,c2,c3,c4⟩,_⟩:=w3.do' (by omega)
   exact p6 c (Nat.zero_le _) c2 ⟨c3,c4⟩
  ·rcases hk'.ne g hk (by omega) k11 with q | ⟨q,q1,q2,q3⟩
   ·exact q e (Nat.zero_le _) p5 ⟨p7,p8⟩
   ·have pc:t.getD p default=61∨t.getD p default=40:=by
     rcases p9 with rfl | p9
     ·exact .inl p8
     ·exact .inr p9.1
    rcases Nat.lt_trichotomy p q with h | h | h
    ·have:=jB (q2 p h)
     rcases pc with c | c
     ·exact this.1 c
     ·exact this.2.1 c
    ·rw[h] at pc
     rcases pc with c | c<;>rw[c] at q3<;>revert q3<;>decide
    ·have:=dD (p3 q h)
     rcases q3 with c | c
     ·exact this.2.2.2.2.1 c
     ·exact this.2.2.2.2.2 c
 -- Types and functions against DO.
 have ty: ∀{w:List UInt8} {m:Nat},w∈FN::TY→t.take w.length=w→m<44→m≠0→m≠28→m≠40→KF t L m t.length→NS t L 61 0 t.length→False:=by
  intro w m hw ht hm m0 m28 m40 hm' ne
  obtain⟨w1,w2,w3,w4⟩:=hm'.wrd m0 m28 m40
  have:=cmp_ty w hw ⟨m,hm⟩ m0 m28 m40 (iP ht w1)
  simp only at this
  obtain⟨_,c,_,c2,c3,c4⟩:=w3.do' (by omega)
  exact ne c (Nat.zero_le _) c2 ⟨c3,c4⟩
 have fn:((∃w∈TY,t.take w.length=w)∨t.take 8= [70,85,78,67,84,73,79,78])→ ∃w,w∈FN::TY∧t.take w.length=w:=by
  rintro(⟨w,w1,w2⟩ | h)
  ·exact⟨w,List.mem_cons_of_mem _ w1,w2⟩
  ·exact⟨FN,List.mem_cons_self,h⟩
 by_cases j28:j=28
 ·refine⟨j28,?_⟩
  refine Decidable.byContradiction fun k40=>?_
  obtain⟨⟨w,w1,w2⟩,ne⟩:=hj.typ j28
  exact ty (List.mem_cons_of_mem _ w1) w2 hk (by omega) (by omega) k40 hk' ne
 exfalso
 by_cases j40:j=40
 ·obtain⟨f,ne⟩:=hj.fnc j40
  obtain⟨w,w1,w2⟩:=fn f
  exact ty w1 w2 hk (by omega) (by omega) (by omega) hk' ne
 by_cases k28:k=28
 ·obtain⟨⟨w,w1,w2⟩,ne⟩:=hk'.typ k28
  exact ty (List.mem_cons_of_mem _ w1) w2 (by omega) j0 j28 j40 hj ne
 by_cases k40:k=40
 ·obtain⟨f,ne⟩:=hk'.fnc k40
  obtain⟨w,w1,w2⟩:=fn f
  exact ty w1 w2 (by omega) j0 j28 j40 hj ne
 obtain⟨u1,u2,u3,u4⟩:=hj.wrd j0 j28 j40
 obtain⟨v1,v2,v3,v4⟩:=hk'.wrd (by omega) k28 k40
 have:=cmp_wo ⟨j,by omega⟩ ⟨k,hk⟩ hjk j0 j6 j28 j40 k6 k28 k40 (iP u1 v1)
 simp only[List.mem_cons,Prod.mk.injEq,List.not_mem_nil,or_false] at this
 rcases this with⟨rfl,rfl⟩ | ⟨rfl,rfl⟩ | ⟨rfl,rfl⟩ | ⟨rfl,rfl⟩ | ⟨rfl,rfl⟩ | ⟨rfl,rfl⟩ | ⟨rfl,rfl⟩ | ⟨rfl,rfl⟩
 ·have a:=u3.go2 rfl
  have b:=v3.go3 rfl
  have e:(WO.getD 2 default).length=(WO.getD 3 default).length:=rfl
  rw[e,b] at a
  revert a; decide
 ·have a:=u3.go2 rfl
  have b:=v3.go4 rfl
  have e:(WO.getD 2 default).length=(WO.getD 4 default).length:=rfl
  rw[e,(jB b).2.2.2.2] at a
  cases a
 ·have a:=u3.go3 rfl
  have b:=v3.go4 rfl
  have e:(WO.getD 3 default).length=(WO.getD 4 default).length:=rfl
  rw[e] at a
  exact(jB b).2.1 a
 ·obtain⟨p,p1,p2⟩:=u3.if5 rfl
  obtain⟨q,q1,q2,_⟩:=v3.if7 rfl
  have e:(WO.getD 5 default).length=(WO.getD 7 default).length:=rfl
  rw[e,q1] at p1
  simp only[Option.some.injEq,Prod.mk.injEq] at p1
  have h0:=mJ (w:=[84,72,69,78]) q2 (Nat.le_refl q) (by show q<q+4; omega)
  rw[show p=q by omega,h0] at p2
  rw[Nat.sub_self] at p2
  revert p2; decide
 ·have:=v3.bare (.inl rfl)
  have e1:(WO.getD 9 default).length=4:=rfl
  have e2:(WO.getD 8 default).length=6:=rfl
  omega
 ·have:=v3.bare (.inr rfl)
  have e1:(WO.getD 43 default).length=3:=rfl
  have e2:(WO.getD 10 default).length=5:=rfl
  omega
 ·have:=v3.bare (.inr rfl)
  have e1:(WO.getD 43 default).length=3:=rfl
  have e2:(WO.getD 12 default).length=5:=rfl
  omega
 ·have:=v3.bare (.inr rfl)
  have e1:(WO.getD 43 default).length=3:=rfl
  have e2:(WO.getD 25 default).length=7:=rfl
  omega
theorem uniqIf (g:GG t L) {k:Nat} (hk:k<44) (k6:k≠6) (hk':KF t L k t.length) {p:Nat} (hif:t.take 2= [73,70]) (hp:g_1t.f t L 2 true=some ((p:Int),true)) (h40:t.getD 2 default=40)
  {L':List Int} {m:Nat} (hm:m≤26) (hm':KF (t.drop p) L' m (t.drop p).length):False:=by
 have i0:t.getD 0 default=73:=fu (w:=[73,70]) hif (by decide)
 have i1:t.getD 1 default=70:=fu (w:=[73,70]) hif (by decide)
 have e0:(t.drop p).getD 0 default=t.getD p default:=by
  rw[List.getD_eq_getElem?_getD,List.getElem?_drop,List.getD_eq_getElem?_getD]; rfl
 have lt:cy (t.getD p default)=true:=by
  rw[← e0]
  by_cases m0:m=0
  ·obtain⟨_,_,_,q,_⟩:=hm'.asg m0
   exact q
  ·obtain⟨w1,w2,_⟩:=hm'.wrd m0 (by omega) (by omega)
   have:=kN ⟨m,by omega⟩ m0
   rw[fu w1 this.2]
   exact mM this.1 this.2
 have ne:=jB lt
 by_cases k0:k=0
 ·obtain⟨q,e,p1,p2,p3,p4,p5,p6,p7,p8,p9⟩:=hk'.asg k0
  have q2:q=2:=by
   have h3: ¬ 2<q:=fun h=>(dD (p3 2 h)).2.2.1 h40
   rcases(show q=1∨q=2 by omega) with h | h
   ·exfalso
    rw[h,i1] at p9
    rcases p9 with h9 | h9
    ·rw[h9,i1] at p8; revert p8; decide
    ·exact absurd h9.1 (by decide)
   ·exact h
  rw[q2] at p9
  rcases p9 with h9 | h9
  ·rw[h9,h40] at p8; revert p8; decide
  ·have:=hp.symm.trans h9.2
   simp only[Option.some.injEq,Prod.mk.injEq] at this
   rw[show p=e by omega] at ne
   exact ne.1 p8
 have fn:((∃w∈TY,t.take w.length=w)∨t.take 8= [70,85,78,67,84,73,79,78])→False:=by
  rintro(⟨w,w1,w2⟩ | h)
  ·have:=iP (b:=[73,70]) w2 hif
   rw[nY w (List.mem_cons_of_mem _ w1)] at this; cases this
  ·have:=iP (a:=FN) (b:=[73,70]) h hif
   rw[nY FN List.mem_cons_self] at this; cases this
 by_cases k28:k=28
 ·exact fn (.inl (hk'.typ k28).1)
 by_cases k40:k=40
 ·exact fn (hk'.fnc k40).1
 obtain⟨u1,u2,u3,u4⟩:=hk'.wrd k0 k28 k40
 rcases cmp_if ⟨k,hk⟩ k0 k6 k28 k40 (iP (b:=[73,70]) u1 hif) with h | h
 ·simp only at h
  subst h
  obtain⟨q,q1,q2⟩:=u3.if5 rfl
  have:=hp.symm.trans q1
  simp only[Option.some.injEq,Prod.mk.injEq] at this
  rw[show p=q by omega,q2] at ne
  exact absurd ne.2.2.2.2 (by decide)
 ·simp only at h
  subst h
  obtain⟨q,q1,q2,q3⟩:=u3.if7 rfl
  have:=hp.symm.trans q1
  simp only[Option.some.injEq,Prod.mk.injEq] at this
  have hpq:p=q:=by omega
  subst hpq
  by_cases m0:m=0
  ·obtain⟨_,e,_,_,_,_,p5,_,_,p8,_⟩:=hm'.asg m0
   rw[List.length_drop] at p5
   have h4:e<4:=by omega
   have:=fu (t:=t.drop p) (w:=[84,72,69,78]) q2 (i:=e) h4
   have all:([84,72,69,78]:List UInt8).all cy=true:=by decide
   have h5:=mM all (i:=e) h4
   rw[← this,p8] at h5
   revert h5; decide
  ·obtain⟨w1,w2,_⟩:=hm'.wrd m0 (by omega) (by omega)
   have:=iP (b:=[84,72,69,78]) w1 q2
   rw[tN ⟨m,by omega⟩ m0 (by simp; omega) (by simp; omega)] at this
   cases this
end
end Go.Proofs.YtcafgoomipkljaaGreatDoorAi
namespace Go.Proofs.YtcafgoomipkljaaGreatDoorAi
open Go Go.RowKit
set_option linter.unusedVariables false
set_option linter.unusedSimpArgs false
section
variable {t:List UInt8} {L:List Int}
theorem jC {x:Int} {J J':List Int} {ok:Bool} (h:g_t.f t x J ok=some J'):J'.length≤J.length+1∧(gt t x=40→J'=J):=by
 unfold g_t.f at h
 rw[dz,Option.bind_some,d6,Option.bind_some] at h
 have e1:cy 40=false:=by decide
 have e2:bz 40=false:=by decide
 repeat' split at h
 all_goals first | (cases h; done) | (simp only[Option.some.injEq] at h; subst h; exact⟨by simp,fun e=>by first | rfl | (exfalso; simp_all)⟩)
theorem tO (g:G0 t L) {a:Nat} (ha:a≤t.length) {J J':List Int} {ok ok':Bool} {w:List UInt8} (hw:w.length<1000) {x:Int} (h:g_20.f t L (a:Int) J ok w=some (x,J',ok')):J'.length≤J.length+1∧(gt t x=40→J'=J):=by
 unfold g_20.f g_1o.f at h
 obtain⟨is,q,_⟩:=eQ g a ha ok w hw
 rw[q,Option.bind_some,Option.bind_some] at h
 split at h
 ·cases hc:g_t.f t (w64 ((a:Int)+(w.length:Int))) J (ok&&is) with
  | none=>rw[hc] at h; cases h
  | some J1 =>
   rw[hc,Option.bind_some] at h
   simp only[Option.some.injEq,Prod.mk.injEq] at h
   obtain⟨rfl,rfl,_⟩:=h
   exact jC hc
 ·simp only[Option.some.injEq,Prod.mk.injEq] at h
  obtain⟨_,rfl,_⟩:=h
  exact⟨by omega,fun _=>rfl⟩
theorem fv (g:G0 t L) {a:Nat} (ha:a≤t.length) {J J':List Int} {ok ok' is:Bool} {x:Int} (h:g_1r.f t L (a:Int) J ok=some (is,x,J',ok')):J'.length≤J.length+1∧(gt t x=40→J'=J):=by
 unfold g_1r.f at h
 rw[qw,Option.bind_some] at h
 cases hi:g_2r.f TY t L (a:Int) ok with
 | none=>rw[hi] at h; cases h
 | some i =>
  rw[hi,Option.bind_some,Option.bind_some] at h
  split at h
  ·simp only[Option.some.injEq,Prod.mk.injEq] at h
   obtain⟨_,_,rfl,_⟩:=h
   exact⟨by omega,fun _=>rfl⟩
  ·split at h
   ·rename_i hlt
    cases hw:g_20.f t L (a:Int) J ok (gt TY i) with
    | none=>rw[hw] at h; cases h
    | some y =>
     obtain⟨y1,y2,y3⟩:=y
     rw[hw,Option.bind_some] at h
     simp only[Option.some.injEq,Prod.mk.injEq] at h
     obtain⟨_,rfl,rfl,_⟩:=h
     refine tO g ha ?_ hw
     have hk:i.toNat<TY.length:=by omega
     show(TY.getD i.toNat default).length<1000
     rw[List.getD_eq_getElem?_getD,List.getElem?_eq_getElem hk]
     exact(qv _ (List.getElem_mem hk)).1.2
   ·cases h
theorem jg (g:GG t L) {a:Nat} (ha:a≤t.length) {J J':List Int} (hJ:CK t L a J) {ok:Bool} {x:Int} (h:g_1f.f t L (a:Int) J ok=some (x,J',true)):J'=J∧ok=true:=by
 unfold g_1f.f g_1o.f at h
 obtain⟨is,b,J1,o1,e1,m1,c1,_⟩:=eR g.toG0 a ha hJ ok
 obtain⟨b2,o2,e2,m2,_,f2,_⟩:=bB g b m1.len (o1&&is)
 simp only[e1,e2,Option.bind_some,Option.some.injEq,Prod.mk.injEq] at h
 obtain⟨_,rfl,rfl⟩:=h
 have:=m2.good rfl
 rw[Bool.and_eq_true] at this
 exact⟨(fv g.toG0 ha e1).2 (f2 rfl).2.2.1,m1.good this.1⟩
theorem rB (g:GG t L): ∀(d a:Nat) (J:List Int) (ok:Bool),a≤t.length→t.length≤a+d→CK t L a J→ ∀{x:Int} {J':List Int},iter (g_1k.b0 t L) ((a:Int),J,ok)=some (x,J',true)→J'=J∧ok=true:=by
 intro d
 induction d with
 | zero =>
  intro a J ok ha hd hJ x J' h
  have:iter (g_1k.b0 t L) ((a:Int),J,ok)=some ((a:Int),J,ok):=ah (by
   unfold g_1k.b0
   simp only[ia g.toG0 a ha]
   have:nx t L a (fun c=>decide (c=44))=false:=by unfold nx; rw[decide_eq_false (by omega)]; rfl
   rw[this]
   cases ok<;>rfl)
  rw[this] at h
  simp only[Option.some.injEq,Prod.mk.injEq] at h
  exact⟨h.2.1.symm,h.2.2⟩
 | succ d ih =>
  intro a J ok ha hd hJ x J' h
  cases ok
  ·have:iter (g_1k.b0 t L) ((a:Int),J,false)=some ((a:Int),J,false):=ah rfl
   rw[this] at h
   simp at h
  ·obtain⟨is,b,h1,h2,h3,h4⟩:=cz g.toG0 a ha true (u:=44) (by decide)
   cases is
   ·obtain rfl:=h4 rfl
    have:iter (g_1k.b0 t L) ((b:Int),J,true)=some ((b:Int),J,true):=ah (by
     unfold g_1k.b0
     simp only[h1,Option.bind_some]
     rfl)
    rw[this] at h
    simp only[Option.some.injEq,Prod.mk.injEq] at h
    exact⟨h.2.1.symm,rfl⟩
   ·obtain⟨_,e,_⟩:=h3 rfl
    obtain⟨b',J1,o1,p1,p2,p3⟩:=eS g b h2.len (hJ.mono h2.le) true
    rw[ak (y:=(((b':Nat):Int),J1,o1)) (by
     unfold g_1k.b0
     simp only[h1,p1,Option.bind_some]
     rfl)] at h
    obtain⟨q1,q2⟩:=ih b' J1 o1 p2.len (by have:=p2.le; omega) p3 h
    subst q2
    exact⟨q1.trans (jg g h2.len (hJ.mono h2.le) p1).1,rfl⟩
theorem pb (g:GG t L) {a:Nat} (ha:a≤t.length) {J J':List Int} (hJ:CK t L a J) {ok:Bool} {x:Int} (h:g_1k.f t L (a:Int) J ok=some (x,J',true)):J'=J:=by
 unfold g_1k.f at h
 obtain⟨b,J1,o,h1,h2,h3⟩:=eS g a ha hJ ok
 obtain⟨b',J2,o',k1,k2,k3⟩:=kM g t.length b J1 o h2.len (by omega) h3
 simp only[h1,k1,Option.bind_some,Option.some.injEq,Prod.mk.injEq] at h
 obtain⟨_,rfl,rfl⟩:=h
 obtain⟨q1,q2⟩:=rB g t.length b J1 o h2.len (by omega) h3 k1
 subst q2
 exact q1.trans (jg g ha hJ h1).1
end
end Go.Proofs.YtcafgoomipkljaaGreatDoorAi
namespace Go.Proofs.YtcafgoomipkljaaGreatDoorAi
open Go Go.RowKit
set_option linter.unusedVariables false
set_option linter.unusedSimpArgs false
section
variable {t:List UInt8} {L:List Int}
def PN (N:Nat) (v:Option (Int×List Int×Bool)):Prop:= ∀x J' o,v=some (x,J',o)→o=true→J'.length≤N
theorem PN.mono {N M:Nat} {v:Option (Int×List Int×Bool)} (h:PN N v) (k:N≤M):PN M v:=fun x J' o e o'=>Nat.le_trans (h x J' o e o') k
theorem PN.ite {N:Nat} {c:Prop} [Decidable c] {X Y:Option (Int×List Int×Bool)} (hx:PN N X) (hy:PN N Y):PN N (if c then X else Y):=by
 split
 ·exact hx
 ·exact hy
theorem PN.bd {N:Nat} {α:Type} {x:Option α} {k:α→Option (Int×List Int×Bool)} (h: ∀y,x=some y→PN N (k y)):PN N (Option.bind x k):=by
 cases x with
 | none=>intro x J' o e; cases e
 | some y=>exact h y rfl
theorem PN.some' {N:Nat} {x:Int} {J:List Int} {o:Bool} (h:J.length≤N):PN N (some (x,J,o)):=fun x' J' o' e _=>by
 simp only[Option.some.injEq,Prod.mk.injEq] at e
 rw[← e.2.1]; exact h
theorem fw {p x:Int} {J J':List Int} {ok ok':Bool} {w:List UInt8} (h:g_20.f t L p J ok w=some (x,J',ok')):J'.length≤J.length+1:=by
 unfold g_20.f g_1o.f at h
 cases hq:g_z.f t L p ok w with
 | none=>rw[hq] at h; cases h
 | some is =>
  rw[hq,Option.bind_some,Option.bind_some] at h
  split at h
  ·cases hc:g_t.f t (w64 (p+(w.length:Int))) J (ok&&is) with
   | none=>rw[hc] at h; cases h
   | some J1 =>
    rw[hc,Option.bind_some] at h
    simp only[Option.some.injEq,Prod.mk.injEq] at h
    rw[← h.2.1]
    exact(jC hc).1
  ·simp only[Option.some.injEq,Prod.mk.injEq] at h
   rw[← h.2.1]; omega
theorem rC (g:GG t L) {a:Nat} (ha:a≤t.length) {J:List Int} (hJ:CK t L a J) (ok:Bool) (pT:Int):PN (J.length+1) (g_1s.f t L (a:Int) J ok pT):=by
 have self: ∀{x:Int} {o:Bool},PN (J.length+1) (some (x,J,o)):=PN.some' (Nat.le_succ _)
 have b1: ∀{x:Option (Int×Bool)},PN (J.length+1) (Option.bind x fun y=>some (y.1,J,y.2)):=PN.bd fun y _=>self
 have l5:PN (J.length+1) (Option.bind (g_1k.f t L (a:Int) J ok) fun y=>some (y.1,y.2.1,y.2.2)):=PN.bd fun y e x J' o h ho=>by
  obtain⟨y1,y2,y3⟩:=y
  simp only[Option.some.injEq,Prod.mk.injEq] at h
  obtain⟨_,rfl,rfl⟩:=h
  rw[ho] at e
  rw[pb g ha hJ e]; omega
 unfold g_1s.f
 refine PN.ite (PN.bd fun _ _=>PN.ite b1 b1) ?_
 refine PN.ite b1 ?_
 refine PN.ite b1 ?_
 refine PN.bd fun _ _=>PN.ite b1 ?_
 refine PN.bd fun _ _=>PN.ite b1 ?_
 refine PN.ite b1 ?_
 refine PN.ite (PN.bd fun _ _=>PN.bd fun _ _=>b1) ?_
 refine PN.ite b1 ?_
 refine PN.ite b1 ?_
 refine PN.ite (PN.bd fun _ _=>PN.ite (PN.ite (PN.bd fun y e=>PN.some' (fw e)) l5) l5) ?_
 refine PN.bd fun _ _=>PN.ite b1 ?_
 refine PN.ite (PN.bd fun _ _=>PN.ite b1 self) ?_
 refine PN.ite b1 ?_
 exact PN.ite (PN.bd fun _ _=>PN.ite b1 self) self
theorem do_num {p:Int} {J:List Int} {ok:Bool}:PN (J.length+1) (g_w.f t L p J ok):=by
 unfold g_w.f
 refine PN.bd fun z1 e=>?_
 have h1:z1.2.1.length≤J.length+1:=by
  cases h4:g_18.f t L p ok with
  | none=>rw[h4] at e; cases e
  | some y6 =>
   rw[h4,Option.bind_some] at e
   split at e
   ·cases h5:g_1d.f t L p ok with
    | none=>rw[h5] at e; cases e
    | some y9 =>
     rw[h5,Option.bind_some] at e
     cases h6:g_1y.f t L y9.1 y9.2 44 with
     | none=>rw[h6] at e; cases e
     | some y11 =>
      rw[h6,Option.bind_some] at e
      split at e
      ·cases h7:g_t.f t y11.2 J y9.2 with
       | none=>rw[h7] at e; cases e
       | some y14 =>
        rw[h7,Option.bind_some] at e
        simp only[Option.some.injEq] at e
        rw[← e]
        exact(jC h7).1
      ·simp only[Option.some.injEq] at e
       rw[← e]; simp
   ·simp only[Option.some.injEq] at e
    rw[← e]; simp
 refine PN.bd fun _ _=>PN.bd fun _ _=>PN.bd fun _ _=>PN.bd fun _ _=>PN.bd fun _ _=>PN.bd fun _ _=>PN.ite (PN.bd fun _ _=>PN.some' h1) (PN.some' h1)
theorem pe (g:GG t L) {a:Nat} (ha:a≤t.length) {J:List Int} (hJ:CK t L a J) (ok:Bool) (pT:Int):PN (J.length+2) (g_r.f t L (a:Int) J ok pT):=by
 have self: ∀{x:Int} {o:Bool},PN (J.length+2) (some (x,J,o)):=PN.some' (by omega)
 have b1: ∀{x:Option (Int×Bool)},PN (J.length+2) (Option.bind x fun y=>some (y.1,J,y.2)):=PN.bd fun y _=>self
 have re: ∀{x:Option (Int×List Int×Bool)},PN (J.length+1) x→PN (J.length+2) (Option.bind x fun y=>some (y.1,y.2.1,y.2.2)):=fun hx=>PN.bd fun y e x J' o h ho=>by
  obtain⟨y1,y2,y3⟩:=y
  simp only[Option.some.injEq,Prod.mk.injEq] at h
  obtain⟨_,rfl,rfl⟩:=h
  have:=hx _ _ _ e ho
  omega
 unfold g_r.f
 refine PN.ite (PN.bd fun _ _=>PN.bd fun y4 e4=>PN.bd fun y10 e10=>PN.bd fun _ _=>PN.some' ?_) ?_
 ·have h1:=(jC e4).1
  have h2:=fw (x:=y10.1) (J':=y10.2.1) (ok':=y10.2.2) e10
  omega
 refine PN.ite b1 ?_
 refine PN.ite (PN.bd fun _ _=>PN.bd fun _ _=>b1) ?_
 refine PN.ite (PN.bd fun _ _=>PN.bd fun _ _=>PN.ite b1 self) ?_
 refine PN.ite (PN.bd fun _ _=>PN.bd fun _ _=>self) ?_
 refine PN.bd fun _ _=>PN.ite (PN.bd fun _ _=>PN.bd fun y e=>PN.some' ?_) ?_
 ·have:=fw (x:=y.1) (J':=y.2.1) (ok':=y.2.2) e
  omega
 refine PN.ite (re do_num) ?_
 refine PN.bd fun _ _=>PN.ite (PN.bd fun _ _=>b1) ?_
 refine PN.ite (PN.bd fun _ _=>PN.ite b1 self) ?_
 refine PN.bd fun _ _=>PN.ite b1 ?_
 exact re (rC g ha hJ ok pT)
theorem tP (g:GG t L) (k:Nat) (hk:k<44):PN 3 (g_1c.f t L 0 [] true (k:Int)):=by
 unfold g_1c.f
 rw[mL,Option.bind_some,if_pos ⟨by omega,by omega,by show(k:Int)<((44:Nat):Int); omega⟩]
 by_cases h0:k=0
 ·subst h0
  rw[if_pos (by decide)]
  exact PN.bd fun _ _=>PN.bd fun _ _=>PN.bd fun _ _=>PN.bd fun _ _=>PN.some' (by simp)
 rw[if_neg (by simp; omega)]
 refine PN.ite (PN.bd fun y e=>PN.bd fun _ _=>PN.bd fun _ _=>PN.some' ?_) ?_
 ·have:=(fv (a:=0) g.toG0 (Nat.zero_le _) (is:=y.1) (x:=y.2.1) (J':=y.2.2.1) (ok':=y.2.2.2) e).1
  simp at this; omega
 refine PN.ite (PN.bd fun y e=>PN.bd fun z e'=>PN.bd fun _ _=>PN.bd fun _ _=>PN.some' ?_) ?_
 ·have h1:=(fv (a:=0) g.toG0 (Nat.zero_le _) (is:=y.1) (x:=y.2.1) (J':=y.2.2.1) (ok':=y.2.2.2) e).1
  have h2:=fw (x:=z.1) (J':=z.2.1) (ok':=z.2.2) e'
  simp at h1; omega
 have hw:=WO_ok ⟨k,hk⟩ h0
 simp only at hw
 obtain⟨b1,J1,o1,e1,m1,c1,_⟩:=d8 g.toG0 0 (Nat.zero_le _) (J:=[]) CK.nil true (WO.getD k default) hw.1 hw.2
 have e1':g_20.f t L 0 [] true (gt WO (k:Int))=some ((b1:Int),J1,o1):=e1
 rw[e1',Option.bind_some]
 have n1:=fw e1'
 have n2:=pe g m1.len c1 o1 (k:Int)
 refine PN.bd fun y e=>?_
 intro x J' o h ho
 obtain⟨y1,y2,y3⟩:=y
 simp only[Option.some.injEq,Prod.mk.injEq] at h
 obtain⟨_,rfl,rfl⟩:=h
 have:=n2 _ _ _ e ho
 simp at n1
 omega
end
end Go.Proofs.YtcafgoomipkljaaGreatDoorAi
namespace Go.Proofs.YtcafgoomipkljaaGreatDoorAi
open Go Go.RowKit
set_option linter.unusedVariables false
set_option linter.unusedSimpArgs false
theorem mN {α:Type} {P l:List α} {d:α} {p k:Nat} (hP:P.length=p) (h:k<p):(P++l).getD k d=P.getD k d:=by
 rw[List.getD_eq_getElem?_getD,List.getElem?_append_left (by omega),List.getD_eq_getElem?_getD]
theorem fy {α:Type} {P l:List α} {d:α} {p k:Nat} (hP:P.length=p):(P++l).getD (p+k) d=l.getD k d:=by
 rw[List.getD_eq_getElem?_getD,List.getElem?_append_right (by omega),List.getD_eq_getElem?_getD,show p+k-P.length=k by omega]
structure Pre (P:List UInt8) (Po:List Bool) (p:Nat):Prop where
 hP:P.length=p
 hPo:Po.length=p
 h0:0<p
 h41:P.getD (p-1) default=41
 hw:Po.getD (p-1) default=false
section
variable {P out:List UInt8} {Po own:List Bool} {p:Nat}
theorem kO (h:Pre P Po p): ∀n,dg (pD (P++out) (Po++own)) (p+n)=p+dg (pD out own) n
 | 0=>by
  obtain⟨q,rfl⟩: ∃q,p=q+1:=⟨p-1,by have:=h.h0; omega⟩
  show dg _ (q+1)=q+1
  unfold dg
  have e:pD (P++out) (Po++own) q=false:=by
   unfold pD
   rw[mN h.hP (by omega),mN h.hPo (by omega)]
   have a:=h.h41; have b:=h.hw
   simp only[Nat.add_sub_cancel] at a b
   rw[a,b]; rfl
  rw[e,if_neg (by decide)]
 | n+1=>by
  show dg _ (p+n+1)=_
  unfold dg
  have e:pD (P++out) (Po++own) (p+n)=pD out own n:=by
   unfold pD
   rw[fy h.hP,fy h.hPo]
  rw[e,kO h n]
  split<;>rfl
theorem iQ (h:Pre P Po p) (sg:List UInt8) (hs:sg.contains 41=false): ∀n,isB (P++out) (Po++own) (p+n) sg=isB out own n sg
 | 0=>by
  obtain⟨q,rfl⟩: ∃q,p=q+1:=⟨p-1,by have:=h.h0; omega⟩
  unfold isB
  show(!((Po++own).getD q default)&&sg.contains ((P++out).getD q default))=false
  rw[mN h.hP (by omega),mN h.hPo (by omega)]
  have a:=h.h41; have b:=h.hw
  simp only[Nat.add_sub_cancel] at a b
  rw[a,b,hs]; rfl
 | n+1=>by
  show(!((Po++own).getD (p+n) default)&&sg.contains ((P++out).getD (p+n) default))=(!(own.getD n default)&&sg.contains (out.getD n default))
  rw[fy h.hP,fy h.hPo]
theorem rD (h:Pre P Po p):hol (P++out) (Po++own)=(hol out own).map (fun b=>p+b):=by
 unfold hol
 simp only
 rw[List.length_append,h.hP,kO h]
 generalize hb:dg (pD out own) out.length=b
 rw[iQ h _ (by decide),iQ h _ (by decide)]
 by_cases c1:b=out.length
 ·rw[if_pos (by omega),if_pos c1]; rfl
 rw[if_neg (by omega),if_neg c1]
 cases h1:isB out own b [40,44,47,61]
 ·simp only[Bool.false_eq_true,if_false]
  cases h2:isB out own b [42]
  ·simp only[Bool.false_eq_true,if_false]; rfl
  ·simp only[if_true]
   have b0:0<b:=by
    rcases Nat.eq_zero_or_pos b with r | r
    ·rw[r] at h2; cases h2
    ·exact r
   rw[show p+b-1=p+(b-1) by omega,kO h,iQ h _ (by decide)]
   by_cases c2:dg (pD out own) (b-1)<b-1∧isB out own (dg (pD out own) (b-1)) [40,44,47,61]=true
   ·rw[if_pos ⟨by omega,c2.2⟩,if_pos c2]; rfl
   ·rw[if_neg (fun k=>c2 ⟨by omega,k.2⟩),if_neg c2]; rfl
 ·simp only[if_true]; rfl
def shC (p:Nat) (c:Int×Int):Int×Int:=(c.1+p,c.2+p)
def sh1 (p:Nat) (x:Int):Int:=x+p
def shR (p:Nat):Except Int (Nat×List UInt8×List Bool×List (Int×Int))→Except Int (Nat×List UInt8×List Bool×List (Int×Int))
 | .error e=> .error e
 | .ok (a',o,w,c)=> .ok (p+a',o,w,c.map (shC p))
theorem tQ (t:List UInt8) (p a:Nat):(t.drop p).getD a default=t.getD (p+a) default:=by
 rw[List.getD_eq_getElem?_getD,List.getElem?_drop,List.getD_eq_getElem?_getD]
theorem rE (h:Pre P Po p) {t:List UInt8} (hp:p≤t.length) (a:Nat) {Pf frm:List Int} (hf:Pf.length=p) (ho:frm.length=out.length) :
  stp t (p+a) (P++out) (Po++own) (Pf++frm.map (sh1 p))=shR p (stp (t.drop p) a out own frm):=by
 unfold stp
 simp only
 rw[tQ,rD h,List.drop_drop,show p+(a+1)=p+a+1 by omega]
 by_cases c1:t.getD (p+a) default=39∨t.getD (p+a) default=34
 ·rw[if_pos c1,if_pos c1]
  cases hx:List.findIdx? (fun x=>x==t.getD (p+a) default) (t.drop (p+a+1)) with
  | none=>rfl
  | some n =>
   simp only[shR,Except.ok.injEq,Prod.mk.injEq]
   refine⟨by omega,?_,trivial,?_⟩
   ·unfold dx; rw[List.drop_drop]
   ·simp only[List.map_cons,List.map_nil,shC,List.cons.injEq,Prod.mk.injEq,and_true]
    exact⟨by omega,by omega⟩
 ·rw[if_neg c1,if_neg c1]
  have e:(if upC (t.getD (p+a) default)=72 then(hol out own).map (fun b=>p+b) else none)=(if upC (t.getD (p+a) default)=72 then hol out own else none).map (fun b=>p+b):=by split<;>rfl
  rw[e]
  have hb: ∀b,(if upC (t.getD (p+a) default)=72 then hol out own else none)=some b→b<out.length:=fun b hb=>by
   split at hb
   ·exact(dT hb).1
   ·cases hb
  cases hx:(if upC (t.getD (p+a) default)=72 then hol out own else none) with
  | none =>
   simp only[Option.map_none]
   split
   ·simp only[shR,List.map_nil,Except.ok.injEq,Prod.mk.injEq]
    first | trivial | exact⟨by omega,trivial,trivial,trivial⟩
   ·simp only[shR,List.map_nil,Except.ok.injEq,Prod.mk.injEq]
    first | trivial | exact⟨by omega,trivial,trivial,trivial⟩
  | some b =>
   have hb:=hb b hx
   simp only[Option.map_some]
   have ed:(P++out).drop (p+b)=out.drop b:=by
    rw[List.drop_append,List.drop_eq_nil_of_le (by have:=h.hP; omega),List.nil_append,h.hP,show p+b-p=b by omega]
   rw[ed,List.length_drop,fy hf]
   have eg:(frm.map (sh1 p)).getD b default=sh1 p (frm.getD b default):=by
    rw[List.getD_eq_getElem?_getD,List.getElem?_map,List.getD_eq_getElem?_getD,List.getElem?_eq_getElem (by omega)]; rfl
   rw[eg]
   generalize cY 0 (out.drop b)=n
   by_cases c2:t.length<p+a+1+n
   ·rw[if_pos c2,if_pos (c:=t.length-p<a+1+n) (by omega)]; rfl
   ·rw[if_neg c2,if_neg (c:=t.length-p<a+1+n) (by omega)]
    split
    ·rfl
    ·simp only[shR,Except.ok.injEq,Prod.mk.injEq]
     refine⟨by omega,?_,trivial,?_⟩
     ·unfold dx; rw[List.drop_drop,show p+(a+1)=p+a+1 by omega]
     ·simp only[List.map_cons,List.map_nil,shC,sh1,List.cons.injEq,Prod.mk.injEq,and_true,true_and]
      omega
def shQ (P:List UInt8) (Pf:List Int) (Po:List Bool) (C:List (Int×Int)) (p:Nat):Except Int (List UInt8×List Int×List Bool×List (Int×Int))→Except Int (List UInt8×List Int×List Bool×List (Int×Int))
 | .error e=> .error e
 | .ok r=> .ok (P++r.1,Pf++r.2.1.map (sh1 p),Po++r.2.2.1,C++r.2.2.2.map (shC p))
theorem qz (p:Nat): ∀(n a:Nat),rng (p+a) n=(rng a n).map (sh1 p)
 | 0,a=>rfl
 | n+1,a=>by
  simp only[rng,List.map_cons]
  rw[show p+a+1=p+(a+1) by omega,qz p n (a+1)]
  congr 1
  unfold sh1; omega
end
theorem lP {P:List UInt8} {Po:List Bool} {p:Nat} (h:Pre P Po p) {t:List UInt8} (hp:p≤t.length) (ht:t.length<10000) {Pf:List Int} (hf:Pf.length=p) (C:List (Int×Int)): ∀(n a:Nat) (out:List UInt8) (frm:List Int) (own:List Bool) (cs:List (Int×Int)),
  eP (t.drop p) a out frm own cs→sqz t n (p+a) (P++out) (Pf++frm.map (sh1 p)) (Po++own) (C++cs.map (shC p))=shQ P Pf Po C p (sqz (t.drop p) n a out frm own cs)
 | 0,a,out,frm,own,cs,hF=>rfl
 | n+1,a,out,frm,own,cs,hF=>by
  unfold sqz
  by_cases c:p+a<t.length
  ·have c':a<(t.drop p).length:=by rw[List.length_drop]; omega
   rw[if_pos c,if_pos c',rE h hp a hf hF.lf]
   cases hs:stp (t.drop p) a out own frm with
   | error e=>rfl
   | ok r =>
    obtain⟨a',o,w,c⟩:=r
    simp only[shR]
    have:=lP h hp ht hf C n a' (out++o) (frm++rng a o.length) (own++w) (cs++c) (cV hF c' hs).2.1
    rw[← this,List.map_append,List.map_append,← qz]
    simp only[List.append_assoc]
  ·rw[if_neg c,if_neg (by rw[List.length_drop]; omega)]
   rfl
theorem nZ {t:List UInt8}: ∀(n m a:Nat) (out:List UInt8) (frm:List Int) (own:List Bool) (cs:List (Int×Int)),eP t a out frm own cs→t.length<a+n→t.length<a+m→sqz t n a out frm own cs=sqz t m a out frm own cs
 | 0,m,a,out,frm,own,cs,h,hn,hm=>absurd h.la (by omega)
 | n+1,0,a,out,frm,own,cs,h,hn,hm=>absurd h.la (by omega)
 | n+1,m+1,a,out,frm,own,cs,h,hn,hm=>by
  unfold sqz
  by_cases c:a<t.length
  ·rw[if_pos c,if_pos c]
   cases hs:stp t a out own frm with
   | error e=>rfl
   | ok r =>
    obtain⟨a',o,w,c'⟩:=r
    obtain⟨k1,k2,_⟩:=cV h c hs
    exact nZ n m a' _ _ _ _ k2 (by omega) (by omega)
  ·rw[if_neg c,if_neg c]
end Go.Proofs.YtcafgoomipkljaaGreatDoorAi
namespace Go.Proofs.YtcafgoomipkljaaGreatDoorAi
open Go Go.RowKit
set_option linter.unusedVariables false
set_option linter.unusedSimpArgs false
theorem qA {t:List UInt8} {a:Nat} {out:List UInt8} {frm:List Int} {own:List Bool} {cs:List (Int×Int)} (h:eP t a out frm own cs) (hl:LtA a frm) (ha:a<t.length) {a':Nat} {o:List UInt8} {w:List Bool} {c:List (Int×Int)} (hs:stp t a out own frm= .ok (a',o,w,c)) :
  (∃i:Nat,i≤a∧c= [((i:Int),(a':Int))])∨(a'=a+1∧c= []∧((o= [upC (t.getD a default)]∧w= [false])∨(o= []∧w= []))):=by
 obtain⟨h1,h2,h3,h4,h5,h6⟩:=h
 unfold stp at hs
 simp only at hs
 split at hs
 ·split at hs
  ·cases hs
  ·simp only[Except.ok.injEq,Prod.mk.injEq] at hs
   obtain⟨rfl,rfl,rfl,rfl⟩:=hs
   exact .inl ⟨a,Nat.le_refl _,rfl⟩
 ·split at hs
  ·rename_i b hb
   have hb':hol out own=some b:=by
    split at hb
    ·exact hb
    ·cases hb
   obtain⟨k1,_,_⟩:=dT hb'
   split at hs
   ·cases hs
   ·split at hs
    ·cases hs
    ·simp only[Except.ok.injEq,Prod.mk.injEq] at hs
     obtain⟨rfl,rfl,rfl,rfl⟩:=hs
     have hm:frm.getD b default∈frm:=by
      rw[List.getD_eq_getElem?_getD,List.getElem?_eq_getElem (by omega)]
      exact List.getElem_mem _
     obtain⟨i,e1,e2⟩:=hl _ hm
     exact .inl ⟨i,by omega,by rw[e1]⟩
  ·split at hs
   ·simp only[Except.ok.injEq,Prod.mk.injEq] at hs
    obtain⟨rfl,rfl,rfl,rfl⟩:=hs
    exact .inr ⟨rfl,rfl,.inr ⟨rfl,rfl⟩⟩
   ·simp only[Except.ok.injEq,Prod.mk.injEq] at hs
    obtain⟨rfl,rfl,rfl,rfl⟩:=hs
    exact .inr ⟨rfl,rfl,.inl ⟨rfl,rfl⟩⟩
theorem n6 {t:List UInt8}: ∀(n a:Nat) (out:List UInt8) (frm:List Int) (own:List Bool) (cs:List (Int×Int)) (r:List UInt8×List Int×List Bool×List (Int×Int)),eP t a out frm own cs→LtA a frm→sqz t n a out frm own cs= .ok r→(∃y,r.2.2.2=cs++y)∧r.1.length+a≤out.length+t.length
 | 0,a,out,frm,own,cs,r,h,hl,hs=>by
  simp only[sqz,Except.ok.injEq] at hs
  subst hs
  exact⟨⟨[],by simp⟩,by have:=h.la; simp only; omega⟩
 | n+1,a,out,frm,own,cs,r,h,hl,hs=>by
  unfold sqz at hs
  split at hs
  ·rename_i ha
   split at hs
   ·cases hs
   ·rename_i a' o w c hst
    obtain⟨k1,k2⟩:=oZ h hl ha hst
    obtain⟨k3,k4,_⟩:=cV h ha hst
    obtain⟨⟨y,q1⟩,q2⟩:=n6 n a' _ _ _ _ r k4 ((hl.mono (by omega)).app (jx o.length k2)) hs
    rw[List.length_append] at q2
    exact⟨⟨c++y,by rw[q1,List.append_assoc]⟩,by omega⟩
  ·simp only[Except.ok.injEq] at hs
   subst hs
   exact⟨⟨[],by simp⟩,by have:=h.la; simp only; omega⟩
theorem tR {t:List UInt8} {p:Nat} (hp:p≤t.length) (h41:t.getD (p-1) default=41): ∀(n a:Nat) (out:List UInt8) (frm:List Int) (own:List Bool) (cs:List (Int×Int)) (r:List UInt8×List Int×List Bool×List (Int×Int)),
  eP t a out frm own cs→LtA a frm→InT a cs→a<p→out.length=a→t.length<a+n→sqz t n a out frm own cs= .ok r→r.1.length=t.length→(∀c∈r.2.2.2,¬ (c.1≤((p-1:Nat):Int)∧((p-1:Nat):Int)<c.2)) →
  ∃m out1 frm1 own1 C1,eP t p out1 frm1 own1 C1∧out1.length=p∧own1.getD (p-1) default=false∧out1.getD (p-1) default=41∧InT p C1∧t.length<p+m∧sqz t m p out1 frm1 own1 C1= .ok r
 | 0,a,out,frm,own,cs,r,h,hl,hi,hap,ho,hn,hs,hr,hc=>absurd h.la (by omega)
 | n+1,a,out,frm,own,cs,r,h,hl,hi,hap,ho,hn,hs,hr,hc=>by
  unfold sqz at hs
  rw[if_pos (by omega)] at hs
  split at hs
  ·cases hs
  ·rename_i a' o w c hst
   obtain⟨k1,k2⟩:=oZ h hl (by omega) hst
   obtain⟨k3,k4,k5⟩:=cV h (by omega) hst
   have hl':=(hl.mono (Nat.le_of_lt k3)).app (jx o.length k2)
   obtain⟨⟨y,q1⟩,q2⟩:=n6 n a' _ _ _ _ r k4 hl' hs
   rw[List.length_append] at q2
   have eo:o.length=a'-a:=by omega
   have hi':InT a' (cs++c):=by
    refine InT.app (fun x hx=>?_) (fun x hx=>?_)
    ·obtain⟨i,m,e1,e2⟩:=hi x hx
     exact⟨i,m,e1,by omega⟩
    ·rcases qA h hl (by omega) hst with⟨i,i1,rfl⟩ | ⟨_,rfl,_⟩
     ·rw[List.mem_singleton] at hx
      exact⟨i,a'-i,by rw[hx,show i+(a'-i)=a' by omega],by omega⟩
     ·cases hx
   by_cases hlt:a'<p
   ·exact tR hp h41 n a' _ _ _ _ r k4 hl' hi' hlt (by rw[List.length_append]; omega) (by omega) hs hr hc
   ·rcases qA h hl (by omega) hst with⟨i,i1,rfl⟩ | ⟨e1,rfl,e2⟩
    ·exfalso
     refine hc _ (by rw[q1]; simp only[List.mem_append,List.mem_singleton]; exact .inl (.inr rfl)) ⟨?_,?_⟩
     ·simp only; omega
     ·simp only; omega
    ·obtain rfl:p=a+1:=by omega
     subst e1
     simp only[Nat.add_sub_cancel] at h41
     rcases e2 with⟨rfl,rfl⟩ | ⟨rfl,rfl⟩
     ·refine⟨n,_,_,_,_,k4,by rw[List.length_append]; simp; omega,?_,?_,hi',by omega,hs⟩
      ·simp only[Nat.add_sub_cancel]
       have:=fy (P:=own) (l:=[false]) (d:=default) (p:=a) (k:=0) (by have:=h.lw; omega)
       rw[Nat.add_zero] at this
       rw[this]; rfl
      ·simp only[Nat.add_sub_cancel]
       have:=fy (P:=out) (l:=[upC (t.getD a default)]) (d:=default) (p:=a) (k:=0) ho
       rw[Nat.add_zero] at this
       rw[this,h41]; rfl
     ·simp at eo
theorem gu: ∀(n i q:Nat) (l:List Bool),(i≤q∧q<i+n∧q<l.length)∨l.getD q default=true→(dy l i n).getD q default=true
 | 0,i,q,l,h=>by
  rcases h with h | h
  ·omega
  ·exact h
 | n+1,i,q,l,h=>by
  unfold dy
  apply gu n
  rcases h with h | h
  ·by_cases e:q=i
   ·right
    rw[List.getD_eq_getElem?_getD,e,List.getElem?_set_self (by omega)]; rfl
   ·left
    rw[List.length_set]; omega
  ·right
   by_cases e:q=i
   ·have hq:q<l.length:=by
     apply Decidable.byContradiction
     intro hq
     rw[List.getD_eq_getElem?_getD,List.getElem?_eq_none (by omega)] at h
     cases h
    rw[List.getD_eq_getElem?_getD,e,List.getElem?_set_self (by omega)]; rfl
   ·rw[List.getD_eq_getElem?_getD,List.getElem?_set_ne (by omega),← List.getD_eq_getElem?_getD]; exact h
theorem n7: ∀(cs:List (Int×Int)) (q:Nat) (l:List Bool),q<l.length→(l.getD q default=true∨ ∃c∈cs,0≤c.1∧c.1≤(q:Int)∧(q:Int)<c.2)→(mks cs l).getD q default=true
 | [],q,l,hq,h=>by
  rcases h with h | ⟨c,hc,_⟩
  ·exact h
  ·cases hc
 | c::cs,q,l,hq,h=>by
  unfold mks
  apply n7 cs q _ (by rw[fI]; exact hq)
  rcases h with h | ⟨x,hx,h1,h2,h3⟩
  ·exact .inl (gu _ _ _ _ (.inr h))
  ·rcases List.mem_cons.1 hx with rfl | hx
   ·exact .inl (gu _ _ _ _ (.inl ⟨by omega,by omega,hq⟩))
   ·exact .inr ⟨x,hx,h1,h2,h3⟩
theorem n8 (p:Nat): ∀(n i:Nat) (l:List Bool),i+n≤p→(dy l i n).drop p=l.drop p
 | 0,_,_,_=>rfl
 | n+1,i,l,h=>by
  unfold dy
  rw[n8 p n (i+1) _ (by omega),List.drop_set,if_pos (by omega)]
theorem n9 (p:Nat): ∀(n i:Nat) (l:List Bool),(dy l (p+i) n).drop p=dy (l.drop p) i n
 | 0,_,_=>rfl
 | n+1,i,l=>by
  unfold dy
  rw[Nat.add_assoc,n9 p n (i+1),List.drop_set,if_neg (by omega),show p+i-p=i by omega]
theorem tS {p:Nat}: ∀(cs:List (Int×Int)) (l:List Bool),InT p cs→(mks cs l).drop p=l.drop p
 | [],_,_=>rfl
 | c::cs,l,h=>by
  unfold mks
  rw[tS cs _ (fun x hx=>h x (List.mem_cons_of_mem _ hx))]
  obtain⟨i,n,e1,e2⟩:=h c List.mem_cons_self
  rw[n8 p _ _ _ (by rw[e1]; simp only; omega)]
theorem tT {p len:Nat}: ∀(cs:List (Int×Int)) (l:List Bool),InT len cs→(mks (cs.map (shC p)) l).drop p=mks cs (l.drop p)
 | [],_,_=>rfl
 | c::cs,l,h=>by
  simp only[List.map_cons]
  unfold mks
  rw[tT cs _ (fun x hx=>h x (List.mem_cons_of_mem _ hx))]
  obtain⟨i,n,e1,e2⟩:=h c List.mem_cons_self
  have a1:(shC p c).1.toNat=p+i:=by rw[e1]; unfold shC; simp only; omega
  have a2:((shC p c).2-(shC p c).1).toNat=n:=by rw[e1]; unfold shC; simp only; omega
  have a3:c.1.toNat=i:=by rw[e1]; simp only; omega
  have a4:(c.2-c.1).toNat=n:=by rw[e1]; simp only; omega
  rw[a1,a2,a3,a4,n9]
theorem oa (c:Int×Int) (cs:List (Int×Int)) (l:List Bool):mks (c::cs) l=mks cs (dy l c.1.toNat (c.2-c.1).toNat):=rfl
theorem qB: ∀(a b:List (Int×Int)) (l:List Bool),mks (a++b) l=mks b (mks a l)
 | [],_,_=>rfl
 | c::a,b,l=>by
  rw[List.cons_append,oa,oa]
  exact qB a b _
def cnt:List (Bool×UInt8)→Int→Int
 | [],n=>n
 | (m,c)::r,n=>if m=true then cnt r n else cnt r (if c=40 then(if c=41 then n-1 else n)+1 else(if c=41 then n-1 else n))
theorem eE (m:Bool) (c:UInt8) (r:List (Bool×UInt8)) (n:Int):lvl ((m,c)::r) n=if m=true then -1::lvl r n else(if c=41 then n-1 else n)::lvl r (if c=40 then(if c=41 then n-1 else n)+1 else(if c=41 then n-1 else n)):=rfl
theorem eF (m:Bool) (c:UInt8) (r:List (Bool×UInt8)) (n:Int):cnt ((m,c)::r) n=if m=true then cnt r n else cnt r (if c=40 then(if c=41 then n-1 else n)+1 else(if c=41 then n-1 else n)):=rfl
theorem jD: ∀(a b:List (Bool×UInt8)) (n:Int),lvl (a++b) n=lvl a n++lvl b (cnt a n)
 | [],_,_=>rfl
 | (m,c)::a,b,n=>by
  rw[List.cons_append,eE,eE,eF]
  split
  ·rw[jD a b]; rfl
  ·rw[jD a b]; rfl
theorem ib: ∀(a b:List (Bool×UInt8)) (n:Int),cnt (a++b) n=cnt b (cnt a n)
 | [],_,_=>rfl
 | (m,c)::a,b,n=>by
  rw[List.cons_append,eF,eF]
  split
  ·exact ib a b _
  ·exact ib a b _
theorem ic: ∀(z:List (Bool×UInt8)) (k:Nat) (o o':List Int),chk z k o= .inr o'→cnt z (o.length:Int)=(o'.length:Int)
 | [],k,o,o',h=>by
  simp only[chk,Sum.inr.injEq] at h
  rw[h]; rfl
 | (m,c)::r,k,o,o',h=>by
  unfold chk at h
  unfold cnt
  split at h
  ·rename_i hm
   rw[if_pos hm]
   exact ic r _ o o' h
  ·rename_i hm
   rw[if_neg hm]
   split at h
   ·rename_i hc
    rw[if_pos hc,if_neg (by rw[hc]; decide)]
    have:=ic r _ _ o' h
    rw[List.length_append] at this
    rw[← this]; rfl
   ·rename_i hc
    rw[if_neg hc]
    split at h
    ·rename_i hd
     rw[if_pos hd]
     split at h
     ·cases h
     ·rename_i ho
      have:=ic r _ _ o' h
      rw[List.length_dropLast] at this
      have h0:0<o.length:=List.length_pos_iff.2 ho
      rw[show(o.length:Int)-1=((o.length-1:Nat):Int) by omega]
      exact this
    ·rename_i hd
     rw[if_neg hd]
     exact ic r _ o o' h
theorem oc: ∀(z:List (Bool×UInt8)) (n:Int),1≤n→cnt z n=0→ ∃j,j<z.length∧(lvl z n).getD j default=0∧(z.getD j default).2=41∧ ∀k,k<j→(lvl z n).getD k default≠0
 | [],n,h1,h2=>by
  simp only[cnt] at h2
  omega
 | (m,c)::r,n,h1,h2=>by
  have go: ∀(x n':Int),x≠0→1≤n'→cnt r n'=0→ ∃j,j<((m,c)::r).length∧(x::lvl r n').getD j default=0∧(((m,c)::r).getD j default).2=41∧ ∀k,k<j→(x::lvl r n').getD k default≠0:=fun x n' hx hn' hc=>by
   obtain⟨j,j1,j2,j3,j4⟩:=oc r n' hn' hc
   refine⟨j+1,by simp only[List.length_cons]; omega,j2,j3,fun k hk=>?_⟩
   cases k with
   | zero=>exact hx
   | succ k=>exact j4 k (by omega)
  unfold cnt at h2
  unfold lvl
  split at h2
  ·rename_i hm
   rw[if_pos hm]
   exact go _ _ (by decide) h1 h2
  ·rename_i hm
   rw[if_neg hm]
   by_cases hd:c=41
   ·have h40:c≠40:=by rw[hd]; decide
    rw[if_pos hd,if_neg h40] at h2 ⊢
    by_cases h1':n=1
    ·refine⟨0,by simp,?_,hd,fun k hk=>by omega⟩
     rw[h1']; rfl
    ·exact go _ _ (by omega) (by omega) h2
   ·rw[if_neg hd] at h2 ⊢
    refine go _ _ (by omega) ?_ h2
    split<;>omega
structure Vd (t:List UInt8):Prop where
 sq: ∃r,SQ t= .ok r∧r.1=t
 bal:cnt (ZZ t) 0=0
theorem Vd.of {t:List UInt8} (h:(CT t).2=0):Vd t:=by
 unfold CT at h
 cases hs:SQ t with
 | error e=>rw[hs] at h; exact absurd h (mC hs)
 | ok r =>
  rw[hs] at h
  simp only at h
  split at h
  ·cases h
  ·split at h
   ·cases h
   ·rename_i h1 h2
    refine⟨⟨r,hs,Decidable.byContradiction h2⟩,?_⟩
    split at h
    ·cases h
    ·rename_i o ho
     split at h
     ·rename_i ho'
      have:=ic _ _ _ _ ho
      rw[ho'] at this
      exact this
     ·cases h
theorem Vd.len {t:List UInt8} (h:Vd t):t.length<10000:=by
 obtain⟨r,h1,_⟩:=h.sq
 have:=oY h1
 omega
theorem jE {α:Type} {P l:List α} {d:α} {p:Nat} (hP:P.length=p):(P++l).getD p d=l.getD 0 d:=by
 rw[List.getD_eq_getElem?_getD,List.getElem?_append_right (by omega),List.getD_eq_getElem?_getD,show p-P.length=0 by omega]
theorem kP {t:List UInt8} {i:Nat} (hi:i<t.length):ZZ t=(ZZ t).take i++((MK t).getD i default,t.getD i default)::(ZZ t).drop (i+1):=by
 rw[← jz hi,List.take_append_drop]
theorem od {t:List UInt8} {i:Nat} (hi:i<t.length):LV t=lvl ((ZZ t).take i) 0++lvl (((MK t).getD i default,t.getD i default)::(ZZ t).drop (i+1)) (cnt ((ZZ t).take i) 0):=by
 unfold LV
 conv=>lhs; rw[kP hi]
 rw[jD]
theorem ie {t:List UInt8} {i:Nat} (hi:i<t.length):(lvl ((ZZ t).take i) 0).length=i:=by
 rw[jy,List.length_take,dU]; omega
theorem lQ {t:List UInt8} {i:Nat} (hi:i<t.length) (h:(LV t).getD i default=0):(MK t).getD i default=false:=by
 cases hm:(MK t).getD i default
 ·rfl
 ·exfalso
  rw[od hi] at h
  rw[jE (ie hi),hm,eE,if_pos rfl] at h
  have h:(-1:Int)=0:=h
  omega
theorem Vd.par {t:List UInt8} (h:Vd t):GG t (LV t):=by
 refine⟨⟨h.len,mG t⟩,fun i hi h0 h40=>?_⟩
 have hm:=lQ hi h0
 have hb:=h.bal
 rw[kP hi,ib,hm,h40] at hb
 rw[od hi,hm,h40] at h0
 rw[jE (ie hi)] at h0
 rw[eE] at h0
 rw[eF] at hb
 rw[if_neg (by decide),if_neg (by decide)] at h0
 rw[if_neg (by decide),if_pos rfl,if_neg (by decide)] at hb
 have hc:cnt ((ZZ t).take i) 0=0:=h0
 rw[hc] at hb
 obtain⟨j,j1,j2,j3,j4⟩:=oc _ _ (by decide) hb
 have eL:LV t=(lvl ((ZZ t).take i) 0++ [0])++lvl ((ZZ t).drop (i+1)) (0+1):=by
  rw[od hi,hm,h40,hc,List.append_assoc]
  rfl
 have pl:(lvl ((ZZ t).take i) 0++ [(0:Int)]).length=i+1:=by rw[List.length_append,ie hi]; rfl
 rw[List.length_drop,dU] at j1
 have at': ∀k,(LV t).getD (i+1+k) default=(lvl ((ZZ t).drop (i+1)) (0+1)).getD k default:=fun k=>by rw[eL,fy pl]
 refine⟨i+1+j,by omega,by omega,by rw[at']; exact j2,?_,fun k k1 k2=>?_⟩
 ·rw[drop_getZ (by omega)] at j3
  exact j3
 ·have:=j4 (k-(i+1)) (by omega)
  rw[← at',show i+1+(k-(i+1))=k by omega] at this
  exact this
where
 drop_getZ {t:List UInt8} {i j:Nat} (h:i+j<t.length):((ZZ t).drop i).getD j default=((MK t).getD (i+j) default,t.getD (i+j) default):=by
  have e:((ZZ t).drop (i+j))[0]? = some ((MK t).getD (i+j) default,t.getD (i+j) default):=by rw[jz h]; rfl
  rw[List.getElem?_drop] at e
  rw[List.getD_eq_getElem?_getD,List.getElem?_drop]
  exact(congrArg (fun o=>Option.getD o default) e)
end Go.Proofs.YtcafgoomipkljaaGreatDoorAi
namespace Go.Proofs.YtcafgoomipkljaaGreatDoorAi
open Go Go.RowKit
set_option linter.unusedVariables false
set_option linter.unusedSimpArgs false
theorem rF {t:List UInt8} (h:fO t=0) (p:Nat):fO (t.drop p)=0:=by
 unfold fO at h ⊢
 split at h
 ·cases h
 ·rename_i h1
  split at h
  ·rename_i h2
   rw[if_neg (by rw[List.length_drop]; omega),if_pos]
   rw[List.all_eq_true] at h2 ⊢
   exact fun x hx=>h2 x (List.mem_of_mem_drop hx)
  ·cases h
theorem Vd.drop2 {t:List UInt8} (h:Vd t) {p:Nat} (h0:0<p) (hp:p<t.length) (hL:(LV t).getD (p-1) default=0) (h41:t.getD (p-1) default=41):Vd (t.drop p)∧LV (t.drop p)=(LV t).drop p:=by
 have hlen:=h.len
 have hm:=lQ (by omega) hL
 obtain⟨r,hs,hr⟩:=h.sq
 have hcs:CS t=r.2.2.2:=by unfold CS; rw[hs]
 have hin:=tq hs
 have hs':=hs
 unfold SQ at hs'
 split at hs'
 ·cases hs'
 ·rename_i he
  have he:fO t=0:=Decidable.byContradiction he
  obtain⟨m,P,Pf,Po,C,hF,hP,hw,h41',hC,hmm,hq⟩:=tR (p:=p) (by omega) h41 (t.length+1) 0 [] [] [] [] r ⟨by omega,Nat.zero_le _,Nat.le_refl _,rfl,rfl,Nat.le_refl _⟩ (fun x hx=>by cases hx) (fun x hx=>by cases hx) h0 rfl (by omega) hs' (by rw[hr]) (fun c hc hx=>by
   have:(MK t).getD (p-1) default=true:=n7 _ _ _ (by rw[List.length_replicate]; omega) (.inr ⟨c,by rw[hcs]; exact hc,by
    obtain⟨i,n,e1,_⟩:=hin c hc
    rw[e1]; simp only; omega,hx.1,hx.2⟩)
   rw[hm] at this; cases this)
  have pre:Pre P Po p:=⟨hP,by rw[← hP]; exact hF.lw,h0,h41',hw⟩
  have hPf:Pf.length=p:=by rw[← hP]; exact hF.lf
  have hf0:eP (t.drop p) 0 [] [] [] []:=⟨by rw[List.length_drop]; omega,Nat.zero_le _,Nat.le_refl _,rfl,rfl,Nat.le_refl _⟩
  have sh:=lP pre (t:=t) (by omega) hlen hPf C m 0 [] [] [] [] hf0
  rw[Nat.add_zero,List.append_nil,List.map_nil,List.append_nil,List.append_nil,List.map_nil,List.append_nil,hq] at sh
  have fuel:=nZ (t:=t.drop p) m ((t.drop p).length+1) 0 [] [] [] [] hf0 (by rw[List.length_drop]; omega) (by omega)
  rw[fuel] at sh
  have hsq:SQ (t.drop p)=sqz (t.drop p) ((t.drop p).length+1) 0 [] [] [] []:=by
   unfold SQ
   rw[if_neg (by rw[rF he]; decide)]
  rw[← hsq] at sh
  cases hz:SQ (t.drop p) with
  | error e=>rw[hz] at sh; cases sh
  | ok r' =>
   rw[hz] at sh
   simp only[shQ,Except.ok.injEq] at sh
   have e1:r.1=P++r'.1:=by rw[sh]
   have e2:r.2.2.2=C++r'.2.2.2.map (shC p):=by rw[sh]
   have hr':r'.1=t.drop p:=by
    rw[← hr,e1,List.drop_append,List.drop_eq_nil_of_le (by omega),List.nil_append,hP,Nat.sub_self,List.drop_zero]
   have hcs':CS (t.drop p)=r'.2.2.2:=by unfold CS; rw[hz]
   have mk:MK (t.drop p)=(MK t).drop p:=by
    unfold MK
    rw[hcs,hcs',e2,qB,tT (len:=(t.drop p).length) _ _ (tq hz),tS C _ hC,List.drop_replicate,List.length_drop]
   have zz:ZZ (t.drop p)=(ZZ t).drop p:=by
    unfold ZZ
    rw[mk]
    exact(List.drop_zipWith (f:=Prod.mk) (l:=MK t) (l':=t) (i:=p)).symm
   have hb:=h.bal
   rw[← List.take_append_drop p (ZZ t),ib] at hb
   have c0:cnt ((ZZ t).take p) 0=0:=by
    obtain⟨q,rfl⟩: ∃q,p=q+1:=⟨p-1,by omega⟩
    simp only[Nat.add_sub_cancel] at hL h41 hm
    have hq':q<t.length:=by omega
    rw[od hq',jE (ie hq'),hm,h41,eE,if_neg (by decide),if_pos rfl] at hL
    have hL:cnt ((ZZ t).take q) 0-1=0:=hL
    have et:(ZZ t).take (q+1)=(ZZ t).take q++ [((MK t).getD q default,t.getD q default)]:=by
     conv=>lhs; rw[kP hq']
     rw[List.take_append,List.take_of_length_le (by rw[List.length_take,dU]; omega),List.length_take,dU,show q+1-min q t.length=1 by omega]
     rfl
    rw[et,ib,hm,h41,eF,if_neg (by decide),if_neg (by decide),if_pos rfl]
    exact hL
   rw[c0] at hb
   refine⟨⟨⟨r',hz,hr'⟩,by rw[zz]; exact hb⟩,?_⟩
   have e:LV t=lvl ((ZZ t).take p) 0++lvl ((ZZ t).drop p) 0:=by
    unfold LV
    conv=>lhs; rw[← List.take_append_drop p (ZZ t)]
    rw[jD,c0]
   have pl:(lvl ((ZZ t).take p) 0).length=p:=by rw[jy,List.length_take,dU]; omega
   rw[e,List.drop_left' pl]
   unfold LV
   rw[zz]
theorem Vd.drop {t:List UInt8} (h:Vd t) {p:Nat} (h0:0<p) (hp:p<t.length) (hL:(LV t).getD (p-1) default=0) (h41:t.getD (p-1) default=41):Vd (t.drop p):=(h.drop2 h0 hp hL h41).1
end Go.Proofs.YtcafgoomipkljaaGreatDoorAi
namespace Go.Proofs.YtcafgoomipkljaaGreatDoorAi
open Go Go.RowKit
set_option linter.unusedVariables false
set_option linter.unusedSimpArgs false
abbrev RD:Type:=Int×Int×List Int
theorem inner_f {t:List UInt8} (h:Vd t): ∃(a:Nat) (is:Bool),g_j.f t=some ((a:Int),is)∧(is=true→t.take 2= [73,70]∧g_1t.f t (LV t) 2 true=some ((a:Int),true)∧t.getD 2 default=40∧3<a∧a<t.length∧(LV t).getD (a-1) default=0∧t.getD (a-1) default=41):=by
 have g:=h.par
 unfold g_j.f
 rw[eT h.len,Option.bind_some]
 obtain⟨b,J,o,e1,m1,c1,w1⟩:=d8 g.toG0 0 (Nat.zero_le _) (J:=[]) CK.nil true [73,70] (by decide) (by decide)
 have e1':g_20.f t (LV t) 0 [] true [73,70]=some ((b:Int),J,o):=e1
 obtain⟨a,o2,e2,m2,_,f2,_⟩:=bB g b m1.len o
 simp only[e1',e2,Option.bind_some]
 cases o2
 ·exact⟨a,false,rfl,(fun h=>by cases h)⟩
 ·have o1:=m2.good rfl
  obtain⟨w2,w3⟩:=w1 o1
  obtain⟨p1,p2,p3,p4,p5⟩:=f2 rfl
  have hb:b=2:=by rw[w3]; rfl
  subst hb
  rw[o1] at e2
  refine⟨a,decide (a<t.length),?_,fun hd=>?_⟩
  ·rw[if_pos rfl]
   congr 2
   exact decide_eq_decide.2 (by omega)
  ·rw[decide_eq_true_eq] at hd
   exact⟨w2,e2,p3,by omega,hd,p4,p5⟩
def inK (k:Int):Bool:=(decide (0≤k)&&decide (k≤26)&&(k != 6))&& !(decide (7≤k)&&decide (k≤12))
theorem mO (k:Int):g_21.f k=some (inK k):=by
 unfold g_21.f g_28.f inK
 rw[Option.bind_some]
 cases(decide ((0:Int)≤k)&&decide (k≤26)&&(k != 6))
 ·rfl
 ·rfl
def CC (t:List UInt8) (J:List Int):Prop:=CK t (LV t) t.length J∧J.length≤3
theorem CC.small {t:List UInt8} {J:List Int} (h:CC t J) (hl:t.length<10000): ∀x∈J,∃n:Nat,x=(n:Int)∧n<10000:=fun x hx=>by
 obtain⟨n,n1,n2,n3,_⟩:=h.1.at1 x hx
 exact⟨n+1,n1,by omega⟩
theorem CC.shift {t:List UInt8} {a:Nat} (ha:a≤t.length) (hL:LV (t.drop a)=(LV t).drop a) {J:List Int} (h:CC (t.drop a) J):CC t (J.map (sh1 a)):=by
 refine⟨⟨?_,fun c hc=>?_,?_⟩,by rw[List.length_map]; exact h.2⟩
 ·rw[List.pairwise_map]
  exact h.1.asc.imp (fun hxy=>by unfold sh1; omega)
 ·obtain⟨x,hx,rfl⟩:=List.mem_map.1 hc
  obtain⟨n,n1,n2,n3,n4⟩:=h.1.at1 x hx
  rw[List.length_drop] at n2 n3
  refine⟨n+a,by unfold sh1; omega,by omega,by omega,?_⟩
  rw[hL,List.getD_eq_getElem?_getD,List.getElem?_drop,show a+n=n+a by omega] at n4
  rw[List.getD_eq_getElem?_getD]; exact n4
 ·have:=h.1.num
  rw[List.length_drop] at this
  rw[List.length_map]; omega
theorem jh {a:Nat} (ha:a<10000) (bo:Bool) (y7:List RD) (x15:List RD×Int) {c:List Int} (hc:(gt y7 x15.2).2.2=c) (hl:c.length<100000) (hr: ∀x∈c,∃n:Nat,x=(n:Int)∧n<10000): ∀(d k:Nat) (acc:List Int),k+d=c.length→acc.length≤k →
  iter (g_n.b1 ((a:Int),bo) y7 x15) ((k:Int),acc)=some ((c.length:Int),acc++(c.drop k).map (sh1 a))
 | 0,k,acc,h,ha'=>by
  rw[List.drop_eq_nil_of_le (by omega),List.map_nil,List.append_nil]
  exact ah (by
   unfold g_n.b1
   rw[hc]
   simp only
   rw[if_neg (by simp; omega),show k=c.length by omega])
 | d+1,k,acc,h,ha'=>by
  have hk:k<c.length:=by omega
  have ek:c.drop k=c.getD k default::c.drop (k+1):=by
   rw[List.drop_eq_getElem_cons hk,List.getD_eq_getElem?_getD,List.getElem?_eq_getElem hk]; rfl
  obtain⟨n,n1,n2⟩:=hr (c.getD k default) (by rw[List.getD_eq_getElem?_getD,List.getElem?_eq_getElem hk]; exact List.getElem_mem hk)
  have h1:=jh ha bo y7 x15 hc hl hr d (k+1) (acc++ [sh1 a (c.getD k default)]) (by omega) (by simp; omega)
  rw[ak (y:=(((k+1:Nat):Int),acc++ [sh1 a (c.getD k default)])) ?_,h1,ek,List.map_cons,List.append_assoc]
  ·rfl
  unfold g_n.b1
  rw[hc]
  simp only
  rw[if_pos (decide_eq_true (by omega)),if_pos ⟨by omega,by omega⟩,if_pos (by simp; omega),aq (by omega) (by omega),aB,aq (by rw[n1]; omega) (by rw[n1]; omega)]
  rfl
theorem pf {a:Nat} (hA:a<10000) (bo:Bool) (y7:List RD) {i:Nat} (hi:i<y7.length) (hl:y7.length<1000) (hc:(y7.getD i default).2.2.length<100000) (hr: ∀x∈(y7.getD i default).2.2,∃n:Nat,x=(n:Int)∧n<10000) {acc:List RD} (ha:acc.length<1000) :
  g_n.b0 ((a:Int),bo) y7 (acc,(i:Int))=some (.inl (if inK (y7.getD i default).1=true then acc++ [(6,(y7.getD i default).1,(y7.getD i default).2.2.map (sh1 a))] else acc,((i+1:Nat):Int))):=by
 have c1:=jh hA bo y7 (acc,(i:Int)) (c:=(y7.getD i default).2.2) rfl hc hr _ 0 [] (Nat.zero_add _) (Nat.zero_le _)
 unfold g_n.b0
 simp only
 rw[if_pos (decide_eq_true (by omega)),if_pos ⟨by omega,by omega⟩,aB,mO,Option.bind_some,aq (by omega) (by omega)]
 cases inK (y7.getD i default).1
 ·rfl
 ·rw[if_neg (by decide)]
  have c1':iter (g_n.b1 ((a:Int),bo) y7 (acc,(i:Int))) (0,[])=some (((y7.getD i default).2.2.length:Int),(y7.getD i default).2.2.map (sh1 a)):=c1
  rw[c1',Option.bind_some,if_pos (by simp; omega)]
  rfl
structure RL (t:List UInt8) (l:List RD):Prop where
 each: ∀x∈l,∃j:Nat,j<44∧x.1=(j:Int)∧CC t x.2.2∧(j≠6→KF t (LV t) j t.length)
 two:l.length≤1∨ ∃a b,l= [a,b]∧a.1=28∧b.1=40
def LG (t:List UInt8):Prop:= ∃(p:Nat) (m:Nat) (L':List Int),t.take 2= [73,70]∧g_1t.f t (LV t) 2 true=some ((p:Int),true)∧t.getD 2 default=40∧m≤26∧KF (t.drop p) L' m (t.drop p).length
theorem rG {t:List UInt8} (h:Vd t) (self:List UInt8→Option (List RD)) (hs: ∀s,Vd s→s.length<t.length→ ∃l,self s=some l∧RL s l) :
  ∃y:List RD,g_n.F self t=some y∧y.length≤1∧ ∀x∈y,x.1=6∧CC t x.2.2∧LG t:=by
 have hlen:=h.len
 unfold g_n.F
 obtain⟨a,is,e1,f1⟩:=inner_f h
 rw[e1,Option.bind_some]
 cases is
 ·exact⟨[],rfl,by decide,fun x hx=>by cases hx⟩
 ·obtain⟨q1,q2,q3,q4,q5,q6,q7⟩:=f1 rfl
  obtain⟨hv,hLV⟩:=h.drop2 (p:=a) (by omega) q5 q6 q7
  obtain⟨l,e2,rl⟩:=hs _ hv (by rw[List.length_drop]; omega)
  rw[if_neg (by simp),if_pos ⟨by omega,by omega,by omega⟩,fH,e2,Option.bind_some]
  have cut: ∀x∈l,CC (t.drop a) x.2.2:=fun x hx=>by
   obtain⟨j,_,_,j3,_⟩:=rl.each x hx
   exact j3
  have sm: ∀x∈l,∀z∈x.2.2,∃n:Nat,z=(n:Int)∧n<10000:=fun x hx=>(cut x hx).small hv.len
  have sl: ∀x∈l,x.2.2.length<100000:=fun x hx=>by have:=(cut x hx).2; omega
  have stop: ∀acc:List RD,g_n.b0 ((a:Int),true) l (acc,(l.length:Int))=some (.inr (acc,(l.length:Int))):=fun acc=>by
   unfold g_n.b0
   rw[if_neg (by simp)]
  rcases rl.two with h1 | ⟨x,y,rfl,hx,hy⟩
  ·cases l with
   | nil =>
    refine⟨[],?_,by decide,fun x hx=>by cases hx⟩
    have:=ah (stop [])
    have e:(([]:List RD),(0:Int))=(([]:List RD),((([]:List RD).length:Nat):Int)):=rfl
    rw[e,this]; rfl
   | cons x l' =>
    obtain rfl:l'= []:=by
     cases l' with
     | nil=>rfl
     | cons _ _=>simp at h1
    have c2:=pf (a:=a) (by omega) true [x] (i:=0) (by simp) (by simp) (sl x List.mem_cons_self) (sm x List.mem_cons_self) (acc:=[]) (by simp)
    have c2:g_n.b0 ((a:Int),true) [x] (([]:List RD),(0:Int))=some (.inl (if inK x.1=true then([]:List RD)++ [(6,x.1,x.2.2.map (sh1 a))] else [],(([x].length:Nat):Int))):=c2
    refine⟨if inK x.1=true then([]:List RD)++ [(6,x.1,x.2.2.map (sh1 a))] else [],?_,by split<;>simp,fun z hz=>?_⟩
    ·rw[ak c2,ah (stop _)]; rfl
    ·split at hz
     ·rename_i hin
      rw[List.nil_append,List.mem_singleton] at hz
      subst hz
      obtain⟨j,j1,j2,j3,j4⟩:=rl.each x List.mem_cons_self
      unfold inK at hin
      simp only[Bool.and_eq_true,decide_eq_true_eq,bne_iff_ne,ne_eq] at hin
      exact⟨rfl,(cut x List.mem_cons_self).shift (by omega) hLV,a,j,_,q1,q2,q3,by omega,j4 (by omega)⟩
     ·cases hz
  ·have c2:=pf (a:=a) (by omega) true [x,y] (i:=0) (by simp) (by simp) (sl x List.mem_cons_self) (sm x List.mem_cons_self) (acc:=[]) (by simp)
   have d2:=pf (a:=a) (by omega) true [x,y] (i:=1) (by simp) (by simp) (sl y (List.mem_cons_of_mem _ List.mem_cons_self)) (sm y (List.mem_cons_of_mem _ List.mem_cons_self)) (acc:=[]) (by simp)
   have c2:g_n.b0 ((a:Int),true) [x,y] (([]:List RD),(0:Int))=some (.inl (if inK x.1=true then([]:List RD)++ [(6,x.1,x.2.2.map (sh1 a))] else [],(1:Int))):=c2
   have d2:g_n.b0 ((a:Int),true) [x,y] (([]:List RD),(1:Int))=some (.inl (if inK y.1=true then([]:List RD)++ [(6,y.1,y.2.2.map (sh1 a))] else [],(([x,y].length:Nat):Int))):=d2
   rw[hx,show inK 28=false from rfl,if_neg (by decide)] at c2
   rw[hy,show inK 40=false from rfl,if_neg (by decide)] at d2
   refine⟨[],?_,by decide,fun x hx=>by cases hx⟩
   rw[ak c2,ak d2,ah (stop _)]; rfl
structure RI (t:List UInt8) (k:Nat) (l:List RD):Prop where
 each: ∀x∈l,∃j:Nat,j<k∧x.1=(j:Int)∧CC t x.2.2∧(j≠6→KF t (LV t) j t.length)∧(j=6→LG t)
 two:l.length≤1∨ ∃a b,l= [a,b]∧a.1=28∧b.1=40
theorem RI.mono {t:List UInt8} {k k':Nat} {l:List RD} (h:RI t k l) (hk:k≤k'):RI t k' l :=
 ⟨fun x hx=>by obtain⟨j,j1,j2⟩:=h.each x hx; exact⟨j,by omega,j2⟩,h.two⟩
theorem LG.no {t:List UInt8} (g:GG t (LV t)) (h:LG t) {k:Nat} (hk:k<44) (k6:k≠6) (hk':KF t (LV t) k t.length):False:=by
 obtain⟨p,m,L',q1,q2,q3,q4,q5⟩:=h
 exact uniqIf g hk k6 hk' q1 q2 q3 q4 q5
theorem RI.one {t:List UInt8} (g:GG t (LV t)) {k:Nat} (hk:k<44) {l:List RD} (h:RI t k l) {z:RD} (hz:z.1=(k:Int)) (hc:CC t z.2.2) (hK:k≠6→KF t (LV t) k t.length) (hG:k=6→LG t):RI t (k+1) (l++ [z]):=by
 have no: ∀x∈l,x.1=28∧k=40:=fun x hx=>by
  obtain⟨j,j1,j2,_,j3,j4⟩:=h.each x hx
  by_cases k6:k=6
  ·exact((hG k6).no g (k:=j) (by omega) (by omega) (j3 (by omega))).elim
  ·by_cases j6:j=6
   ·exact((j4 j6).no g hk k6 (hK k6)).elim
   ·obtain⟨a,b⟩:=uniq g j1 hk j6 k6 (j3 j6) (hK k6)
    exact⟨by omega,b⟩
 refine⟨fun x hx=>?_,?_⟩
 ·rcases List.mem_append.1 hx with q | q
  ·exact(h.mono (Nat.le_succ k)).each x q
  ·rw[List.mem_singleton] at q
   subst q
   exact⟨k,by omega,hz,hc,hK,hG⟩
 ·rcases h.two with h1 | ⟨a,b,rfl,ha,hb⟩
  ·cases l with
   | nil=>exact .inl (by simp)
   | cons x l' =>
    obtain rfl:l'= []:=by
     cases l' with
     | nil=>rfl
     | cons _ _=>simp at h1
    obtain⟨q1,q2⟩:=no x List.mem_cons_self
    exact .inr ⟨x,z,rfl,q1,by omega⟩
  ·have:=(no b (List.mem_cons_of_mem _ List.mem_cons_self)).1
   omega
theorem fX {t:List UInt8} (h:Vd t) (self:List UInt8→Option (List RD)) (hs: ∀s,Vd s→s.length<t.length→ ∃l,self s=some l∧RL s l) {k:Nat} (hk:k<44) {acc:List RD} (hI:RI t k acc) :
  ∃acc',g_25.b0 t self (acc,(k:Int))=some (.inl (acc',((k+1:Nat):Int)))∧RI t (k+1) acc'∧ ∃y,acc'=acc++y:=by
 have g:=h.par
 have hlen:=h.len
 have hal:acc.length≤2:=by
  rcases hI.two with q | ⟨a,b,rfl,_⟩
  ·omega
  ·simp
 unfold g_25.b0
 simp only
 rw[if_pos (decide_eq_true (by omega)),aq (by omega) (by omega)]
 by_cases k6:k=6
 ·rw[if_pos (by rw[k6]; decide)]
  obtain⟨y,e,y1,y2⟩:=rG h self hs
  rw[e,Option.bind_some,if_pos (by omega)]
  refine⟨acc++y,rfl,?_,y,rfl⟩
  cases y with
  | nil=>rw[List.append_nil]; exact hI.mono (Nat.le_succ k)
  | cons z y' =>
   obtain rfl:y'= []:=by
    cases y' with
    | nil=>rfl
    | cons _ _=>simp at y1
   obtain⟨z1,z2,z3⟩:=y2 z List.mem_cons_self
   exact hI.one g hk (by rw[z1,k6]; rfl) z2 (fun q=>absurd k6 q) (fun _=>z3)
 ·rw[if_neg (by simp; omega),eT hlen,Option.bind_some]
  obtain⟨b,J,o,e,b1,c,f⟩:=kind_Mq g k hk
  simp only[e,Option.bind_some,mK]
  cases ho:(o&&decide (b=t.length))
  ·exact⟨acc,rfl,hI.mono (Nat.le_succ k),[],by simp⟩
  ·rw[Bool.and_eq_true,decide_eq_true_eq] at ho
   have hf:=f ho.1
   rw[ho.2] at hf
   rw[if_pos rfl,if_pos (by simp; omega)]
   exact⟨_,rfl,hI.one g hk rfl ⟨c.mono b1,tP g k hk _ _ _ e ho.1⟩ (fun _=>hf) (fun q=>absurd q k6),_,rfl⟩
theorem ea {t:List UInt8} (h:Vd t) (self:List UInt8→Option (List RD)) (hs: ∀s,Vd s→s.length<t.length→ ∃l,self s=some l∧RL s l): ∀(d k:Nat) (acc:List RD),k+d=44→RI t k acc →
  ∃acc',iter (g_25.b0 t self) (acc,(k:Int))=some (acc',(44:Int))∧RI t 44 acc'∧ ∃y,acc'=acc++y
 | 0,k,acc,hk,hI=>by
  obtain rfl:k=44:=by omega
  exact⟨acc,ah rfl,hI,[],by simp⟩
 | d+1,k,acc,hk,hI=>by
  obtain⟨a1,e1,r1,y1,q1⟩:=fX h self hs (k:=k) (by omega) hI
  obtain⟨a2,e2,r2,y2,q2⟩:=ea h self hs d (k+1) a1 (by omega) r1
  exact⟨a2,by rw[ak e1,e2],r2,y1++y2,by rw[q2,q1,List.append_assoc]⟩
theorem lR {self:List UInt8→Option (List RD)} {t:List UInt8} {l:List RD} {k:Int} (e:iter (g_25.b0 t self) (([]:List RD),(0:Int))=some (l,k)):g_25.F self t=some l:=by
 unfold g_25.F
 rw[e]; rfl
theorem qC {X R:Type} {body:(X→Option R)→X→Option R} {x:X} {r:R} (h:dY body 100000 x=some r):ri body x=some r:=by
 unfold ri
 rw[h]
theorem ig: ∀(n:Nat) (t:List UInt8),Vd t→t.length<n→ ∃l,dY (fun self (x:List UInt8)=>g_25.F self x) n t=some l∧RL t l
 | 0,t,h,hn=>absurd hn (by omega)
 | n+1,t,h,hn=>by
  obtain⟨l,e,r,_⟩:=ea h (dY (fun self (x:List UInt8)=>g_25.F self x) n) (fun s hs hl=>ig n s hs (by omega)) 44 0 [] (by omega) ⟨(fun x hx=>by cases hx),.inl (by simp)⟩
  have e':iter (g_25.b0 t (dY (fun self (x:List UInt8)=>g_25.F self x) n)) (([]:List RD),(0:Int))=some (l,44):=e
  refine⟨l,?_,⟨fun x hx=>?_,r.two⟩⟩
  ·exact lR e'
  ·obtain⟨j,j1,j2,j3,j4,_⟩:=r.each x hx
   exact⟨j,j1,j2,j3,j4⟩
end Go.Proofs.YtcafgoomipkljaaGreatDoorAi
namespace Go.Proofs.YtcafgoomipkljaaGreatDoorAi
open Go Go.RowKit
set_option linter.unusedVariables false
set_option linter.unusedSimpArgs false
end Go.Proofs.YtcafgoomipkljaaGreatDoorAi
namespace Go.Proofs.YtcafgoomipkljaaGreatDoorAi
open Go Go.RowKit
set_option linter.unusedVariables false
set_option linter.unusedSimpArgs false
def ltL:List Int→List Int→Bool
 | [],[]=>false
 | [],_::_=>true
 | _::_,[]=>false
 | x::a,y::b=>decide (x<y)||(x==y&&ltL a b)
theorem lS: ∀(n:Nat) (a b:List Int),a.length<n→dY (fun self (x:List Int×List Int)=>g_0.F self x.1 x.2) n (a,b)=some (ltL a b)
 | 0,a,b,h=>absurd h (by omega)
 | n+1,[],b,h=>by
  show g_0.F _ _ _=_
  unfold g_0.F
  cases b with
  | nil=>rfl
  | cons y b=>rw[if_pos (by simp)]; simp[ltL]<;>omega
 | n+1,x::a,[],h=>by
  show g_0.F _ _ _=_
  unfold g_0.F
  rw[if_pos (by simp)]; simp[ltL]<;>omega
 | n+1,x::a,y::b,h=>by
  have ih:=lS n a b (by simp at h; omega)
  show g_0.F (dY (fun self (x:List Int×List Int)=>g_0.F self x.1 x.2) n) (x::a) (y::b)=_
  generalize dY (fun self (x:List Int×List Int)=>g_0.F self x.1 x.2) n=f at ih ⊢
  unfold g_0.F
  have hg: ∀(z:Int) (l:List Int),gt (z::l) (0:Int)=z:=fun _ _=>rfl
  have hm: ∀(z:Int) (l:List Int),mid (z::l) (1:Int) (((z::l).length:Nat):Int)=l:=fun z l=>by
   rw[show(1:Int)=((1:Nat):Int) from rfl,fH]; rfl
  have hlen: ∀(z:Int) (l:List Int),((z::l).length:Int)=(l.length:Int)+1:=fun z l=>by simp
  have c1: ∀(z:Int) (l:List Int),0≤(0:Int)∧(0:Int)<((z::l).length:Int):=fun z l=>⟨Int.le_refl _,by have:=hlen z l; omega⟩
  have c2: ∀(z:Int) (l:List Int),0≤(1:Int)∧(1:Int)≤((z::l).length:Int)∧((z::l).length:Int)≤((z::l).length:Int):=fun z l=>⟨by omega,by have:=hlen z l; omega,Int.le_refl _⟩
  rw[if_neg (by have:=hlen x a; have:=hlen y b; simp; omega)]
  simp only[if_pos (c1 _ _),if_pos (c2 _ _),hg,hm,ih,Option.bind_some]
  rw[show ltL (x::a) (y::b)=(decide (x<y)||(x==y&&ltL a b)) from rfl]
  by_cases h1:x<y
  ·rw[if_pos (decide_eq_true h1),decide_eq_true h1]; rfl
  ·rw[if_neg (by simpa using h1),decide_eq_false h1,Bool.false_or]
   cases hq:(x==y)
   ·rfl
   ·rw[if_pos rfl,Bool.true_and]
theorem oe {a b:List Int} (h:a.length<100000):g_0.f a b=some (ltL a b):=by
 unfold g_0.f
 exact qC (lS 100000 a b h)
theorem tU: ∀(a b:List Int),ltL a b=false→ltL b a=false→a=b
 | [],[],_,_=>rfl
 | [],_::_,h,_=>by cases h
 | _::_,[],_,h=>by cases h
 | x::a,y::b,h,k=>by
  unfold ltL at h k
  rw[Bool.or_eq_false_iff,decide_eq_false_iff_not] at h k
  obtain rfl:x=y:=by omega
  rw[beq_self_eq_true,Bool.true_and] at h k
  rw[tU a b h.2 k.2]
theorem ints_f {a b:List Int} (ha:a.length<100000) (hb:b.length<100000): ∃q,g_1.f a b=some q∧(q=true→a=b):=by
 unfold g_1.f
 rw[oe ha,oe hb]
 cases h1:((a.length:Int)==(b.length:Int))
 ·exact⟨false,rfl,fun h=>by cases h⟩
 ·cases h2:ltL a b
  ·cases h3:ltL b a
   ·exact⟨true,rfl,fun _=>tU a b h2 h3⟩
   ·exact⟨false,rfl,fun h=>by cases h⟩
  ·exact⟨false,rfl,fun h=>by cases h⟩
theorem iR {c:UInt8} (h:cJ c=true):([40,44,47,61]:List UInt8).contains c=false∧([42]:List UInt8).contains c=false∧upC c=c∧c≠32:=by
 refine⟨?_,?_,?_,?_⟩
 ·rw[Bool.eq_false_iff]
  intro q
  simp only[List.contains_cons,List.contains_nil,Bool.or_false,Bool.or_eq_true,beq_iff_eq] at q
  rcases q with rfl | rfl | rfl | rfl<;>(revert h; decide)
 ·rw[Bool.eq_false_iff]
  intro q
  simp only[List.contains_cons,List.contains_nil,Bool.or_false,beq_iff_eq] at q
  subst q; revert h; decide
 ·unfold upC
  rw[if_neg]
  unfold cJ cy bz at h
  simp only[Bool.or_eq_true,Bool.and_eq_true,decide_eq_true_eq] at h
  rintro⟨q1,q2⟩
  rcases h with(h | h) | h
  ·omega
  ·omega
  ·rw[h] at q1; revert q1; decide
 ·rintro rfl; revert h; decide
theorem tV {out:List UInt8} {own:List Bool} {sg:List UInt8} {n:Nat} (hn:n≤out.length) (h: ∀k,k<out.length→sg.contains (out.getD k default)=false):isB out own n sg=false:=by
 cases n with
 | zero=>rfl
 | succ n =>
  show(!(own.getD n default)&&sg.contains (out.getD n default))=false
  rw[h n (by omega),Bool.and_false]
theorem tW {out:List UInt8} {own:List Bool} (h: ∀k,k<out.length→cJ (out.getD k default)=true):hol out own=none:=by
 have hle:=kC (pD out own) out.length
 unfold hol
 simp only
 rw[tV hle (fun k hk=>(iR (h k hk)).1),tV hle (fun k hk=>(iR (h k hk)).2.1)]
 split
 ·rfl
 ·rw[if_neg (by decide),if_neg (by decide)]
theorem stp_nm {t:List UInt8} {a:Nat} {out:List UInt8} {own:List Bool} {frm:List Int} (hc:cJ (t.getD a default)=true) (h: ∀k,k<out.length→cJ (out.getD k default)=true):stp t a out own frm= .ok (a+1,[t.getD a default],[false],[]):=by
 have hn:=dD hc
 obtain⟨_,_,h1,h2⟩:=iR hc
 unfold stp
 simp only
 rw[if_neg (by rintro(q | q); exact hn.2.2.2.2.1 q; exact hn.2.2.2.2.2 q),tW h,h1]
 have:(if t.getD a default=72 then(none:Option Nat) else none)=none:=by split<;>rfl
 rw[this]
 simp only
 rw[if_neg h2]
theorem lT {t:List UInt8} {a:Nat} (h:a<t.length):t.take a++ [t.getD a default]=t.take (a+1):=by
 rw[List.take_succ_eq_append_getElem h,List.getD_eq_getElem?_getD,List.getElem?_eq_getElem h]; rfl
theorem lU {t:List UInt8} {a k:Nat} (h:k<a):(t.take a).getD k default=t.getD k default:=by
 rw[List.getD_eq_getElem?_getD,List.getElem?_take,if_pos h,List.getD_eq_getElem?_getD]
theorem tX {t:List UInt8} {p:Nat} (hp:p≤t.length) (hN: ∀i,i<p→cJ (t.getD i default)=true) (n:Nat): ∀(d a:Nat) (frm:List Int),a+d=p→frm.length=a →
  ∃frm',frm'.length=p∧sqz t (n+d) a (t.take a) frm (List.replicate a false) []=sqz t n p (t.take p) frm' (List.replicate p false) []
 | 0,a,frm,h,hf=>⟨frm,by omega,by rw[show a=p by omega]; rfl⟩
 | d+1,a,frm,h,hf=>by
  obtain⟨f',q1,q2⟩:=tX hp hN n d (a+1) (frm++rng a 1) (by omega) (by rw[List.length_append,g8]; omega)
  refine⟨f',q1,?_⟩
  rw[← q2,← Nat.add_assoc]
  conv=>lhs; unfold sqz
  rw[if_pos (by omega),stp_nm (hN a (by omega)) (fun k hk=>by
   rw[List.length_take] at hk
   rw[lU (by omega)]; exact hN k (by omega))]
  simp only[List.append_nil]
  rw[lT (by omega),← List.replicate_succ' (n:=a) (a:=false)]
  rfl
theorem dg_ge {p:Nat→Bool} {q:Nat} (hq:p q=false): ∀n,q<n→q<dg p n
 | 0,h=>by omega
 | n+1,h=>by
  unfold dg
  split
  ·rename_i hp
   by_cases e:q=n
   ·rw[e,hp] at hq; cases hq
   ·exact dg_ge hq n (by omega)
  ·omega
theorem mP {α:Type} {l m:List α} {d:α} {k:Nat} (h:k<l.length):(l++m).getD k d=l.getD k d:=by
 rw[List.getD_eq_getElem?_getD,List.getElem?_append_left h,List.getD_eq_getElem?_getD]
theorem tY {b:Int}: ∀(n a k:Nat),b≤a→k<n→b≤(rng a n).getD k default
 | 0,_,_,_,h=>by omega
 | n+1,a,0,hb,_=>hb
 | n+1,a,k+1,hb,h=>tY n (a+1) k (by omega) (by omega)
structure Lo (p:Nat) (out:List UInt8) (frm:List Int) (own:List Bool):Prop where
 lp:p<out.length
 pd:pD out own p=false
 fr: ∀k,p<k→k<frm.length→(p:Int)<frm.getD k default
theorem stp_lo {t:List UInt8} {p a:Nat} {out:List UInt8} {frm:List Int} {own:List Bool} {cs:List (Int×Int)} (h:eP t a out frm own cs) (hl:Lo p out frm own) {a':Nat} {o:List UInt8} {w:List Bool} {c:List (Int×Int)} (hs:stp t a out own frm= .ok (a',o,w,c)) :
  ∀x∈c,(p:Int)<x.1:=by
 have hlo:=h.lo
 have hlp:=hl.lp
 unfold stp at hs
 simp only at hs
 split at hs
 ·split at hs
  ·cases hs
  ·simp only[Except.ok.injEq,Prod.mk.injEq] at hs
   obtain⟨_,_,_,rfl⟩:=hs
   intro x hx
   rw[List.mem_singleton] at hx
   rw[hx]; simp only; omega
 ·split at hs
  ·rename_i b hb
   have hb':hol out own=some b:=by
    split at hb
    ·exact hb
    ·cases hb
   have hb2:b=dg (pD out own) out.length:=by
    unfold hol at hb'
    simp only at hb'
    split at hb'
    ·cases hb'
    ·split at hb'
     ·exact(Option.some.inj hb').symm
     ·split at hb'
      ·split at hb'
       ·exact(Option.some.inj hb').symm
       ·cases hb'
      ·cases hb'
   have hb3:=dg_ge hl.pd out.length hl.lp
   obtain⟨k1,_,_⟩:=dT hb'
   split at hs
   ·cases hs
   ·split at hs
    ·cases hs
    ·simp only[Except.ok.injEq,Prod.mk.injEq] at hs
     obtain⟨_,_,_,rfl⟩:=hs
     intro x hx
     rw[List.mem_singleton] at hx
     rw[hx]
     exact hl.fr b (by omega) (by rw[h.lf]; exact k1)
  ·split at hs
   ·simp only[Except.ok.injEq,Prod.mk.injEq] at hs
    obtain⟨_,_,_,rfl⟩:=hs
    exact fun x hx=>by cases hx
   ·simp only[Except.ok.injEq,Prod.mk.injEq] at hs
    obtain⟨_,_,_,rfl⟩:=hs
    exact fun x hx=>by cases hx
theorem tZ {t:List UInt8} {p:Nat}: ∀(n a:Nat) (out:List UInt8) (frm:List Int) (own:List Bool) (cs:List (Int×Int)) (r:List UInt8×List Int×List Bool×List (Int×Int)),
  eP t a out frm own cs→Lo p out frm own→(∀x∈cs,(p:Int)<x.1)→sqz t n a out frm own cs= .ok r→ ∀x∈r.2.2.2,(p:Int)<x.1
 | 0,a,out,frm,own,cs,r,h,hl,hc,hs=>by
  simp only[sqz,Except.ok.injEq] at hs
  subst hs; exact hc
 | n+1,a,out,frm,own,cs,r,h,hl,hc,hs=>by
  unfold sqz at hs
  split at hs
  ·rename_i ha
   split at hs
   ·cases hs
   ·rename_i a' o w c hst
    obtain⟨k3,k4,_⟩:=cV h ha hst
    have hx:=stp_lo h hl hst
    have hlp:=hl.lp
    refine tZ n a' _ _ _ _ r k4 ⟨by rw[List.length_append]; omega,?_,fun k k1 k2=>?_⟩ (fun x hx'=>?_) hs
    ·have:=hl.pd
     unfold pD at this ⊢
     rw[mP (by rw[h.lw]; exact hlp),mP hlp]; exact this
    ·by_cases hk:k<frm.length
     ·rw[mP hk]; exact hl.fr k k1 hk
     ·rw[List.length_append,g8] at k2
      rw[List.getD_eq_getElem?_getD,List.getElem?_append_right (by omega),← List.getD_eq_getElem?_getD]
      have:=h.lo
      exact tY (b:=(p:Int)+1) _ _ _ (by omega) (by omega)
    ·rcases List.mem_append.1 hx' with q | q
     ·exact hc x q
     ·exact hx x q
  ·simp only[Except.ok.injEq] at hs
   subst hs; exact hc
theorem lV (q:Nat): ∀(n i:Nat) (l:List Bool),q<i→(dy l i n).getD q default=l.getD q default
 | 0,_,_,_=>rfl
 | n+1,i,l,h=>by
  unfold dy
  rw[lV q n (i+1) _ (by omega),List.getD_eq_getElem?_getD,List.getElem?_set_ne (by omega),← List.getD_eq_getElem?_getD]
theorem qD {q p:Nat} (hq:q<p): ∀(cs:List (Int×Int)) (l:List Bool),(∀c∈cs,(p:Int)≤c.1)→(mks cs l).getD q default=l.getD q default
 | [],_,_=>rfl
 | c::cs,l,h=>by
  unfold mks
  have:=h c List.mem_cons_self
  rw[qD hq cs _ (fun x hx=>h x (List.mem_cons_of_mem _ hx)),lV _ _ _ _ (by omega)]
theorem t0: ∀(z:List (Bool×UInt8)) (n:Int),(∀x∈z,x.2≠40∧x.2≠41)→cnt z n=n
 | [],_,_=>rfl
 | (m,c)::z,n,h=>by
  obtain⟨h1,h2⟩:=h _ List.mem_cons_self
  simp only at h1 h2
  rw[eF,if_neg h2,if_neg h1]
  have:=t0 z n (fun x hx=>h x (List.mem_cons_of_mem _ hx))
  split<;>exact this
theorem pg {t:List UInt8} (h:Vd t) {p:Nat} (hp:p<t.length) (hN: ∀i,i<p→cJ (t.getD i default)=true) (hc:t.getD p default=61∨t.getD p default=40): ∀i,i≤p→(LV t).getD i default=0:=by
 have hlen:=h.len
 obtain⟨r,hs,hr⟩:=h.sq
 have hcs:CS t=r.2.2.2:=by unfold CS; rw[hs]
 have lo: ∀x∈CS t,((p+1:Nat):Int)≤x.1:=fun x hx=>by
  rw[hcs] at hx
  suffices hh:(p:Int)<x.1 by omega
  revert x
  unfold SQ at hs
  split at hs
  ·cases hs
  ·obtain⟨f',q1,q2⟩:=tX (t:=t) (by omega) hN (t.length+1-p) p 0 [] (by omega) rfl
   rw[show t.length+1-p+p=t.length+1 by omega,List.take_zero,List.replicate_zero] at q2
   rw[q2,show t.length+1-p=(t.length-p)+1 by omega] at hs
   unfold sqz at hs
   rw[if_pos hp] at hs
   have hst:stp t p (t.take p) (List.replicate p false) f'= .ok (p+1,[t.getD p default],[false],[]):=by
    unfold stp
    simp only
    rcases hc with hc | hc
    ·rw[hc]; rfl
    ·rw[hc]; rfl
   rw[hst] at hs
   simp only[List.append_nil] at hs
   have hf:eP t (p+1) (t.take p++ [t.getD p default]) (f'++rng p 1) (List.replicate p false++ [false]) []:=⟨hlen,by omega,by simp; omega,by simp[g8]; omega,by simp; omega,by simp⟩
   refine tZ (p:=p) _ _ _ _ _ _ _ hf ⟨by simp; omega,?_,fun k k1 k2=>?_⟩ (fun x hx=>by cases hx) hs
   ·have e1:(t.take p++ [t.getD p default]).getD p default=t.getD p default:=by
     rw[lT hp,lU (by omega)]
    have hd:bz (t.getD p default)=false:=by
     rcases hc with hc | hc<;>rw[hc]<;>decide
    unfold pD
    rw[e1,hd,Bool.and_false]
   ·rw[List.length_append,g8] at k2; omega
 intro i hi
 have hm:(MK t).getD i default=false:=by
  unfold MK
  rw[qD (p:=p+1) (by omega) _ _ lo,List.getD_eq_getElem?_getD,List.getElem?_replicate,if_pos (by omega)]; rfl
 rw[od (i:=i) (by omega),jE (ie (by omega)),hm,eE,if_neg (by decide)]
 have h0:cnt ((ZZ t).take i) 0=0:=t0 _ _ fun x hx=>by
  obtain⟨k,hk,rfl⟩:=List.mem_iff_getElem.1 hx
  rw[List.length_take,dU] at hk
  have e:(((ZZ t).take i)[k]).2=t.getD k default:=by
   rw[List.getElem_take]
   unfold ZZ
   rw[List.getElem_zip,List.getD_eq_getElem?_getD,List.getElem?_eq_getElem (by omega)]; rfl
  rw[e]
  have:=dD (hN k (by omega))
  exact⟨this.2.2.1,this.2.2.2.1⟩
 rw[h0]
 have hc2:t.getD i default≠41:=by
  by_cases e:i=p
  ·rw[e]; rcases hc with hc | hc<;>rw[hc]<;>decide
  ·exact(dD (hN i (by omega))).2.2.2.1
 show(if t.getD i default=41 then(0:Int)-1 else 0)=0
 rw[if_neg hc2]
end Go.Proofs.YtcafgoomipkljaaGreatDoorAi
namespace Go.Proofs.YtcafgoomipkljaaGreatDoorAi
open Go Go.RowKit
set_option linter.unusedVariables false
set_option linter.unusedSimpArgs false
section
variable {t:List UInt8} {L:List Int}
theorem og (g:G0 t L) {p:Nat} (hp:p≤t.length) (hN: ∀i,i<p→L.getD i default=0∧cJ (t.getD i default)=true) (hs:nx t L p cJ=false): ∀(d n a:Nat),a+d=p→n+d≤31 →
  iter (g_1p.b0 t L true) ((n:Int),(a:Int))=some (((n+d:Nat):Int),(p:Int))
 | 0,n,a,h,hn=>by
  obtain rfl:a=p:=by omega
  refine ah ?_
  unfold g_1p.b0
  simp only
  by_cases hl:n<31
  ·rw[if_pos (decide_eq_true (by omega)),tz g,hs]; rfl
  ·rw[if_neg (by simp; omega)]; rfl
 | d+1,n,a,h,hn=>by
  have hl:=g.hl
  have h1:=og g hp hN hs d (n+1) (a+1) (by omega) (by omega)
  have hx:nx t L a cJ=true:=cw.2 ⟨by omega,hN a (by omega)⟩
  have key:g_1p.b0 t L true ((n:Int),(a:Int))=some (.inl (((n+1:Nat):Int),((a+1:Nat):Int))):=by
   unfold g_1p.b0
   simp only
   rw[if_pos (decide_eq_true (by omega)),tz g,Option.bind_some,Option.bind_some,up1 g (a:=a) (by omega),aq (by omega) (by omega),hx]; rfl
  rw[ak key,h1,show n+1+d=n+(d+1) by omega]
theorem name_fw (g:G0 t L) {p:Nat} (h0:0<p) (h31:p≤31) (hp:p≤t.length) (hN: ∀i,i<p→L.getD i default=0∧cJ (t.getD i default)=true) (hl:cy (t.getD 0 default)=true) (hs:nx t L p cJ=false) :
  g_1p.f t L 0 true=some ((p:Int),true):=by
 unfold g_1p.f g_1o.f
 have e0:=is2_f g 0 true
 rw[show((0:Nat):Int)=0 from rfl] at e0
 rw[e0,cw.2 ⟨by omega,(hN 0 h0).1,hl⟩,Option.bind_some,Option.bind_some]
 have:=og g hp hN hs p 0 0 (by omega) (by omega)
 have e:((0:Int),(0:Int))=(((0:Nat):Int),((0:Nat):Int)):=rfl
 show Option.bind (iter (g_1p.b0 t L true) _) _=_
 rw[e,this]; rfl
theorem rH (g:GG t L) {p j:Nat} (hpj:p<j) (hj:j<t.length) (p0:L.getD p default=0) (p1:t.getD p default=40) (j0:L.getD j default=0) (j1:t.getD j default=41) (hn: ∀k,p<k→k<j→L.getD k default≠0) :
  g_1t.f t L (p:Int) true=some (((j+1:Nat):Int),true):=by
 unfold g_1t.f
 rw[kL g.toG0 p (by omega),if_pos (by rw[Bool.true_and,cw]; exact⟨by omega,p0,decide_eq_true p1⟩)]
 simp only[Option.bind_some]
 rw[fo g.toG0 hj j0 j1 _ (j-(p+1)) (p+1) (by omega) (fun i i1 i2=>hn i (by omega) i2)]
 rfl
theorem oh (g:G0 t L) (sg:List UInt8): ∀(d a:Nat),a+d=t.length→(∀i,a≤i→i<t.length→L.getD i default=0→sg.contains (t.getD i default)=false) →
  iter (g_1w.b0 t L true sg) (a:Int)=some (t.length:Int)
 | 0,a,h,hn=>by
  obtain rfl:a=t.length:=by omega
  refine ah ?_
  unfold g_1w.b0
  rw[if_neg (c:=decide _=true) (by simp)]; rfl
 | d+1,a,h,hn=>by
  have hl:=g.hl
  have hL:=g.hL
  rw[ak (y:=((a+1:Nat):Int)) ?_]
  ·exact oh g sg d (a+1) (by omega) (fun i i1 i2=>hn i (by omega) i2)
  unfold g_1w.b0
  rw[if_pos rfl,if_pos (decide_eq_true (by omega)),if_pos ⟨by omega,by omega⟩,aB,aB,up1 g (a:=a) (by omega)]
  by_cases h0:L.getD a default=0
  ·have hc:=hn a (Nat.le_refl _) (by omega) h0
   have e:(L.getD a default != 0)=false:=by rw[h0]; rfl
   have hx:jo sg (t.getD a default)<0:=by
    have:=g7 sg (t.getD a default)
    rw[hc] at this
    have:=of_decide_eq_false this
    omega
   rw[e,if_neg (by decide),if_pos ⟨by omega,by omega⟩,cp,Option.bind_some,if_pos (decide_eq_true hx)]
  ·have e:(L.getD a default != 0)=true:=by simpa using h0
   rw[e,if_pos rfl]
theorem expr_fw (g:G0 t L) {a:Nat} (ha:a<t.length) (hn: ∀i,a≤i→i<t.length→L.getD i default=0→([61,44]:List UInt8).contains (t.getD i default)=false) :
  g_y.f t L (a:Int) true=some ((t.length:Int),true):=by
 unfold g_y.f g_1w.f g_1o.f
 rw[oh g _ (t.length-a) a (by omega) hn]
 simp only[Option.bind_some,Bool.true_and]
 rw[decide_eq_true (by omega)]
theorem asg_fw (g:GG t L) {p e:Nat} (h0:0<p) (h31:p≤31) (hN: ∀i,i<p→L.getD i default=0∧cJ (t.getD i default)=true) (hl:cy (t.getD 0 default)=true) (he:e+1<t.length) (e0:L.getD e default=0) (e1:t.getD e default=61)
  (hg:e=p∨(L.getD p default=0∧t.getD p default=40∧p+1<e∧L.getD (e-1) default=0∧t.getD (e-1) default=41∧ ∀k,p<k→k<e-1→L.getD k default≠0))
  (hn: ∀i,e+1≤i→i<t.length→L.getD i default=0→([61,44]:List UInt8).contains (t.getD i default)=false) :
  g_1c.f t L 0 [] true 0=some ((t.length:Int),[],true):=by
 have hlen:p<t.length:=by rcases hg with rfl | h<;>omega
 have hs:nx t L p cJ=false:=by
  rw[Bool.eq_false_iff]
  intro q
  have q3:=(cw.1 q).2.2
  rcases hg with rfl | h
  ·exact(dD q3).1 e1
  ·exact(dD q3).2.2.1 h.2.1
 have sg:g_1v.f t L (e:Int) true 61=some (((e+1:Nat):Int),true):=by
  rw[kL g.toG0 e (by omega),if_pos (by rw[Bool.true_and,cw]; exact⟨by omega,e0,decide_eq_true e1⟩)]
 have mp:g_1n.f t L (p:Int) true=some ((e:Int),true):=by
  unfold g_1n.f
  rw[dV g.toG0,Option.bind_some]
  rcases hg with rfl | ⟨p0,p1,p2,p3,p4,p5⟩
  ·have:nx t L e (fun c=>decide (c=40))=false:=by
    rw[Bool.eq_false_iff]
    intro q
    have:=of_decide_eq_true (cw.1 q).2.2
    rw[e1] at this; revert this; decide
   rw[this]; rfl
  ·rw[cw.2 ⟨hlen,p0,decide_eq_true p1⟩,Bool.true_and,if_pos rfl,rH g (j:=e-1) (by omega) (by omega) p0 p1 p3 p4 p5,Option.bind_some,show e-1+1=e by omega]
 unfold g_1c.f
 rw[mL,Option.bind_some,if_pos ⟨by decide,by decide,by decide⟩,if_pos (by decide),name_fw g.toG0 h0 h31 (by omega) hN hl hs]
 simp only[Option.bind_some,mp,sg,expr_fw g.toG0 he hn]
end
theorem lg {t:List UInt8} (h:Vd t) (hk:g_1c.f t (LV t) 0 [] true 0=some ((t.length:Int),[],true)):g_25.f t=some [(0,-1,[])]:=by
 have hlen:=h.len
 unfold g_25.f
 refine qC (show dY _ (99999+1) t=_ from ?_)
 have hs:=fun s (hv:Vd s) (hl:s.length<t.length)=>ig 99999 s hv (by have:=hv.len; omega)
 have hI0:RI t 0 []:=⟨(fun x hx=>by cases hx),.inl (by simp)⟩
 show g_25.F (dY (fun self (x:List UInt8)=>g_25.F self x) 99999) t=_
 generalize dY (fun self (x:List UInt8)=>g_25.F self x) 99999=self at hs ⊢
 obtain⟨a1,e1,r1,_⟩:=fX h self hs (k:=0) (by decide) hI0
 have e2:g_25.b0 t self (([]:List RD),(0:Int))=some (.inl ([(0,-1,[])],1)):=by
  unfold g_25.b0
  simp only
  rw[if_pos (by decide),if_neg (by decide),eT hlen,Option.bind_some]
  simp only[hk,Option.bind_some]
  rw[mK]
  simp only[Option.bind_some,Bool.true_and,decide_true,if_true]
  rfl
 have e3:g_25.b0 t self (([]:List RD),((0:Nat):Int))=some (.inl ([(0,-1,[])],1)):=e2
 rw[e3] at e1
 simp only[Option.some.injEq,Sum.inl.injEq,Prod.mk.injEq] at e1
 obtain⟨rfl,_⟩:=e1
 obtain⟨a2,f1,f2,y,rfl⟩:=ea h self hs 43 1 _ (by decide) r1
 have hy:y= []:=by
  rcases f2.two with q | ⟨a,b,q,qa,qb⟩
  ·cases y with
   | nil=>rfl
   | cons _ _=>simp at q
  ·simp only[List.cons_append,List.nil_append,List.cons.injEq] at q
   rw[← q.1] at qa
   simp at qa
 subst hy
 refine lR (k:=44) ?_
 have e4:(([]:List RD),(0:Int))=(([]:List RD),((0:Nat):Int)):=rfl
 rw[ak e2]
 have e5:(([(0,-1,[])]:List RD),(1:Int))=(([(0,-1,[])]:List RD),((1:Nat):Int)):=rfl
 rw[e5,f1]; rfl
end Go.Proofs.YtcafgoomipkljaaGreatDoorAi
namespace Go.Proofs.YtcafgoomipkljaaGreatDoorAi
open Go Go.RowKit
set_option linter.unusedVariables false
set_option linter.unusedSimpArgs false
theorem qE (c:UInt8):IntKind.i64.wrap (c.toNat:Int)=(c.toNat:Int):=by
 have:=c.toNat_lt
 show w64 (c.toNat:Int)=_
 rw[aq (by omega) (by omega)]
theorem kQ (c:UInt8):g_7.f c=some (!((decide (((c ||| 32).toNat:Int)<97))||(decide (((c ||| 32).toNat:Int)>122)))):=by
 unfold g_7.f g_5.f
 rw[qE]; rfl
theorem rI (c:UInt8):g_6.f c=some (bz c):=by
 unfold g_6.f g_5.f bz
 rw[qE,Option.bind_some]
 congr 1
 by_cases h1:48≤c.toNat<;>by_cases h2:c.toNat≤57<;>simp[h1,h2]<;>omega
def bLt (c:UInt8):Bool:= !((decide (((c ||| 32).toNat:Int)<97))||(decide (((c ||| 32).toNat:Int)>122)))
theorem bLt_cap: ∀n:Fin 256,bLt (UInt8.ofNat n.val)=true→(97≤n.val∧n.val≤122)∨cy (UInt8.ofNat n.val)=true:=by decide +kernel
theorem oi {c:UInt8} (h:bLt c=true) (hc: ¬ (97≤c.toNat∧c.toNat≤122)):cy c=true:=by
 have h256:=c.toNat_lt
 have:=bLt_cap ⟨c.toNat,h256⟩
 simp only[UInt8.ofNat_toNat] at this
 rcases this h with q | q
 ·exact absurd q hc
 ·exact q
def rJ (c:UInt8):Bool:=decide (c=95)||bLt c||bz c
theorem ji {t:List UInt8} (ht:t.length<100): ∀(d k:Nat),k+d=t.length →
  ∃r,iter (g_3.b0 t) (k:Int)=some r∧(∀x,r= .inl x→ ∀i,k≤i→i<t.length→rJ (t.getD i default)=true)∧ ∀b,r= .inr b→b=false
 | 0,k,h=>⟨.inl (k:Int),ah (by unfold g_3.b0; rw[if_neg (by simp; omega)]),(fun x _ i h1 h2=>by omega),fun b e=>by cases e⟩
 | d+1,k,h=>by
  have key:g_3.b0 t (k:Int)=some (if rJ (t.getD k default)=true then .inl ((k+1:Nat):Int) else .inr (.inr false)):=by
   unfold g_3.b0 rJ
   rw[if_pos (decide_eq_true (by omega)),if_pos ⟨by omega,by omega⟩,aB,kQ,rI,aq (by omega) (by omega)]
   have e:(((t.getD k default).toNat:Int) != ((95:UInt8).toNat:Int))= !decide (t.getD k default=95):=by
    rw[Bool.eq_iff_iff]
    simp only[bne_iff_ne,ne_eq,Bool.not_eq_true',decide_eq_false_iff_not]
    constructor
    ·intro q p; rw[p] at q; exact q rfl
    ·intro q p; exact q (UInt8.toNat_inj.1 (by omega))
   rw[e]
   show Option.bind _ _=_
   unfold bLt
   cases decide (t.getD k default=95)
   ·cases(!((decide ((((t.getD k default) ||| 32).toNat:Int)<97))||(decide ((((t.getD k default) ||| 32).toNat:Int)>122))))
    ·cases bz (t.getD k default)<;>rfl
    ·rfl
   ·rfl
  cases hc:rJ (t.getD k default)
  ·rw[hc] at key
   exact⟨.inr false,ah key,(fun x e=>by cases e),fun b e=>by cases e; rfl⟩
  ·rw[hc] at key
   obtain⟨r,h1,h2,h3⟩:=ji ht d (k+1) (by omega)
   refine⟨r,by rw[ak key]; exact h1,fun x e i i1 i2=>?_,h3⟩
   by_cases hi:i=k
   ·rw[hi]; exact hc
   ·exact h2 x e i (by omega) i2
theorem kR {t:List UInt8} (ht:t.length<100): ∀(d k:Nat),k+d=t.length →
  ∃r,iter (g_2.b0 t) (k:Int)=some r∧(∀x,r= .inl x→ ∀i,k≤i→i<t.length→ ¬ (97≤(t.getD i default).toNat∧(t.getD i default).toNat≤122))∧ ∀b,r= .inr b→b=false
 | 0,k,h=>⟨.inl (k:Int),ah (by unfold g_2.b0; rw[if_neg (by simp; omega)]),(fun x _ i h1 h2=>by omega),fun b e=>by cases e⟩
 | d+1,k,h=>by
  have key:g_2.b0 t (k:Int)=some (if 97≤(t.getD k default).toNat∧(t.getD k default).toNat≤122 then .inr (.inr false) else .inl ((k+1:Nat):Int)):=by
   unfold g_2.b0
   rw[if_pos (decide_eq_true (by omega)),if_pos ⟨by omega,by omega⟩,aB,aq (by omega) (by omega)]
   have e1:((97:UInt8).toNat:Int)=97:=rfl
   have e2:((122:UInt8).toNat:Int)=122:=rfl
   rw[e1,e2]
   by_cases h1:97≤(t.getD k default).toNat
   ·rw[if_pos (decide_eq_true (by omega)),if_pos ⟨by omega,by omega⟩,Option.bind_some]
    by_cases h2:(t.getD k default).toNat≤122
    ·rw[if_pos (decide_eq_true (by omega)),if_pos ⟨h1,h2⟩]
    ·rw[if_neg (by rw[decide_eq_true_eq]; omega),if_neg (fun q=>h2 q.2)]; rfl
   ·rw[if_neg (by rw[decide_eq_true_eq]; omega),Option.bind_some,if_neg (by decide),if_neg (fun q=>h1 q.1)]; rfl
  by_cases hc:97≤(t.getD k default).toNat∧(t.getD k default).toNat≤122
  ·rw[if_pos hc] at key
   exact⟨.inr false,ah key,(fun x e=>by cases e),fun b e=>by cases e; rfl⟩
  ·rw[if_neg hc] at key
   obtain⟨r,h1,h2,h3⟩:=kR ht d (k+1) (by omega)
   refine⟨r,by rw[ak key]; exact h1,fun x e i i1 i2=>?_,h3⟩
   by_cases hi:i=k
   ·rw[hi]; exact hc
   ·exact h2 x e i (by omega) i2
theorem cap_f (t:List UInt8): ∃b,g_2.f t=some b∧(b=true→0<t.length∧t.length≤31∧cy (t.getD 0 default)=true∧ ∀i,i<t.length→cJ (t.getD i default)=true):=by
 have nm: ∃b,g_3.f t=some b∧(b=true→0<t.length∧t.length≤31∧bLt (t.getD 0 default)=true∧ ∀i,i<t.length→rJ (t.getD i default)=true):=by
  unfold g_3.f
  by_cases h0:t= []∨31<t.length
  ·rw[if_pos (by simp; rcases h0 with q | q; exact .inl q; exact .inr (by omega)),Option.bind_some,if_pos rfl]
   exact⟨false,rfl,fun e=>by cases e⟩
  ·have hp:0<t.length:=by
    cases t with
    | nil=>exact absurd (.inl rfl) h0
    | cons _ _=>simp
   rw[if_neg (by simp; constructor; exact fun q=>h0 (.inl q); omega),if_pos ⟨by omega,by omega⟩,show(0:Int)=((0:Nat):Int) from rfl,aB,kQ,Option.bind_some,Option.bind_some]
   show ∃b,(if(!bLt (t.getD 0 default))=true then _ else _)=some b∧_
   cases hb:bLt (t.getD 0 default)
   ·exact⟨false,rfl,fun e=>by cases e⟩
   ·obtain⟨r,h1,h2,h3⟩:=ji (t:=t) (by omega) t.length 0 (by omega)
    rw[if_neg (by decide),h1,Option.bind_some]
    cases r with
    | inl x=>exact⟨true,rfl,fun _=>⟨hp,by omega,rfl,fun i hi=>h2 x rfl i (Nat.zero_le _) hi⟩⟩
    | inr b=>exact⟨b,rfl,fun e=>by rw[h3 b rfl] at e; cases e⟩
 obtain⟨b,e,hb⟩:=nm
 unfold g_2.f
 rw[e,Option.bind_some]
 cases b
 ·exact⟨false,rfl,fun e=>by cases e⟩
 ·obtain⟨b1,b2,b3,b4⟩:=hb rfl
  obtain⟨r,h1,h2,h3⟩:=kR (t:=t) (by omega) t.length 0 (by omega)
  have h1':iter (g_2.b0 t) 0=some r:=h1
  rw[if_neg (by decide),h1',Option.bind_some]
  cases r with
  | inl x =>
   refine⟨true,rfl,fun _=>⟨b1,b2,oi b3 (h2 x rfl 0 (Nat.zero_le _) b1),fun i hi=>?_⟩⟩
   have q:=b4 i hi
   unfold rJ at q
   rw[Bool.or_eq_true,Bool.or_eq_true] at q
   unfold cJ
   rcases q with(q | q) | q
   ·rw[q,Bool.or_true]
   ·rw[oi q (h2 x rfl i (Nat.zero_le _) hi)]; rfl
   ·rw[q,Bool.or_true]; rfl
  | inr b=>exact⟨b,rfl,fun e=>by rw[h3 b rfl] at e; cases e⟩
theorem opK_one {L:List Int} {t sg:List UInt8} {a:Nat}: ∀d k,opK L t sg d k= [(a:Int)]→(k≤a∧a<k+d∧L.getD a default=0∧sg.contains (t.getD a default)=true)∧ ∀i,k≤i→i<k+d→i≠a→L.getD i default=0→sg.contains (t.getD i default)=false:=by
 have nil: ∀d k,opK L t sg d k= []→ ∀i,k≤i→i<k+d→L.getD i default=0→sg.contains (t.getD i default)=false:=by
  intro d
  induction d with
  | zero=>intro k h i h1 h2; omega
  | succ d ih =>
   intro k h i h1 h2 h0
   unfold opK at h
   rw[List.append_eq_nil_iff] at h
   by_cases e:i=k
   ·rw[e] at h0 ⊢
    have:=h.1
    split at this
    ·cases this
    ·rename_i hn
     rw[Bool.eq_false_iff]; exact fun q=>hn ⟨h0,q⟩
   ·exact ih (k+1) h.2 i (by omega) (by omega) h0
 intro d
 induction d with
 | zero=>intro k h; cases h
 | succ d ih =>
  intro k h
  unfold opK at h
  split at h
  ·rename_i hk
   simp only[List.cons_append,List.nil_append,List.cons.injEq] at h
   obtain rfl:k=a:=by omega
   exact⟨⟨Nat.le_refl _,by omega,hk.1,hk.2⟩,fun i h1 h2 h3 h4=>nil d (k+1) h.2 i (by omega) (by omega) h4⟩
  ·rename_i hk
   rw[List.nil_append] at h
   obtain⟨⟨h1,h2,h3,h4⟩,h5⟩:=ih (k+1) h
   refine⟨⟨by omega,by omega,h3,h4⟩,fun i i1 i2 i3 i4=>?_⟩
   by_cases e:i=k
   ·rw[e] at i4 ⊢
    rw[Bool.eq_false_iff]; exact fun q=>hk ⟨i4,q⟩
   ·exact h5 i (by omega) (by omega) i3 i4
theorem jj {t pC:List UInt8} {x31:Int} {L:List Int} {z:Nat} (hL:L.length<10000) (hz:z+1<L.length) (he:w64 ((w64 ((w64 ((t.length:Int)-(pC.length:Int)))-1))-1)=(z:Int)): ∀(d k:Nat) (b:Bool),k+d=z →
  ∃q,iter (g_2c.b1 pC x31 t (L,0)) (b,(k:Int))=some q∧(x31=1→q.1=true→ ∀i,k≤i→i<z→L.getD i default≠0)
 | 0,k,b,h=>⟨(b,(k:Int)),ah (by unfold g_2c.b1; simp only[he]; rw[if_neg (by simp; intro q; omega)]),fun _ _ i h1 h2=>by omega⟩
 | d+1,k,b,h=>by
  by_cases h1:x31=1
  ·have key:g_2c.b1 pC x31 t (L,0) (b,(k:Int))=some (.inl (b&&(L.getD k default != 0),((k+1:Nat):Int))):=by
    unfold g_2c.b1
    simp only[he]
    rw[if_pos (by simp[h1]; omega),aq (by omega) (by omega)]
    cases b
    ·rfl
    ·rw[if_pos rfl,if_pos ⟨by omega,by omega⟩,aB]; rfl
   obtain⟨q,q1,q2⟩:=jj (x31:=x31) hL hz he d (k+1) (b&&(L.getD k default != 0)) (by omega)
   refine⟨q,by rw[ak key]; exact q1,fun hx hq i i1 i2=>?_⟩
   by_cases e:i=k
   ·rw[e]
    -- once false, false
    have mono: ∀(d k:Nat) (b:Bool) (q:Bool×Int),k+d=z→iter (g_2c.b1 pC x31 t (L,0)) (b,(k:Int))=some q→q.1=true→b=true:=by
     intro d
     induction d with
     | zero =>
      intro k b q hk hq ht
      rw[ah (r:=(b,(k:Int))) (by unfold g_2c.b1; simp only[he]; rw[if_neg (by simp; intro q; omega)])] at hq
      obtain rfl:=Option.some.inj hq
      exact ht
     | succ d ih =>
      intro k b q hk hq ht
      rw[ak (y:=(b&&(L.getD k default != 0),((k+1:Nat):Int))) (by
       unfold g_2c.b1
       simp only[he]
       rw[if_pos (by simp[h1]; omega),aq (by omega) (by omega)]
       cases b
       ·rfl
       ·rw[if_pos rfl,if_pos ⟨by omega,by omega⟩,aB]; rfl)] at hq
      have:=ih (k+1) _ q (by omega) hq ht
      rw[Bool.and_eq_true] at this
      exact this.1
    have:=mono d (k+1) _ q (by omega) q1 hq
    rw[Bool.and_eq_true] at this
    simpa using this.2
   ·exact q2 hx hq i (by omega) i2
  ·refine⟨(b,(k:Int)),ah ?_,fun hx=>absurd hx h1⟩
   unfold g_2c.b1
   rw[if_neg (by simp[h1])]
theorem mQ {t:List UInt8} {x:RD} (h:g_e.f t=some ([x],0)) (f:Bool):g_b.f t f=some (x.1,x.2.1,x.2.2,0):=by
 unfold g_b.f
 rw[h,Option.bind_some]
 simp only
 have el:((([x]:List RD).length:Nat):Int)=1:=rfl
 rw[el,if_neg (by decide),if_neg (by decide),if_pos (by decide),if_pos ⟨by decide,by decide⟩]
 rfl
theorem qF {pA pB pC:List UInt8} {x31:Int} (hA:0<pA.length∧pA.length≤31∧cy (pA.getD 0 default)=true∧ ∀i,i<pA.length→cJ (pA.getD i default)=true) (hB:pB.length≤200) (hC:pC.length≤200) (hx:x31=0∨x31=1) :
  g_2c.b0 pA pB pC x31=some (.inl (x31+1)):=by
 obtain⟨a1,a2,a3,a4⟩:=hA
 have hw:w64 (x31+1)=x31+1:=aq (by omega) (by omega)
 -- the text
 obtain⟨t,ht,e0,ep,eC⟩: ∃t:List UInt8,t.length<10000∧(if(x31==1)=true then(if pA.length+([40]:List UInt8).length<1000000000 then(if(pA++ [40]).length+pB.length<1000000000 then(if((pA++ [40])++pB).length+([41,61]:List UInt8).length<1000000000 then(if(((pA++ [40])++pB)++ [41,61]).length+pC.length<1000000000 then some ((((pA++ [40])++pB)++ [41,61])++pC) else none) else none) else none) else none) else some ((pA++ [61])++pC))=some t ∧
   (∃r,t=pA++r)∧((x31=0∧t.length=pA.length+1+pC.length∧t.getD pA.length default=61)∨(x31=1∧t.length=pA.length+pB.length+3+pC.length∧t.getD pA.length default=40∧t.getD (pA.length+pB.length+1) default=41∧t.getD (pA.length+pB.length+2) default=61)):=by
  rcases hx with rfl | rfl
  ·refine⟨(pA++ [61])++pC,by simp; omega,by rw[if_neg (by decide)],⟨[61]++pC,by simp⟩,.inl ⟨rfl,by simp; omega,?_⟩⟩
   rw[List.append_assoc,List.getD_eq_getElem?_getD,List.getElem?_append_right (Nat.le_refl _)]; simp
  ·refine⟨(((pA++ [40])++pB)++ [41,61])++pC,by simp; omega,?_,⟨[40]++pB++ [41,61]++pC,by simp⟩,.inr ⟨rfl,by simp; omega,?_,?_,?_⟩⟩
   ·rw[if_pos (by decide),if_pos (by simp; omega),if_pos (by simp; omega),if_pos (by simp; omega),if_pos (by simp; omega)]
   ·rw[show(((pA++ [40])++pB)++ [41,61])++pC=pA++([40]++pB++ [41,61]++pC) by simp,List.getD_eq_getElem?_getD,List.getElem?_append_right (Nat.le_refl _)]; simp
   ·rw[show(((pA++ [40])++pB)++ [41,61])++pC=(pA++ [40]++pB)++([41,61]++pC) by simp,List.getD_eq_getElem?_getD,List.getElem?_append_right (by simp; omega),show pA.length+pB.length+1-(pA++ [40]++pB:List UInt8).length=0 by(simp only[List.length_append,List.length_cons,List.length_nil]; omega)]; rfl
   ·rw[show(((pA++ [40])++pB)++ [41,61])++pC=(pA++ [40]++pB)++([41,61]++pC) by simp,List.getD_eq_getElem?_getD,List.getElem?_append_right (by simp; omega),show pA.length+pB.length+2-(pA++ [40]++pB:List UInt8).length=1 by(simp only[List.length_append,List.length_cons,List.length_nil]; omega)]; rfl
 unfold g_2c.b0
 rw[if_pos (by rw[decide_eq_true_eq]; omega),if_pos (by simp; omega),if_pos (by simp; omega),e0,Option.bind_some,tu ht,Option.bind_some,hw]
 by_cases hct:(CT t).2=0
 ·rw[if_pos hct]
  simp only
  have hv:=Vd.of hct
  have hg:=hv.par
  have e1:(((0:Int) != 0)||decide (pC= []))=decide (pC= []):=rfl
  rw[e1]
  by_cases hp:pC= []
  ·rw[if_pos (decide_eq_true hp)]
  ·rw[if_neg (by simpa using hp)]
   have hpC:0<pC.length:=by
    cases pC with
    | nil=>exact absurd rfl hp
    | cons _ _=>simp
   -- where the sign is
   obtain⟨at_,hat,hatl⟩: ∃a:Nat,w64 ((w64 ((t.length:Int)-(pC.length:Int)))-1)=(a:Int)∧a+1+pC.length=t.length:=by
    refine⟨t.length-pC.length-1,?_,?_⟩
    ·rw[aq (x:=(t.length:Int)-(pC.length:Int)) (by omega) (by omega),aq (by rcases eC with q | q<;>omega) (by omega)]
     rcases eC with q | q<;>omega
    ·rcases eC with q | q<;>omega
   rw[hat]
   obtain⟨q,q1,q2⟩:=ints_f (a:=opK (LV t) t [61,44] t.length 0) (b:=[(at_:Int)]) (by have:=qt (LV t) t [61,44] t.length 0; omega) (by simp)
   rw[q1,Option.bind_some]
   cases q
   ·rw[if_pos (by decide)]
   ·rw[if_neg (by decide)]
    obtain⟨⟨_,_,o0,o1⟩,o2⟩:=opK_one _ _ (q2 rfl)
    rw[o7 ht,if_pos hct,Option.bind_some]
    simp only
    have hLl:=mG t
    rw[hLl,if_neg (by simp)]
    -- the name
    obtain⟨r,hr⟩:=ep
    have hN: ∀i,i<pA.length→cJ (t.getD i default)=true:=fun i hi=>by
     rw[hr,List.getD_eq_getElem?_getD,List.getElem?_append_left hi,← List.getD_eq_getElem?_getD]; exact a4 i hi
    have hlt:cy (t.getD 0 default)=true:=by
     rw[hr,List.getD_eq_getElem?_getD,List.getElem?_append_left a1,← List.getD_eq_getElem?_getD]; exact a3
    have lev:=pg hv (p:=pA.length) (by rcases eC with q | q<;>omega) hN (by
     rcases eC with q | q
     ·exact .inl q.2.2
     ·exact .inr q.2.2.1)
    have e61:t.getD at_ default=61:=by
     rcases eC with⟨_,q,q'⟩ | ⟨_,q,_,_,q'⟩
     ·rw[show at_=pA.length by omega]; exact q'
     ·rw[show at_=pA.length+pB.length+2 by omega]; exact q'
    have hn: ∀i,at_+1≤i→i<t.length→(LV t).getD i default=0→([61,44]:List UInt8).contains (t.getD i default)=false:=fun i h1 h2 h3=>o2 i (Nat.zero_le _) (by omega) (by omega) h3
    -- the inside
    have fin:(x31=1→ ∀i,pA.length+1≤i→i<at_-1→(LV t).getD i default≠0)→g_b.f t false=some (0,-1,[],0):=fun hin=>by
     have hk:g_1c.f t (LV t) 0 [] true 0=some ((t.length:Int),[],true):=by
      refine asg_fw hg a1 a2 (fun i hi=>⟨lev i (by omega),hN i hi⟩) hlt (by omega) o0 e61 ?_ hn
      rcases eC with⟨_,q,_⟩ | ⟨hx1,q,q40,q41,_⟩
      ·exact .inl (by omega)
      ·right
       have p0:=lev pA.length (Nat.le_refl _)
       obtain⟨j,j1,j2,j3,j4,j5⟩:=hg.par pA.length (by omega) p0 q40
       have hj:j=at_-1:=by
        rcases Nat.lt_trichotomy j (at_-1) with h | h | h
        ·exact absurd j3 (hin hx1 j (by omega) h)
        ·exact h
        ·exfalso
         rcases Nat.lt_trichotomy j at_ with h' | h' | h'
         ·omega
         ·rw[h',e61] at j4; revert j4; decide
         ·exact j5 at_ (by omega) h' o0
       rw[hj] at j3 j4 j5
       exact⟨p0,q40,by omega,j3,j4,j5⟩
     have hr0:=lg hv hk
     have:g_e.f t=some ([(0,-1,[])],0):=by
      unfold g_e.f
      rw[mH ht,Option.bind_some,hct,if_neg (by decide),hr0]; rfl
     exact mQ this false
    rcases eC with⟨hx0,q,_⟩ | ⟨hx1,q,_⟩
    ·have st:g_2c.b1 pC x31 t (LV t,0) (true,w64 ((pA.length:Int)+1))=some (.inr (true,w64 ((pA.length:Int)+1))):=by
      unfold g_2c.b1
      rw[if_neg (by simp[hx0])]
     rw[ah st,Option.bind_some,if_neg (by simp),fin (fun h=>by omega),Option.bind_some]
     rfl
    ·have hz:w64 ((at_:Int)-1)=((at_-1:Nat):Int):=by rw[aq (by omega) (by omega)]; omega
     obtain⟨q',i1,i2⟩:=jj (t:=t) (pC:=pC) (x31:=x31) (L:=LV t) (z:=at_-1) (by omega) (by omega) (by rw[hat,hz]) (at_-1-(pA.length+1)) (pA.length+1) true (by omega)
     have e2:w64 ((pA.length:Int)+1)=((pA.length+1:Nat):Int):=by rw[aq (by omega) (by omega)]; rfl
     rw[e2,i1,Option.bind_some]
     cases hq:q'.1
     ·rw[if_pos (by simp)]
     ·rw[if_neg (by decide),fin (fun h=>i2 h hq),Option.bind_some]
      rfl
 ·rw[if_neg hct]
  simp only
  rw[if_pos (by simp[hct])]
theorem sq_f {t:List UInt8} (ht:t.length<10000): ∃y,g_2e.f t=some y:=by
 obtain⟨y,h,_⟩:=CS_ref ht
 exact⟨y,h⟩
theorem law10 (a b c:List UInt8):g_2c.f a b c=some true:=by
 unfold g_2c.f
 rw[awake_t,Option.bind_some,if_neg (by decide)]
 obtain⟨q,q1,q2⟩:=cap_f a
 rw[q1,Option.bind_some]
 by_cases h:q=false∨200<b.length∨200<c.length
 ·rw[if_pos]
  rcases h with h | h | h
  ·rw[h]; rfl
  ·rw[decide_eq_true (p:=(b.length:Int)>200) (by omega)]; cases q<;>rfl
  ·rw[decide_eq_true (p:=(c.length:Int)>200) (by omega)]; cases q<;>simp
 ·have hq:q=true:=by cases q; exact absurd (.inl rfl) h; rfl
  subst hq
  rw[if_neg (by rw[decide_eq_false (p:=(b.length:Int)>200) (by omega),decide_eq_false (p:=(c.length:Int)>200) (by omega)]; decide)]
  obtain⟨y,hy⟩:=sq_f (t:=b) (by omega)
  obtain⟨z,hz⟩:=sq_f (t:=c) (by omega)
  rw[hy,hz,Option.bind_some]
  split
  ·rfl
  ·rw[Option.bind_some]
   split
   ·rfl
   ·have s0:=qF (pB:=b) (pC:=c) (x31:=0) (q2 rfl) (by omega) (by omega) (.inl rfl)
    have s1:=qF (pB:=b) (pC:=c) (x31:=1) (q2 rfl) (by omega) (by omega) (.inr rfl)
    have s2:g_2c.b0 a b c 2=some (.inr (.inl 2)):=by
     unfold g_2c.b0
     rw[if_neg (by decide)]
    have s0':g_2c.b0 a b c 0=some (.inl 1):=s0
    have s1':g_2c.b0 a b c 1=some (.inl 2):=s1
    rw[ak s0',ak s1',ah s2]; rfl
end Go.Proofs.YtcafgoomipkljaaGreatDoorAi
namespace Go.Proofs.YtcafgoomipkljaaGreatDoorAi
open Go Go.RowKit
theorem kS (s:ByteArray):aa s.data.toList= .string s:=by
 show Value.string ⟨s.data.toList.toArray⟩=_
 rw[Array.toArray_toList]
theorem law10_calls (s u v:ByteArray) (_hs:s.size≤140737488351232) (_hu:u.size≤140737488351232) (_hv:v.size≤140737488351232) (w:World) (hG:Gd w):Calls Tryz.prog 10 #[.string s,.string u,.string v] w fun e w'=>e= .returned (.bool true)∧Below w.heap.size w w':=by
 have h:=s9 (g:=10) (args:=[aa s.data.toList,aa u.data.toList,aa v.data.toList]) Tryz.func10 rfl (fun _ _=>rfl) rfl (v:= .bool true) rfl ((g_2c.ok (F:=F0) (law10 s.data.toList u.data.toList v.data.toList) gl0).mono fun v S' F' q=>q.2.1) w hG
 rw[kS,kS,kS] at h
 exact h
end Go.Proofs.YtcafgoomipkljaaGreatDoorAi
