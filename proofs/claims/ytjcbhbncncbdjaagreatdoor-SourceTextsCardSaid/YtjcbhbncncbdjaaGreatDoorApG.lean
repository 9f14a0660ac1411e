/-
ApG
-/
import Derived.Test.YtjcbhbncncbdjaaGreatDoorApE
import Derived.Test.YtjcbhbncncbdjaaGreatDoorAiD
import Derived.Test.YtjcbhbncncbdjaaGreatDoorShelf
namespace Go.Proofs.YtjcbhbncncbdjaaGreatDoorAi
open Go Go.RowKit
set_option linter.unusedVariables false
set_option maxRecDepth 100000
theorem jP (c:UInt8): ∀l:List UInt8,(List.range l.length).find? (fun i=>l[i]! == c)=l.findIdx? (· == c)
 | []=>rfl
 | x::l=>by
  rw[List.length_cons,List.range_succ_eq_map,List.find?_cons,List.findIdx?_cons]
  show(match (x==c) with | true=>some 0 | false=>_)=_
  cases h:(x==c)
  ·simp only[Bool.false_eq_true,if_false]
   rw[List.find?_map,← jP c l]
   rfl
  ·rfl
theorem qo (s:ByteArray) (i:Nat):s[i]! = s.data.toList[i]! := by
 by_cases h:i<s.size
 ·have h2:i<s.data.toList.length:=by simpa using h
  rw[getElem!_pos s i h,getElem!_pos s.data.toList i h2]
  simp[ByteArray.getElem_eq_getElem_data]
 ·have h2: ¬ i<s.data.toList.length:=by simpa using h
  rw[getElem!_neg s i h,getElem!_neg s.data.toList i h2]
theorem idx_run (P:Program) (s:ByteArray) (n:Int) (w:World):(Extern.BytealgIndexByte.indexByte #[.string s,.int .u8 n]).run P w= .ok (.int .i64 (jO s.data.toList (UInt8.ofNat n.toNat))) w:=by
 have e:(List.range s.size).find? (fun i=>s[i]! == UInt8.ofNat n.toNat)=s.data.toList.findIdx? (· == UInt8.ofNat n.toNat):=by
  rw[← jP]
  have:s.size=s.data.toList.length:=by simp
  rw[this]
  congr 1
  funext i
  rw[qo]
 show((match (List.range s.size).find? (fun i=>s[i]! == UInt8.ofNat n.toNat) with | some i=>pure (goInt i) | none=>pure (goInt (-1))):Sem Value).run P w=_
 rw[e]
 unfold jO
 cases s.data.toList.findIdx? (· == UInt8.ofNat n.toNat)<;>rfl
theorem noNum: ∀(g:Nat) fn,Tryz.prog.funcs[g]? = some fn→(fn.name== "runtime.NumGoroutine")=false:=fun g fn h=>by
 have hall:(Tryz.prog.funcs.toList.all fun fn=> !(fn.name== "runtime.NumGoroutine"))=true:=by decide +kernel
 rw[List.all_eq_true] at hall
 have:=hall fn (Array.mem_toList_iff.2 (Array.mem_of_getElem? h))
 simpa using this
theorem oY: ∀g args v,(bif Nat.beq g 154 then gK args else none)=some v→plain v=true∧ ∀w:World,(callFunc g args.toArray).run Tryz.prog w= .ok (.value v) w:=fun g args v h=>by
 cases hg:Nat.beq g 154
 ·rw[hg] at h; cases h
 ·rw[hg] at h
  obtain rfl:=nbT hg
  replace h:gK args=some v:=h
  unfold gK at h
  split at h
  ·next s n =>
   obtain rfl:=Option.some.inj h
   exact⟨rfl,fun w=>lQ (e:=Extern.BytealgIndexByte.indexByte) Tryz.func154 (by kernel_rfl) rfl (by kernel_rfl) (by kernel_rfl) #[.string s,.int .u8 n] (idx_run _ _ _ _)⟩
  ·cases h
theorem mL: ∀g,(Nat.beq g 159)=true→ ∀(x:Value) (w:World),(callFunc g #[x]).run Tryz.prog w= .ok (.value x) w:=fun g h x w=>by
 obtain rfl:=nbT h
 exact lQ (e:=Extern.AbiNoEscape.same) Tryz.func159 (by kernel_rfl) rfl (by kernel_rfl) (by kernel_rfl) #[x] rfl
theorem oZ: ∀g e,(bif Nat.beq g 160 then some 5 else none)=some e→ ∀n:Int,0≤n→n≤140737488355328→ ∀w:World,∃(cap:Nat) (cc:Array Value) (w':World),n.toNat≤cap∧cc.size=cap∧(∀v∈cc,v.oneCell'=true) ∧
  (callFunc g #[.int .i64 n]).run Tryz.prog w= .ok (.value (.slice (some ⟨w.heap.size,0,none⟩) n.toNat cap)) w'∧w'.heap=w.heap.push (.cells cc e)∧w'.os=w.os∧w'.tape=w.tape∧w'.output=w.output:=fun g e h n h0 hn w=>by
 cases hg:Nat.beq g 160
 ·rw[hg] at h; cases h
 ·rw[hg] at h
  obtain rfl:=nbT hg
  obtain rfl:=Option.some.inj h
  exact mnz_run (ps:= #[3]) Tryz.func160 (by kernel_rfl) rfl (by kernel_rfl) (by kernel_rfl) Tryz.underlying83 n h0 hn w
noncomputable def EA:Env:=⟨Tryz.prog,0,fun g args=>bif Nat.beq g 154 then gK args else none,fun g=>Nat.beq g 159,fun g=>bif Nat.beq g 160 then some 5 else none,fun _ _ _ _=>none⟩
theorem ea:dK EA:=⟨fun g args H nx r h=>(by cases h),fun g args H nx r h=>(by cases h),by kernel_rfl,noNum,oY,mL,oZ⟩
theorem qp:lN (rA EA 300 11 [] .e 0)=some (.bool true):=by kernel_rfl
theorem rO (w:World):Calls Tryz.prog 11 #[] w fun e w'=>e= .returned (.bool true)∧Below w.heap.size w w':=mB ea rfl (args:=[]) rfl qp w
theorem HR.stays {μ:Mu} {B:Nat} {h:Nat→Option Blk} {w w':World} (hr:HR μ B h w.heap) (hb:Below w.heap.size w w'):HR μ B h w'.heap:=by
 refine⟨fun i b e=>?_,hr.apart⟩
 obtain⟨L,h1,h2⟩:=hr.blk i b e
 refine⟨L,h1,h2.mono (bD.refl μ) (hb.block L.blk ?_)⟩
 cases b with
 | row cs e z own=>obtain⟨cc,fz,e',h3,_⟩:=h2; exact(Array.getElem?_eq_some_iff.1 h3).1
 | iter s p=>exact(Array.getElem?_eq_some_iff.1 h2.1).1
theorem fm {v v':Value} {H:T} {nx:Nat} {μ:Mu} {B:Nat} {F:Nat→Option Blk} {w w':World} (hv:VR μ v v') (hr:HR μ B (cj H F) w.heap) (hF: ∀i,F i≠none→H.get i=none) (hB:B≤w.heap.size) (hb:Below w.heap.size w w'):kh (v,H,nx,[]) μ B F w nx v' w' :=
 ⟨μ,hv,hr.stays hb,hF,bD.refl μ,fun i _=>rfl,hb.mono hB⟩
theorem atoi_ok {args:List Value} {H:T} {nx:Nat} {r:R} (h:dM args H nx=some r) {μ:Mu} {B:Nat} {F:Nat→Option Blk} {w:World} {args':Array Value} (hA:eA μ args args') (hr:HR μ B (cj H F) w.heap) (hF: ∀i,F i≠none→H.get i=none) (hG:kf EV.NG μ) (hB:B≤w.heap.size) :
  Calls Tryz.prog 146 args' w fun e w'=> ∃v',e= .returned v'∧kh r μ B F w nx v' w':=by
 unfold dM at h
 split at h
 ·next s e z own hcell =>
  obtain⟨h1,h⟩:=ac h
  have hsz:=hA.1
  obtain⟨a,rfl⟩: ∃a,args'= #[a]:=by
   match args',hsz with
   | ⟨[a]⟩,_=>exact⟨a,rfl⟩
  have ha:=(hA.2 0 (.string s) a rfl rfl).string
  subst ha
  have hH:(cj H F) 8=some (.row [.iface 249 (.chan (some 0))] e z own):=by unfold cj; rw[hcell]
  obtain⟨L,hL,cc,fz,e',q1,q2,q3,q4,q5,q6⟩:=hr.blk 8 _ hH
  obtain⟨L',hL',hblk,hoff⟩:=hG 8 (by decide)
  rw[hL] at hL'
  obtain rfl:=Option.some.inj hL'
  obtain⟨y,y1,y2,y3⟩:=q5 0 _ rfl
  obtain⟨u,rfl,hu⟩:=y2.ifaceI
  have hc:w.cell? ⟨8,0,none⟩=some (.iface 249 u):=by
   rw[hblk] at q1
   rw[hoff] at y1
   simp[World.cell?,q1]
   exact y1
  split at h
  ·rename_i v hat
   obtain rfl:=Option.some.inj h
   refine(Tryz.strconv_Atoi_ok s (by omega) v hat w).mono ?_
   rintro e1 w' ⟨rfl,hw⟩
   refine⟨_,rfl,fm (.plain rfl) hr hF hB ?_⟩
   rcases hw with rfl | ⟨t,rfl⟩
   ·exact Below.refl _ _
   ·exact Lib.bytesWorld_below _ _ _
  ·rename_i hat
   obtain rfl:=Option.some.inj h
   refine(Tryz.strconv_Atoi_range s h1 hat (.iface 249 u) w hc (.inr ⟨249,u,rfl⟩)).mono ?_
   rintro e1 w' ⟨N,rfl,_,_,hb⟩
   refine⟨_,rfl,fm (.tuple rfl fun k x y p q=>?_) hr hF hB hb⟩
   match k,p,q with
   | 0,p,q=>obtain rfl:=Option.some.inj p; obtain rfl:=Option.some.inj q; exact .plain rfl
   | 1,p,q=>obtain rfl:=Option.some.inj p; obtain rfl:=Option.some.inj q; exact .iface (.some1 rfl)
   | k+2,p,q=>simp at p
  ·cases h
 ·cases h
theorem trim_ok {args:List Value} {H:T} {nx:Nat} {r:R} (h:dN args H nx=some r) {μ:Mu} {B:Nat} {F:Nat→Option Blk} {w:World} {args':Array Value} (hA:eA μ args args') (hr:HR μ B (cj H F) w.heap) (hF: ∀i,F i≠none→H.get i=none) (hB:B≤w.heap.size) :
  Calls Tryz.prog 129 args' w fun e w'=> ∃v',e= .returned v'∧kh r μ B F w nx v' w':=by
 unfold dN at h
 split at h
 ·next s c =>
  split at h
  ·next b hb =>
   obtain⟨h1,h⟩:=ac h
   obtain rfl:=Option.some.inj h
   have hsz:=hA.1
   obtain⟨a1,a2,rfl⟩: ∃a1 a2,args'= #[a1,a2]:=by
    match args',hsz with
    | ⟨[a1,a2]⟩,_=>exact⟨a1,a2,rfl⟩
   have e1:=(hA.2 0 (.string s) a1 rfl rfl).string
   have e2:=(hA.2 1 (.string c) a2 rfl rfl).string
   subst e1 e2
   have hc:c=⟨#[b]⟩:=by
    apply ByteArray.ext
    apply Array.toList_inj.1
    exact hb
   subst hc
   refine(Tryz.strings_Trim_one s b h1.1 w h1.2).mono ?_
   rintro e w' ⟨rfl,hw⟩
   refine⟨_,rfl,fm (.plain rfl) hr hF hB ?_⟩
   rcases hw with rfl | rfl
   ·exact Below.refl _ _
   ·exact Below.drew (Below.refl _ _)
  ·cases h
 ·cases h
theorem over_ok:cJ EV gL:=by
 intro g args H nx r h μ B F w args' hwf hA hr hF hnx hG hB
 replace h:gL g args H nx=some r:=h
 unfold gL at h
 cases g11:Nat.beq g 11
 case true =>
  rw[g11] at h
  obtain rfl:=nbT g11
  simp only[cond_true] at h
  split at h
  ·obtain rfl:=Option.some.inj h
   have hsz:=hA.1
   obtain rfl:args'= #[]:=by
    match args',hsz with
    | ⟨[]⟩,_=>rfl
   refine(rO w).mono ?_
   rintro e w' ⟨rfl,hb⟩
   exact⟨_,rfl,fm (.plain rfl) hr hF hB hb⟩
  ·cases h
 rw[g11] at h
 simp only[cond_false] at h
 cases g146:Nat.beq g 146
 ·rw[g146] at h
  simp only[cond_false] at h
  cases gtr:Nat.beq g 129
  ·rw[gtr] at h; cases h
  ·rw[gtr] at h
   obtain rfl:=nbT gtr
   exact trim_ok h hA hr hF hB
 ·rw[g146] at h
  obtain rfl:=nbT g146
  exact atoi_ok h hA hr hF hG hB
theorem rP {args:List Value} {H:T} {nx:Nat} {r:R} (h:dM args H nx=some r): ∃v,r=(v,H,nx,[]):=by
 unfold dM at h
 split at h
 ·obtain⟨h1,h⟩:=ac h
  split at h
  ·obtain rfl:=Option.some.inj h; exact⟨_,rfl⟩
  ·obtain rfl:=Option.some.inj h; exact⟨_,rfl⟩
  ·cases h
 ·cases h
theorem rQ {args:List Value} {H:T} {nx:Nat} {r:R} (h:dN args H nx=some r): ∃v,r=(v,H,nx,[]):=by
 unfold dN at h
 split at h
 ·split at h
  ·obtain⟨h1,h⟩:=ac h
   obtain rfl:=Option.some.inj h; exact⟨_,rfl⟩
  ·cases h
 ·cases h
theorem rR:av gL:=by
 intro g args H nx r h
 replace h:gL g args H nx=some r:=h
 have key: ∃v,r=(v,H,nx,[]):=by
  unfold gL at h
  cases g11:Nat.beq g 11
  case true =>
   rw[g11] at h
   simp only[cond_true] at h
   split at h
   ·obtain rfl:=Option.some.inj h; exact⟨_,rfl⟩
   ·cases h
  rw[g11] at h
  simp only[cond_false] at h
  cases g146:Nat.beq g 146
  ·rw[g146] at h
   simp only[cond_false] at h
   cases gtr:Nat.beq g 129
   ·rw[gtr] at h; cases h
   ·rw[gtr] at h; exact rQ h
  ·rw[g146] at h; exact rP h
 obtain⟨v,rfl⟩:=key
 exact .same
theorem ev:dK EV:=⟨over_ok,rR,by kernel_rfl,noNum,oY,mL,oZ⟩
end Go.Proofs.YtjcbhbncncbdjaaGreatDoorAi
