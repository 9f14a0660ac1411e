/-
ApG
-/
import Derived.Test.YtcafgoomipkljaaGreatDoorApE
import Derived.Test.YtcafgoomipkljaaGreatDoorAiD
import Derived.Test.YtcafgoomipkljaaGreatDoorShelf
namespace Go.Proofs.YtcafgoomipkljaaGreatDoorAi
open Go Go.RowKit
set_option linter.unusedVariables false
set_option maxRecDepth 100000
theorem kB (c:UInt8): ∀l:List UInt8,(List.range l.length).find? (fun i=>l[i]! == c)=l.findIdx? (· == c)
 | []=>rfl
 | x::l=>by
  rw[List.length_cons,List.range_succ_eq_map,List.find?_cons,List.findIdx?_cons]
  show(match (x==c) with | true=>some 0 | false=>_)=_
  cases h:(x==c)
  ·simp only[Bool.false_eq_true,if_false]
   rw[List.find?_map,← kB c l]
   rfl
  ·rfl
theorem rn (s:ByteArray) (i:Nat):s[i]! = s.data.toList[i]! := by
 by_cases h:i<s.size
 ·have h2:i<s.data.toList.length:=by simpa using h
  rw[getElem!_pos s i h,getElem!_pos s.data.toList i h2]
  simp[ByteArray.getElem_eq_getElem_data]
 ·have h2: ¬ i<s.data.toList.length:=by simpa using h
  rw[getElem!_neg s i h,getElem!_neg s.data.toList i h2]
theorem idx_run (P:Program) (s:ByteArray) (n:Int) (w:World):(Extern.BytealgIndexByte.indexByte #[.string s,.int .u8 n]).run P w= .ok (.int .i64 (jo s.data.toList (UInt8.ofNat n.toNat))) w:=by
 have e:(List.range s.size).find? (fun i=>s[i]! == UInt8.ofNat n.toNat)=s.data.toList.findIdx? (· == UInt8.ofNat n.toNat):=by
  rw[← kB]
  have:s.size=s.data.toList.length:=by simp
  rw[this]
  congr 1
  funext i
  rw[rn]
 show((match (List.range s.size).find? (fun i=>s[i]! == UInt8.ofNat n.toNat) with | some i=>pure (goInt i) | none=>pure (goInt (-1))):Sem Value).run P w=_
 rw[e]
 unfold jo
 cases s.data.toList.findIdx? (· == UInt8.ofNat n.toNat)<;>rfl
theorem noNum: ∀(g:Nat) fn,Tryz.prog.funcs[g]? = some fn→(fn.name== "runtime.NumGoroutine")=false:=fun g fn h=>by
 have hall:(Tryz.prog.funcs.toList.all fun fn=> !(fn.name== "runtime.NumGoroutine"))=true:=by decide +kernel
 rw[List.all_eq_true] at hall
 have:=hall fn (Array.mem_toList_iff.2 (Array.mem_of_getElem? h))
 simpa using this
theorem ext_okV: ∀g args v,(bif Nat.beq g 139 then jv args else none)=some v→plain v=true∧ ∀w:World,(callFunc g args.toArray).run Tryz.prog w= .ok (.value v) w:=fun g args v h=>by
 cases hg:Nat.beq g 139
 ·rw[hg] at h; cases h
 ·rw[hg] at h
  obtain rfl:=nbT hg
  replace h:jv args=some v:=h
  unfold jv at h
  split at h
  ·next s n =>
   obtain rfl:=Option.some.inj h
   exact⟨rfl,fun w=>pQ (e:=Extern.BytealgIndexByte.indexByte) Tryz.func139 (by kernel_rfl) rfl (by kernel_rfl) (by kernel_rfl) #[.string s,.int .u8 n] (idx_run _ _ _ _)⟩
  ·cases h
theorem sY: ∀g,(Nat.beq g 102)=true→ ∀(x:Value) (w:World),(callFunc g #[x]).run Tryz.prog w= .ok (.value x) w:=fun g h x w=>by
 obtain rfl:=nbT h
 exact pQ (e:=Extern.AbiNoEscape.same) Tryz.func102 (by kernel_rfl) rfl (by kernel_rfl) (by kernel_rfl) #[x] rfl
theorem mnz_okV: ∀g e,(fun _=>none:FuncId→Option TypeId) g=some e→ ∀n:Int,0≤n→n≤140737488355328→ ∀w:World,∃(cap:Nat) (cc:Array Value) (w':World),n.toNat≤cap∧cc.size=cap∧(∀v∈cc,v.oneCell'=true) ∧
  (callFunc g #[.int .i64 n]).run Tryz.prog w= .ok (.value (.slice (some ⟨w.heap.size,0,none⟩) n.toNat cap)) w'∧w'.heap=w.heap.push (.cells cc e)∧w'.os=w.os∧w'.tape=w.tape∧w'.output=w.output:=fun g e h=>by cases h
theorem HR.stays {μ:Mu} {B:Nat} {h:Nat→Option Blk} {w w':World} (hr:HR μ B h w.heap) (hb:Below w.heap.size w w'):HR μ B h w'.heap:=by
 refine⟨fun i b e=>?_,hr.apart⟩
 obtain⟨L,h1,h2⟩:=hr.blk i b e
 refine⟨L,h1,h2.mono (cC.refl μ) (hb.block L.blk ?_)⟩
 cases b with
 | row cs e z own=>obtain⟨cc,fz,e',h3,_⟩:=h2; exact(Array.getElem?_eq_some_iff.1 h3).1
 | iter s p=>exact(Array.getElem?_eq_some_iff.1 h2.1).1
theorem iL {v v':Value} {H:T} {nx:Nat} {μ:Mu} {B:Nat} {F:Nat→Option Blk} {w w':World} (hv:VR μ v v') (hr:HR μ B (cm H F) w.heap) (hF: ∀i,F i≠none→H.get i=none) (hB:B≤w.heap.size) (hb:Below w.heap.size w w'):kW (v,H,nx,[]) μ B F w nx v' w' :=
 ⟨μ,hv,hr.stays hb,hF,cC.refl μ,fun i _=>rfl,hb.mono hB⟩
theorem atoi_ok {args:List Value} {H:T} {nx:Nat} {r:R} (h:dR args H nx=some r) {μ:Mu} {B:Nat} {F:Nat→Option Blk} {w:World} {args':Array Value} (hA:gM μ args args') (hr:HR μ B (cm H F) w.heap) (hF: ∀i,F i≠none→H.get i=none) (hG:nj EV.NG μ) (hB:B≤w.heap.size) :
  Calls Tryz.prog 158 args' w fun e w'=> ∃v',e= .returned v'∧kW r μ B F w nx v' w':=by
 unfold dR at h
 split at h
 ·next s e z own hcell =>
  obtain⟨h1,h⟩:=ac h
  have hsz:=hA.1
  obtain⟨a,rfl⟩: ∃a,args'= #[a]:=by
   match args',hsz with
   | ⟨[a]⟩,_=>exact⟨a,rfl⟩
  have ha:=(hA.2 0 (.string s) a rfl rfl).string
  subst ha
  have hH:(cm H F) 2=some (.row [.iface 172 (.chan (some 0))] e z own):=by unfold cm; rw[hcell]
  obtain⟨L,hL,cc,fz,e',q1,q2,q3,q4,q5,q6⟩:=hr.blk 2 _ hH
  obtain⟨L',hL',hblk,hoff⟩:=hG 2 (by decide)
  rw[hL] at hL'
  obtain rfl:=Option.some.inj hL'
  obtain⟨y,y1,y2,y3⟩:=q5 0 _ rfl
  obtain⟨u,rfl,hu⟩:=y2.ifaceI
  have hc:w.cell? ⟨2,0,none⟩=some (.iface 172 u):=by
   rw[hblk] at q1
   rw[hoff] at y1
   simp[World.cell?,q1]
   exact y1
  split at h
  ·rename_i v hat
   obtain rfl:=Option.some.inj h
   refine(Tryz.strconv_Atoi_ok s (by omega) v hat w).mono ?_
   rintro e1 w' ⟨rfl,hw⟩
   refine⟨_,rfl,iL (.plain rfl) hr hF hB ?_⟩
   rcases hw with rfl | ⟨t,rfl⟩
   ·exact Below.refl _ _
   ·exact Lib.bytesWorld_below _ _ _
  ·rename_i hat
   obtain rfl:=Option.some.inj h
   refine(Tryz.strconv_Atoi_range s h1 hat (.iface 172 u) w hc (.inr ⟨172,u,rfl⟩)).mono ?_
   rintro e1 w' ⟨N,rfl,_,_,hb⟩
   refine⟨_,rfl,iL (.tuple rfl fun k x y p q=>?_) hr hF hB hb⟩
   match k,p,q with
   | 0,p,q=>obtain rfl:=Option.some.inj p; obtain rfl:=Option.some.inj q; exact .plain rfl
   | 1,p,q=>obtain rfl:=Option.some.inj p; obtain rfl:=Option.some.inj q; exact .iface (.some1 rfl)
   | k+2,p,q=>simp at p
  ·cases h
 ·cases h
theorem trim_ok {args:List Value} {H:T} {nx:Nat} {r:R} (h:dS args H nx=some r) {μ:Mu} {B:Nat} {F:Nat→Option Blk} {w:World} {args':Array Value} (hA:gM μ args args') (hr:HR μ B (cm H F) w.heap) (hF: ∀i,F i≠none→H.get i=none) (hB:B≤w.heap.size) :
  Calls Tryz.prog 165 args' w fun e w'=> ∃v',e= .returned v'∧kW r μ B F w nx v' w':=by
 unfold dS at h
 split at h
 ·next s c =>
  split at h
  ·next b hb =>
   obtain⟨h1,h⟩:=ac h
   obtain rfl:=Option.some.inj h
   have hsz:=hA.1
   obtain⟨a1,a2,rfl⟩: ∃a1 a2,args'= #[a1,a2]:=by
    match args',hsz with
    | ⟨[a1,a2]⟩,_=>exact⟨a1,a2,rfl⟩
   have e1:=(hA.2 0 (.string s) a1 rfl rfl).string
   have e2:=(hA.2 1 (.string c) a2 rfl rfl).string
   subst e1 e2
   have hc:c=⟨#[b]⟩:=by
    apply ByteArray.ext
    apply Array.toList_inj.1
    exact hb
   subst hc
   refine(Tryz.strings_Trim_one s b h1.1 w h1.2).mono ?_
   rintro e w' ⟨rfl,hw⟩
   refine⟨_,rfl,iL (.plain rfl) hr hF hB ?_⟩
   rcases hw with rfl | rfl
   ·exact Below.refl _ _
   ·exact Below.drew (Below.refl _ _)
  ·cases h
 ·cases h
theorem over_ok:cS EV g0:=by
 intro g args H nx r h μ B F w args' hwf hA hr hF hnx hG hB
 replace h:g0 g args H nx=some r:=h
 unfold g0 at h
 cases g146:Nat.beq g 158
 ·rw[g146] at h
  simp only[cond_false] at h
  cases gtr:Nat.beq g 165
  ·rw[gtr] at h; cases h
  ·rw[gtr] at h
   obtain rfl:=nbT gtr
   exact trim_ok h hA hr hF hB
 ·rw[g146] at h
  obtain rfl:=nbT g146
  exact atoi_ok h hA hr hF hG hB
theorem sZ {args:List Value} {H:T} {nx:Nat} {r:R} (h:dR args H nx=some r): ∃v,r=(v,H,nx,[]):=by
 unfold dR at h
 split at h
 ·obtain⟨h1,h⟩:=ac h
  split at h
  ·obtain rfl:=Option.some.inj h; exact⟨_,rfl⟩
  ·obtain rfl:=Option.some.inj h; exact⟨_,rfl⟩
  ·cases h
 ·cases h
theorem s6 {args:List Value} {H:T} {nx:Nat} {r:R} (h:dS args H nx=some r): ∃v,r=(v,H,nx,[]):=by
 unfold dS at h
 split at h
 ·split at h
  ·obtain⟨h1,h⟩:=ac h
   obtain rfl:=Option.some.inj h; exact⟨_,rfl⟩
  ·cases h
 ·cases h
theorem s7:az g0:=by
 intro g args H nx r h
 replace h:g0 g args H nx=some r:=h
 have key: ∃v,r=(v,H,nx,[]):=by
  unfold g0 at h
  cases g146:Nat.beq g 158
  ·rw[g146] at h
   simp only[cond_false] at h
   cases gtr:Nat.beq g 165
   ·rw[gtr] at h; cases h
   ·rw[gtr] at h; exact s6 h
  ·rw[g146] at h; exact sZ h
 obtain⟨v,rfl⟩:=key
 exact .same
theorem ev:eV EV:=⟨over_ok,s7,by kernel_rfl,noNum,ext_okV,sY,mnz_okV⟩
end Go.Proofs.YtcafgoomipkljaaGreatDoorAi
