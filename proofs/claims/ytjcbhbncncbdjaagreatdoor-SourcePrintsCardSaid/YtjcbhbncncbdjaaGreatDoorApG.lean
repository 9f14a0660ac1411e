/-
ApG
-/
import Derived.Test.YtjcbhbncncbdjaaGreatDoorApE
import Derived.Test.YtjcbhbncncbdjaaGreatDoorAiD
import Derived.Test.YtjcbhbncncbdjaaGreatDoorShelf
namespace Go.Proofs.YtjcbhbncncbdjaaGreatDoorAi
open Go Go.RowKit
set_option linter.unusedVariables false
set_option maxRecDepth 100000
theorem ie (c:UInt8): ∀l:List UInt8,(List.range l.length).find? (fun i=>l[i]! == c)=l.findIdx? (· == c)
 | []=>rfl
 | x::l=>by
  rw[List.length_cons,List.range_succ_eq_map,List.find?_cons,List.findIdx?_cons]
  show(match (x==c) with | true=>some 0 | false=>_)=_
  cases h:(x==c)
  ·simp only[Bool.false_eq_true,if_false]
   rw[List.find?_map,← ie c l]
   rfl
  ·rfl
theorem ni (s:ByteArray) (i:Nat):s[i]! = s.data.toList[i]! := by
 by_cases h:i<s.size
 ·have h2:i<s.data.toList.length:=by simpa using h
  rw[getElem!_pos s i h,getElem!_pos s.data.toList i h2]
  simp[ByteArray.getElem_eq_getElem_data]
 ·have h2: ¬ i<s.data.toList.length:=by simpa using h
  rw[getElem!_neg s i h,getElem!_neg s.data.toList i h2]
theorem idx_run (P:Program) (s:ByteArray) (n:Int) (w:World):(Extern.BytealgIndexByte.indexByte #[.string s,.int .u8 n]).run P w= .ok (.int .i64 (nh s.data.toList (UInt8.ofNat n.toNat))) w:=by
 have e:(List.range s.size).find? (fun i=>s[i]! == UInt8.ofNat n.toNat)=s.data.toList.findIdx? (· == UInt8.ofNat n.toNat):=by
  rw[← ie]
  have:s.size=s.data.toList.length:=by simp
  rw[this]
  congr 1
  funext i
  rw[ni]
 show((match (List.range s.size).find? (fun i=>s[i]! == UInt8.ofNat n.toNat) with | some i=>pure (goInt i) | none=>pure (goInt (-1))):Sem Value).run P w=_
 rw[e]
 unfold nh
 cases s.data.toList.findIdx? (· == UInt8.ofNat n.toNat)<;>rfl
theorem noNum: ∀(g:Nat) fn,Tryz.prog.funcs[g]? = some fn→(fn.name== "runtime.NumGoroutine")=false:=fun g fn h=>by
 have hall:(Tryz.prog.funcs.toList.all fun fn=> !(fn.name== "runtime.NumGoroutine"))=true:=by decide +kernel
 rw[List.all_eq_true] at hall
 have:=hall fn (Array.mem_toList_iff.2 (Array.mem_of_getElem? h))
 simpa using this
theorem mC: ∀g args v,(bif Nat.beq g 154 then fh args else none)=some v→plain v=true∧ ∀w:World,(callFunc g args.toArray).run Tryz.prog w= .ok (.value v) w:=fun g args v h=>by
 cases hg:Nat.beq g 154
 ·rw[hg] at h; cases h
 ·rw[hg] at h
  obtain rfl:=nbT hg
  replace h:fh args=some v:=h
  unfold fh at h
  split at h
  ·next s n =>
   obtain rfl:=Option.some.inj h
   exact⟨rfl,fun w=>jF (e:=Extern.BytealgIndexByte.indexByte) Tryz.func154 (by kernel_rfl) rfl (by kernel_rfl) (by kernel_rfl) #[.string s,.int .u8 n] (idx_run _ _ _ _)⟩
  ·cases h
theorem kG: ∀g,(Nat.beq g 159)=true→ ∀(x:Value) (w:World),(callFunc g #[x]).run Tryz.prog w= .ok (.value x) w:=fun g h x w=>by
 obtain rfl:=nbT h
 exact jF (e:=Extern.AbiNoEscape.same) Tryz.func159 (by kernel_rfl) rfl (by kernel_rfl) (by kernel_rfl) #[x] rfl
theorem mD: ∀g e,(bif Nat.beq g 160 then some 5 else none)=some e→ ∀n:Int,0≤n→n≤140737488355328→ ∀w:World,∃(cap:Nat) (cc:Array Value) (w':World),n.toNat≤cap∧cc.size=cap∧(∀v∈cc,v.oneCell'=true) ∧
  (callFunc g #[.int .i64 n]).run Tryz.prog w= .ok (.value (.slice (some ⟨w.heap.size,0,none⟩) n.toNat cap)) w'∧w'.heap=w.heap.push (.cells cc e)∧w'.os=w.os∧w'.tape=w.tape∧w'.output=w.output:=fun g e h n h0 hn w=>by
 cases hg:Nat.beq g 160
 ·rw[hg] at h; cases h
 ·rw[hg] at h
  obtain rfl:=nbT hg
  obtain rfl:=Option.some.inj h
  exact mnz_run (ps:= #[3]) Tryz.func160 (by kernel_rfl) rfl (by kernel_rfl) (by kernel_rfl) Tryz.underlying83 n h0 hn w
noncomputable def EA:Env:=⟨Tryz.prog,0,fun g args=>bif Nat.beq g 154 then fh args else none,fun g=>Nat.beq g 159,fun g=>bif Nat.beq g 160 then some 5 else none,fun _ _ _ _=>none⟩
theorem ea:cM EA:=⟨fun g args H nx r h=>(by cases h),fun g args H nx r h=>(by cases h),by kernel_rfl,noNum,mC,kG,mD⟩
theorem nj:jC (oC EA 300 11 [] .e 0)=some (.bool true):=by kernel_rfl
theorem oW (w:World):Calls Tryz.prog 11 #[] w fun e w'=>e= .returned (.bool true)∧Below w.heap.size w w':=ku ea rfl (args:=[]) rfl nj w
theorem HR.stays {μ:Mu} {B:Nat} {h:Nat→Option Blk} {w w':World} (hr:HR μ B h w.heap) (hb:Below w.heap.size w w'):HR μ B h w'.heap:=by
 refine⟨fun i b e=>?_,hr.apart⟩
 obtain⟨L,h1,h2⟩:=hr.blk i b e
 refine⟨L,h1,h2.mono (aX.refl μ) (hb.block L.blk ?_)⟩
 cases b with
 | row cs e z own=>obtain⟨cc,fz,e',h3,_⟩:=h2; exact(Array.getElem?_eq_some_iff.1 h3).1
 | iter s p=>exact(Array.getElem?_eq_some_iff.1 h2.1).1
theorem cA {v v':Value} {H:T} {nx:Nat} {μ:Mu} {B:Nat} {F:Nat→Option Blk} {w w':World} (hv:VR μ v v') (hr:HR μ B (bd H F) w.heap) (hF: ∀i,F i≠none→H.get i=none) (hB:B≤w.heap.size) (hb:Below w.heap.size w w'):fV (v,H,nx,[]) μ B F w nx v' w' :=
 ⟨μ,hv,hr.stays hb,hF,aX.refl μ,fun i _=>rfl,hb.mono hB⟩
theorem atoi_ok {args:List Value} {H:T} {nx:Nat} {r:R} (h:cQ args H nx=some r) {μ:Mu} {B:Nat} {F:Nat→Option Blk} {w:World} {args':Array Value} (hA:dk μ args args') (hr:HR μ B (bd H F) w.heap) (hF: ∀i,F i≠none→H.get i=none) (hG:gz EV.NG μ) (hB:B≤w.heap.size) :
  Calls Tryz.prog 146 args' w fun e w'=> ∃v',e= .returned v'∧fV r μ B F w nx v' w':=by
 unfold cQ at h
 split at h
 ·next s e z own hcell =>
  obtain⟨h1,h⟩:=ac h
  have hsz:=hA.1
  obtain⟨a,rfl⟩: ∃a,args'= #[a]:=by
   match args',hsz with
   | ⟨[a]⟩,_=>exact⟨a,rfl⟩
  have ha:=(hA.2 0 (.string s) a rfl rfl).string
  subst ha
  have hH:(bd H F) 8=some (.row [.iface 249 (.chan (some 0))] e z own):=by unfold bd; rw[hcell]
  obtain⟨L,hL,cc,fz,e',q1,q2,q3,q4,q5,q6⟩:=hr.blk 8 _ hH
  obtain⟨L',hL',hblk,hoff,_⟩:=hG 8 (by decide)
  rw[hL] at hL'
  obtain rfl:=Option.some.inj hL'
  obtain⟨y,y1,y2,y3⟩:=q5 0 _ rfl
  obtain⟨u,rfl,hu⟩:=y2.ifaceI
  have hc:w.cell? ⟨8,0,none⟩=some (.iface 249 u):=by
   rw[hblk] at q1
   rw[hoff] at y1
   simp[World.cell?,q1]
   exact y1
  split at h
  ·rename_i v hat
   obtain rfl:=Option.some.inj h
   refine(Tryz.strconv_Atoi_ok s (by omega) v hat w).mono ?_
   rintro e1 w' ⟨rfl,hw⟩
   refine⟨_,rfl,cA (.plain rfl) hr hF hB ?_⟩
   rcases hw with rfl | ⟨t,rfl⟩
   ·exact Below.refl _ _
   ·exact Lib.bytesWorld_below _ _ _
  ·rename_i hat
   obtain rfl:=Option.some.inj h
   refine(Tryz.strconv_Atoi_range s h1 hat (.iface 249 u) w hc (.inr ⟨249,u,rfl⟩)).mono ?_
   rintro e1 w' ⟨N,rfl,_,_,hb⟩
   refine⟨_,rfl,cA (.tuple rfl fun k x y p q=>?_) hr hF hB hb⟩
   match k,p,q with
   | 0,p,q=>obtain rfl:=Option.some.inj p; obtain rfl:=Option.some.inj q; exact .plain rfl
   | 1,p,q=>obtain rfl:=Option.some.inj p; obtain rfl:=Option.some.inj q; exact .iface (.some1 rfl)
   | k+2,p,q=>simp at p
  ·cases h
 ·cases h
theorem trim_ok {args:List Value} {H:T} {nx:Nat} {r:R} (h:cS args H nx=some r) {μ:Mu} {B:Nat} {F:Nat→Option Blk} {w:World} {args':Array Value} (hA:dk μ args args') (hr:HR μ B (bd H F) w.heap) (hF: ∀i,F i≠none→H.get i=none) (hB:B≤w.heap.size) :
  Calls Tryz.prog 129 args' w fun e w'=> ∃v',e= .returned v'∧fV r μ B F w nx v' w':=by
 unfold cS at h
 split at h
 ·next s c =>
  split at h
  ·next b hb =>
   obtain⟨h1,h⟩:=ac h
   obtain rfl:=Option.some.inj h
   have hsz:=hA.1
   obtain⟨a1,a2,rfl⟩: ∃a1 a2,args'= #[a1,a2]:=by
    match args',hsz with
    | ⟨[a1,a2]⟩,_=>exact⟨a1,a2,rfl⟩
   have e1:=(hA.2 0 (.string s) a1 rfl rfl).string
   have e2:=(hA.2 1 (.string c) a2 rfl rfl).string
   subst e1 e2
   have hc:c=⟨#[b]⟩:=by
    apply ByteArray.ext
    apply Array.toList_inj.1
    exact hb
   subst hc
   refine(Tryz.strings_Trim_one s b h1.1 w h1.2).mono ?_
   rintro e w' ⟨rfl,hw⟩
   refine⟨_,rfl,cA (.plain rfl) hr hF hB ?_⟩
   rcases hw with rfl | rfl
   ·exact Below.refl _ _
   ·exact Below.drew (Below.refl _ _)
  ·cases h
 ·cases h
open Classical in
theorem itoa_ok {args:List Value} {H:T} {nx:Nat} {r:R} (h:cT args H nx=some r) {μ:Mu} {B:Nat} {F:Nat→Option Blk} {w:World} {args':Array Value} (hA:dk μ args args') (hr:HR μ B (bd H F) w.heap) (hF: ∀i,F i≠none→H.get i=none) (hG:gz EV.NG μ) (hB:B≤w.heap.size) :
  Calls Tryz.prog 94 args' w fun e w'=> ∃v',e= .returned v'∧fV r μ B F w nx v' w':=by
 unfold cT at h
 split at h
 ·next n cs e z own hcell =>
  obtain⟨hc,h'⟩:=ac h
  clear h
  obtain⟨rfl,h1,h2⟩:=hc
  obtain rfl:=Option.some.inj h'
  have hsz:=hA.1
  obtain⟨a,rfl⟩: ∃a,args'= #[a]:=by
   match args',hsz with
   | ⟨[a]⟩,_=>exact⟨a,rfl⟩
  have ha:=(hA.2 0 (.int .i64 n) a rfl rfl).int
  subst ha
  have hH:(bd H F) 6=some (.row jN e z own):=by unfold bd; rw[hcell]
  obtain⟨L,hL,cc,fz,e',q1,q2,q3,q4,q5,q6⟩:=hr.blk 6 _ hH
  obtain⟨L',hL',hblk,hoff,hlim⟩:=hG 6 (by decide)
  rw[hL] at hL'
  obtain rfl:=Option.some.inj hL'
  have hlim:=hlim rfl
  have htab:Lib.TabIs Tryz.prog w "internal/strconv.uint64pow10" .u64 Lib.pow10Tab:=by
   unfold Lib.TabIs World.var?
   rw[show Tryz.prog.globalNamed "internal/strconv.uint64pow10" = some 6 by kernel_rfl]
   rw[hblk] at q1
   simp only[Option.bind_some,q1]
   congr 1
   apply Array.ext'
   apply List.ext_getElem?
   intro i
   by_cases hi:i<20
   ·have hp:jN[i]? = some (.int .u64 (Lib.pow10Tab.getD i 0)):=by
     unfold jN
     rw[List.getElem?_map,List.getD_eq_getElem?_getD,List.getElem?_eq_getElem (by rw[Lib.pow10Tab_length]; exact hi)]; rfl
    obtain⟨y,y1,y2,y3⟩:=q5 i _ hp
    have y2:=y2.int
    subst y2
    rw[hoff,Nat.zero_add] at y1
    rw[Array.getElem?_toList,y1]
    show _=(Lib.pow10Tab.map fun z=>Value.int .u64 z)[i]?
    exact hp.symm
   ·rw[List.getElem?_eq_none (by simp; omega),List.getElem?_eq_none (by simp[Lib.pow10Tab_length]; omega)]
  refine(Tryz.strconv_Itoa n h1 h2 w htab).mono ?_
  rintro e1 w' ⟨rfl,k,os,rfl⟩
  refine⟨_,rfl,cA (.plain rfl) hr hF hB ?_⟩
  exact⟨rfl,rfl,rfl,by show w.heap.size≤(w.heap++os).size; rw[Array.size_append]; omega,fun j hj=>by show(w.heap++os)[j]? = w.heap[j]?; exact Array.getElem?_append_left hj⟩
 ·cases h
theorem nk {args:List Value} {H:T} {nx:Nat} {r:R} (h:bP args H nx=some r) {μ:Mu} {B:Nat} {F:Nat→Option Blk} {w:World} {args':Array Value} (hA:dk μ args args') (hr:HR μ B (bd H F) w.heap) (hF: ∀i,F i≠none→H.get i=none) (hB:B≤w.heap.size) :
  Calls Tryz.prog 62 args' w fun e w'=> ∃v',e= .returned v'∧fV r μ B F w nx v' w':=by
 unfold bP at h
 split at h
 ·next s c =>
  obtain⟨⟨h1,h2,h3⟩,h⟩:=ac h
  obtain rfl:=Option.some.inj h
  have hsz:=hA.1
  obtain⟨a1,a2,rfl⟩: ∃a1 a2,args'= #[a1,a2]:=by
   match args',hsz with
   | ⟨[a1,a2]⟩,_=>exact⟨a1,a2,rfl⟩
  have e1:=(hA.2 0 (.string s) a1 rfl rfl).string
  have e2:=(hA.2 1 (.int .i64 c) a2 rfl rfl).int
  subst e1 e2
  obtain⟨m,rfl⟩: ∃m:Nat,c=(m:Int):=⟨c.toNat,by omega⟩
  refine(Tryz.strings_Repeat s m w (by omega) (by simpa using h3)).mono ?_
  rintro e w' ⟨rfl,hw⟩
  exact⟨_,rfl,cA (.plain rfl) hr hF hB hw⟩
 ·cases h
theorem over_ok:bV EV fi:=by
 intro g args H nx r h μ B F w args' hwf hA hr hF hnx hG hB
 replace h:fi g args H nx=some r:=h
 unfold fi at h
 cases g11:Nat.beq g 11
 case true =>
  rw[g11] at h
  obtain rfl:=nbT g11
  simp only[cond_true] at h
  split at h
  ·obtain rfl:=Option.some.inj h
   have hsz:=hA.1
   obtain rfl:args'= #[]:=by
    match args',hsz with
    | ⟨[]⟩,_=>rfl
   refine(oW w).mono ?_
   rintro e w' ⟨rfl,hb⟩
   exact⟨_,rfl,cA (.plain rfl) hr hF hB hb⟩
  ·cases h
 rw[g11] at h
 simp only[cond_false] at h
 cases git:Nat.beq g 94
 case true =>
  rw[git] at h
  obtain rfl:=nbT git
  exact itoa_ok h hA hr hF hG hB
 rw[git] at h
 simp only[cond_false] at h
 cases grp:Nat.beq g 62
 case true =>
  rw[grp] at h
  obtain rfl:=nbT grp
  exact nk h hA hr hF hB
 rw[grp] at h
 simp only[cond_false] at h
 cases g146:Nat.beq g 146
 ·rw[g146] at h
  simp only[cond_false] at h
  cases gtr:Nat.beq g 129
  ·rw[gtr] at h; cases h
  ·rw[gtr] at h
   obtain rfl:=nbT gtr
   exact trim_ok h hA hr hF hB
 ·rw[g146] at h
  obtain rfl:=nbT g146
  exact atoi_ok h hA hr hF hG hB
theorem oX {args:List Value} {H:T} {nx:Nat} {r:R} (h:cQ args H nx=some r): ∃v,r=(v,H,nx,[]):=by
 unfold cQ at h
 split at h
 ·obtain⟨h1,h⟩:=ac h
  split at h
  ·obtain rfl:=Option.some.inj h; exact⟨_,rfl⟩
  ·obtain rfl:=Option.some.inj h; exact⟨_,rfl⟩
  ·cases h
 ·cases h
theorem oY {args:List Value} {H:T} {nx:Nat} {r:R} (h:cS args H nx=some r): ∃v,r=(v,H,nx,[]):=by
 unfold cS at h
 split at h
 ·split at h
  ·obtain⟨h1,h⟩:=ac h
   obtain rfl:=Option.some.inj h; exact⟨_,rfl⟩
  ·cases h
 ·cases h
open Classical in
theorem oZ {args:List Value} {H:T} {nx:Nat} {r:R} (h:cT args H nx=some r): ∃v,r=(v,H,nx,[]):=by
 unfold cT at h
 split at h
 ·obtain⟨h1,h⟩:=ac h
  obtain rfl:=Option.some.inj h; exact⟨_,rfl⟩
 ·cases h
theorem lI {args:List Value} {H:T} {nx:Nat} {r:R} (h:bP args H nx=some r): ∃v,r=(v,H,nx,[]):=by
 unfold bP at h
 split at h
 ·obtain⟨h1,h⟩:=ac h
  obtain rfl:=Option.some.inj h; exact⟨_,rfl⟩
 ·cases h
theorem o4:aj fi:=by
 intro g args H nx r h
 replace h:fi g args H nx=some r:=h
 have key: ∃v,r=(v,H,nx,[]):=by
  unfold fi at h
  cases g11:Nat.beq g 11
  case true =>
   rw[g11] at h
   simp only[cond_true] at h
   split at h
   ·obtain rfl:=Option.some.inj h; exact⟨_,rfl⟩
   ·cases h
  rw[g11] at h
  simp only[cond_false] at h
  cases git:Nat.beq g 94
  case true=>rw[git] at h; exact oZ h
  rw[git] at h
  simp only[cond_false] at h
  cases grp:Nat.beq g 62
  case true=>rw[grp] at h; exact lI h
  rw[grp] at h
  simp only[cond_false] at h
  cases g146:Nat.beq g 146
  ·rw[g146] at h
   simp only[cond_false] at h
   cases gtr:Nat.beq g 129
   ·rw[gtr] at h; cases h
   ·rw[gtr] at h; exact oY h
  ·rw[g146] at h; exact oX h
 obtain⟨v,rfl⟩:=key
 exact .same
theorem ev:cM EV:=⟨over_ok,o4,by kernel_rfl,noNum,mC,kG,mD⟩
end Go.Proofs.YtjcbhbncncbdjaaGreatDoorAi
