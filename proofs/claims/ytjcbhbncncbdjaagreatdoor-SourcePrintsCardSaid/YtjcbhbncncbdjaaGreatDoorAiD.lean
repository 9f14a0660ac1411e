/-
AiInfo, AiDraw, AiDraw2, AiDraw3, AiSound, AiFast, AiFastEq, AiClosed, AiW, AiV, AiExt
-/
import Derived.Test.YtjcbhbncncbdjaaGreatDoorAiC
import Derived.LoopN
import Derived.Scope
import Derived.Test.YtjcbhbncncbdjaaGreatDoorAiA
import Derived.Lib.MakeNoZero
namespace Go.Proofs.YtjcbhbncncbdjaaGreatDoorAi
open Go Go.RowKit
set_option linter.unusedVariables false
set_option linter.unusedSimpArgs false
set_option linter.unnecessarySimpa false
set_option linter.unusedSectionVars false
def d1 (D:Nat→Prop) (o:Oper):Prop:= ∀e∈o.after.toList,Region.binds .any e=true→D e.on
def fy (ops:Array Oper) (D:Nat→Prop):Prop:= ∀j o,ops[j]? = some o→D j→d1 D o
def Sure (D:Nat→Prop) (m:Nat):Prop:= ∀k,m.testBit k=true→D k
def MsOk (ops:Array Oper) (ms:List Nat):Prop:= ∀(D:Nat→Prop),fy ops D→ ∀(j m:Nat) (o:Oper),ms[j]? = some m→ops[j]? = some o→d1 D o→Sure D m
theorem fL {ops:Array Oper} {ms:List Nat} (hl:ms.length≤ops.size) (hm:MsOk ops ms) {D:Nat→Prop} (hD:fy ops D): ∀es:List Edge,(∀e∈es,Region.binds .any e=true→D e.on)→Sure D (cr ms es):=by
 intro es
 induction es with
 | nil=>intro _ k hk; simp[cr] at hk
 | cons e es ih =>
  intro h
  have ih':=ih fun e' he'=>h e' (List.mem_cons_of_mem _ he')
  unfold cr
  cases hb:Region.binds .any e
  ·rw[cond_false]; exact ih'
  ·rw[cond_true]
   have hon:=h e (by simp) hb
   intro k hk
   have hk':((2 ^ e.on ||| (match nth ms e.on with | some m=>m | none=>0)) ||| cr ms es).testBit k=true:=hk
   rw[Nat.testBit_or,Nat.testBit_or,Bool.or_eq_true,Bool.or_eq_true,Nat.testBit_two_pow] at hk'
   rcases hk' with(h1 | h1) | h1
   ·have:=of_decide_eq_true h1; subst this; exact hon
   ·rw[aO] at h1
    cases hg:ms[e.on]? with
    | none=>rw[hg] at h1; simp at h1
    | some m =>
     rw[hg] at h1
     have hlt:e.on<ops.size:=Nat.lt_of_lt_of_le (List.getElem?_eq_some_iff.1 hg).1 hl
     have ho:ops[e.on]? = some ops[e.on]:=Array.getElem?_eq_getElem hlt
     exact hm D hD e.on m _ hg ho (hD _ _ ho hon) k h1
   ·exact ih' k h1
theorem fA (m n k:Nat):k∈gk m n↔k<n∧m.testBit k=false:=by
 induction n with
 | zero=>simp[gk]
 | succ n ih =>
  unfold gk
  cases hb:m.testBit n
  ·rw[cond_false,List.mem_cons,ih]
   constructor
   ·rintro(rfl | h)
    ·exact⟨Nat.lt_succ_self _,hb⟩
    ·exact⟨by omega,h.2⟩
   ·intro h
    by_cases e:k=n
    ·exact .inl e
    ·exact .inr ⟨by omega,h.2⟩
  ·rw[cond_true,ih]
   constructor
   ·intro h; exact⟨by omega,h.2⟩
   ·intro h
    refine⟨?_,h.2⟩
    have:k≠n:=fun e=>by rw[e,hb] at h; cases h.2
    omega
theorem jy {ops:Array Oper} {done:List Oper} {o:Oper}: ∀(l:List Nat),eL ops done o l=true→ ∀k∈l,∃p,done[k]? = some p∧Oper.apart ops p o=true:=by
 intro l
 induction l with
 | nil=>intro _ k hk; simp at hk
 | cons j l ih =>
  intro h k hk
  unfold eL at h
  rw[Bool.and_eq_true,aO] at h
  rcases List.mem_cons.1 hk with rfl | hk
  ·cases e:done[k]? with
   | none=>rw[e] at h; cases h.1
   | some p=>rw[e] at h; exact⟨p,rfl,h.1⟩
  ·exact ih h.2 k hk
theorem mU {ops:Array Oper}: ∀(l done:List Oper) (ms:List Nat) (inf:List (List Nat)),done++l=ops.toList→ms.length=done.length→MsOk ops ms→ir ops l done ms=some inf →
  ∀j o,l[j]? = some o→ ∃un,inf[j]? = some un∧(∀e∈o.after.toList,Region.binds .any e=true→e.on<done.length+j) ∧
   (∀k∈un,k<done.length+j∧ ∀p,ops[k]? = some p→Oper.apart ops p o=true)∧ ∀D,fy ops D→d1 D o→ ∀k,k<done.length+j→k∉un→D k:=by
 intro l
 induction l with
 | nil=>intro done ms inf _ _ _ _ j o h; simp at h
 | cons o l ih =>
  intro done ms inf hd hl hm h j o' hj
  unfold ir at h
  obtain⟨hc,h⟩:=aH h
  rw[Bool.and_eq_true] at hc
  split at h
  case h_2=>cases h
  rename_i inf' hi
  obtain rfl:=Option.some.inj h
  have hlen:done.length<ops.size:=by have:=congrArg List.length hd; simp at this; omega
  have hlm:ms.length≤ops.size:=by omega
  have hget: ∀k,k<done.length→ops[k]? = done[k]? := fun k hk=>by
   have:ops.toList[k]? = done[k]? := by rw[← hd,List.getElem?_append_left hk]
   rw[← this,Array.getElem?_toList]
  have ho:ops[done.length]? = some o:=by
   have:ops.toList[done.length]? = some o:=by rw[← hd,List.getElem?_append_right (Nat.le_refl _)]; simp
   rw[← this,Array.getElem?_toList]
  cases j with
  | zero =>
   obtain rfl:o=o':=by simpa using hj
   refine⟨_,rfl,fun e he hb=>?_,fun k hk=>?_,fun D hD hE k hk hku=>?_⟩
   ·have:=hc.1
    unfold iL at this
    rw[List.all_eq_true] at this
    have:=this e he
    rw[hb] at this
    have this:Nat.blt e.on done.length=true:=by simpa only[Bool.not_true,Bool.false_or] using this
    exact Nat.le_of_ble_eq_true this
   ·refine⟨((fA _ _ _).1 hk).1,fun p hp=>?_⟩
    obtain⟨q,h1,h2⟩:=jy _ hc.2 k hk
    rw[hget k ((fA _ _ _).1 hk).1,h1] at hp
    obtain rfl:=Option.some.inj hp
    exact h2
   ·have hbit:(cr ms o.after.toList).testBit k=true:=by
     cases e:(cr ms o.after.toList).testBit k with
     | true=>rfl
     | false=>exact absurd ((fA _ _ _).2 ⟨hk,e⟩) hku
    exact fL hlm hm hD _ hE k hbit
  | succ j =>
   have hj':l[j]? = some o':=by simpa using hj
   have hm':MsOk ops (ms++ [cr ms o.after.toList]):=by
    intro D hD i m p h1 h2 hE
    by_cases hi:i<ms.length
    ·rw[List.getElem?_append_left hi] at h1
     exact hm D hD i m p h1 h2 hE
    ·rw[List.getElem?_append_right (by omega)] at h1
     have:i=ms.length:=by
      have:=(List.getElem?_eq_some_iff.1 h1).1
      simp at this; omega
     subst this
     simp at h1
     subst h1
     rw[hl,ho] at h2
     obtain rfl:=Option.some.inj h2
     exact fL hlm hm hD _ hE
   obtain⟨un,h1,h2,h3,h4⟩:=ih (done++ [o]) _ inf' (by simpa using hd) (by simp[hl]) hm' hi j o' hj'
   have e:(done++ [o]).length+j=done.length+(j+1):=by simp; omega
   rw[e] at h2 h3 h4
   exact⟨un,by simpa using h1,h2,h3,h4⟩
theorem iQ {rs:List Rec} {q:Rec}: ∀(l:List Nat),q∈ay rs l↔ ∃k∈l,rs[k]? = some q:=by
 intro l
 induction l with
 | nil=>simp[ay]
 | cons k l ih =>
  unfold ay
  rw[aO]
  cases e:rs[k]? with
  | none =>
   simp only[ih,List.mem_cons]
   constructor
   ·rintro⟨j,h1,h2⟩; exact⟨j,.inr h1,h2⟩
   ·rintro⟨j,rfl | h1,h2⟩
    ·rw[e] at h2; cases h2
    ·exact⟨j,h1,h2⟩
  | some r =>
   simp only[List.mem_cons,ih]
   constructor
   ·rintro(rfl | ⟨j,h1,h2⟩)
    ·exact⟨k,.inl rfl,e⟩
    ·exact⟨j,.inr h1,h2⟩
   ·rintro⟨j,rfl | h1,h2⟩
    ·rw[e] at h2; exact .inl (Option.some.inj h2).symm
    ·exact .inr ⟨j,h1,h2⟩
theorem lr {ops:Array Oper} {E:Env} {call:am} (o:Oper) (l:List Oper) (inf:List (List Nat)) (rs:List Rec) (s:St):cH (o::l) inf ops E call rs s=fX (cH l) o ops E call rs s inf:=rfl
theorem lu {ops:Array Oper} {E:Env} {call:am} {s':St}: ∀(l:List Oper) (inf:List (List Nat)) (rs:List Rec) (s:St),cH l inf ops E call rs s=some s' →
  ∃(S:Nat→St) (r:Nat→Rec),S rs.length=s∧S (rs.length+l.length)=s'∧(∀k,k<rs.length→rs[k]? = some (r k)) ∧
   ∀j o,l[j]? = some o→ ∃un lst,inf[j]? = some un∧(∀k∈un,k<rs.length+j→r k∈lst)∧(∀q∈lst,∃k∈un,k<rs.length+j∧q=r k) ∧
    di E call o (S (rs.length+j)) lst (ae ops (S (rs.length+j)).fr o)=some (S (rs.length+j+1),r (rs.length+j)):=by
 intro l
 induction l with
 | nil =>
  intro inf rs s h
  obtain rfl:=Option.some.inj (show some s=some s' from h)
  exact⟨fun _=>s,fun k=>(rs[k]?).getD ⟨none,[],0,0,false,none⟩,rfl,rfl,fun k hk=>by simp[List.getElem?_eq_getElem hk],fun j o h=>by simp at h⟩
 | cons o l ih =>
  intro inf rs s h
  rw[lr] at h
  unfold fX at h
  split at h
  case h_2=>cases h
  rename_i un inf'
  unfold bU at h
  split at h
  case h_2=>cases h
  rename_i s1 r1 hst
  obtain⟨S,r,h1,h2,h3,h4⟩:=ih inf' (rs++ [r1]) s1 h
  have hlen:(rs++ [r1]).length=rs.length+1:=by simp
  rw[hlen] at h1 h2 h3 h4
  have hrl:r rs.length=r1:=by
   have:=h3 rs.length (by omega)
   rw[List.getElem?_append_right (Nat.le_refl _)] at this
   simpa using this.symm
  have hrk: ∀k,k<rs.length→rs[k]? = some (r k):=fun k hk=>by
   have:=h3 k (by omega)
   rw[List.getElem?_append_left hk] at this
   exact this
  refine⟨fun k=>if k=rs.length then s else S k,r,by simp,?_,hrk,fun j o' hj=>?_⟩
  ·simp only[List.length_cons]
   rw[if_neg (by omega),← h2]
   congr 1
   omega
  ·cases j with
   | zero =>
    obtain rfl:o=o':=by simpa using hj
    refine⟨un,ay rs un,rfl,fun k hk hlt=>(iQ un).2 ⟨k,hk,hrk k hlt⟩,fun q hq=>?_,?_⟩
    ·obtain⟨k,hk,e⟩:=(iQ un).1 hq
     have hlt:=(List.getElem?_eq_some_iff.1 e).1
     rw[hrk k hlt] at e
     exact⟨k,hk,hlt,(Option.some.inj e).symm⟩
    ·simp only[Nat.add_zero,if_pos]
     rw[if_neg (by omega),h1,hrl]
     exact hst
   | succ j =>
    obtain⟨un',lst,k1,k2,k3,k4⟩:=h4 j o' (by simpa using hj)
    have e:rs.length+1+j=rs.length+(j+1):=by omega
    rw[e] at k2 k3 k4
    refine⟨un',lst,by simpa using k1,k2,k3,?_⟩
    simp only[]
    rw[if_neg (by omega),if_neg (by omega)]
    exact k4
structure cv (E:Env) (call:am) (ops:Array Oper) (S:Nat→St) (r:Nat→Rec) (U:Nat→List Nat):Prop where
 back: ∀j o,ops[j]? = some o→ ∀e∈o.after.toList,Region.binds .any e=true→e.on<j
 un: ∀j o,ops[j]? = some o→ ∀k∈U j,k<j∧ ∀p,ops[k]? = some p→Oper.apart ops p o=true
 sure: ∀j o,ops[j]? = some o→ ∀D,fy ops D→d1 D o→ ∀k,k<j→k∉U j→D k
 step: ∀j o,ops[j]? = some o→ ∃lst,(∀k∈U j,r k∈lst)∧(∀q∈lst,∃k∈U j,q=r k)∧di E call o (S j) lst (ae ops (S j).fr o)=some (S (j+1),r j)
theorem run8 {ops:Array Oper} {E:Env} {call:am} {s s':St} (h:jh true ops E call s=some s'): ∃S r U,S 0=s∧S ops.size=s'∧cv E call ops S r U:=by
 have h':lY ops E call s (ir ops ops.toList [] [])=some s':=h
 unfold lY at h'
 split at h'
 case h_2=>cases h'
 rename_i inf hi
 have hI:=mU (ops:=ops) ops.toList [] [] inf rfl rfl (fun D hD j m o h1=>by simp at h1) hi
 obtain⟨S,r,h1,h2,h3,h4⟩:=lu ops.toList inf [] s h'
 refine⟨S,r,fun j=>(inf[j]?).getD [],h1,by simpa using h2,fun j o ho=>?_,fun j o ho=>?_,fun j o ho=>?_,fun j o ho=>?_⟩
 all_goals
  have ho':ops.toList[j]? = some o:=by rw[Array.getElem?_toList]; exact ho
  obtain⟨un,k1,k2,k3,k4⟩:=hI j o ho'
  simp only[List.length_nil,Nat.zero_add] at k2 k3 k4 h4
 ·exact k2
 ·simp only[k1,Option.getD_some]; exact k3
 ·simp only[k1,Option.getD_some]; exact k4
 ·obtain⟨un',lst,m1,m2,m3,m4⟩:=h4 j o ho'
  rw[k1] at m1
  obtain rfl:=Option.some.inj m1
  simp only[k1,Option.getD_some]
  exact⟨lst,fun k hk=>m2 k hk (k3 k hk).1,fun q hq=>let ⟨k,a,b,c⟩:=m3 q hq; ⟨k,a,c⟩,m4⟩
end Go.Proofs.YtjcbhbncncbdjaaGreatDoorAi
namespace Go.Proofs.YtjcbhbncncbdjaaGreatDoorAi
open Go Go.RowKit
set_option linter.unusedVariables false
set_option linter.unusedSimpArgs false
set_option linter.unnecessarySimpa false
set_option linter.unusedSectionVars false
noncomputable def bo (S:Nat→St) (r:Nat→Rec) (D:Nat→Bool):Nat→Nat→Option Blk
 | 0,i=>(S 0).H.get i
 | m+1,i=>if D m=true∧(r m).has i=true then(S (m+1)).H.get i else bo S r D m i
noncomputable def cp (S:Nat→St) (ops:Array Oper) (D:Nat→Bool):Nat→Nat→Value
 | 0,t=>Fr.get (S 0).fr t
 | m+1,t=>if D m=true∧(ops[m]?).bind (·.dst)=some t then Fr.get (S (m+1)).fr t else cp S ops D m t
section
variable {S:Nat→St} {r:Nat→Rec} {D:Nat→Bool} {ops:Array Oper}
theorem gL {m i:Nat}: ∀{m':Nat},m≤m'→(∀k,m≤k→k<m'→D k=true→(r k).has i=false)→bo S r D m' i=bo S r D m i:=by
 intro m'
 induction m' with
 | zero =>
  intro h _; obtain rfl:m=0:=by omega
  rfl
 | succ m' ih =>
  intro h hk
  by_cases e:m=m'+1
  ·subst e; rfl
  ·have:=ih (by omega) fun k a b c=>hk k a (by omega) c
   rw[bo,if_neg,this]
   rintro⟨h1,h2⟩
   rw[hk m' (by omega) (by omega) h1] at h2; cases h2
theorem oq {m i:Nat}: ∀{m':Nat},m≤m'→bo S r D m' i=bo S r D m i∨ ∃k,m≤k∧k<m'∧D k=true∧(r k).has i=true∧bo S r D m' i=(S (k+1)).H.get i:=by
 intro m'
 induction m' with
 | zero =>
  intro h; obtain rfl:m=0:=by omega
  exact .inl rfl
 | succ m' ih =>
  intro h
  by_cases e:m=m'+1
  ·subst e; exact .inl rfl
  ·rw[bo]
   by_cases hd:D m'=true∧(r m').has i=true
   ·rw[if_pos hd]
    exact .inr ⟨m',by omega,by omega,hd.1,hd.2,rfl⟩
   ·rw[if_neg hd]
    rcases ih (by omega) with h1 | ⟨k,a,b,c⟩
    ·exact .inl h1
    ·exact .inr ⟨k,a,by omega,c⟩
theorem eD {m t:Nat}: ∀{m':Nat},m≤m'→(∀k,m≤k→k<m'→D k=true→(ops[k]?).bind (·.dst)≠some t)→cp S ops D m' t=cp S ops D m t:=by
 intro m'
 induction m' with
 | zero =>
  intro h _; obtain rfl:m=0:=by omega
  rfl
 | succ m' ih =>
  intro h hk
  by_cases e:m=m'+1
  ·subst e; rfl
  ·have:=ih (by omega) fun k a b c=>hk k a (by omega) c
   rw[cp,if_neg,this]
   rintro⟨h1,h2⟩
   exact hk m' (by omega) (by omega) h1 h2
theorem ko {D':Nat→Bool} {i:Nat}: ∀{m:Nat},(∀k,k<m→(r k).has i=true→D' k=D k)→bo S r D' m i=bo S r D m i:=by
 intro m
 induction m with
 | zero=>intro _; rfl
 | succ m ih =>
  intro h
  rw[bo,bo,ih fun k a b=>h k (by omega) b]
  by_cases hh:(r m).has i=true
  ·rw[h m (by omega) hh]
  ·simp[hh]
theorem kp {D':Nat→Bool} {t:Nat}: ∀{m:Nat},(∀k,k<m→(ops[k]?).bind (·.dst)=some t→D' k=D k)→cp S ops D' m t=cp S ops D m t:=by
 intro m
 induction m with
 | zero=>intro _; rfl
 | succ m ih =>
  intro h
  rw[cp,cp,ih fun k a b=>h k (by omega) b]
  by_cases hh:(ops[m]?).bind (·.dst)=some t
  ·rw[h m (by omega) hh]
  ·simp[hh]
variable {E:Env} {call:am} {U:Nat→List Nat}
theorem cv.F (hT:cv E call ops S r U) (hoa:aj E.over) (habs:aj call) {j:Nat} {o:Oper} (ho:ops[j]? = some o):gG o (S j) (S (j+1)) (r j):=by
 obtain⟨lst,_,_,h⟩:=hT.step j o ho
 exact stepD_F hoa habs h
theorem cv.le (hT:cv E call ops S r U) (hoa:aj E.over) (habs:aj call) {j:Nat}: ∀{k:Nat},j≤k→k≤ops.size→(S j).nx≤(S k).nx:=by
 intro k
 induction k with
 | zero =>
  intro h _; obtain rfl:j=0:=by omega
  exact Nat.le_refl _
 | succ k ih =>
  intro h hk
  by_cases e:j=k+1
  ·subst e; exact Nat.le_refl _
  ·have ho:ops[k]? = some ops[k]:=Array.getElem?_eq_getElem (by omega)
   exact Nat.le_trans (ih (by omega) (by omega)) (hT.F hoa habs ho).le
theorem cv.wf (hT:cv E call ops S r U) (hoa:aj E.over) (habs:aj call) (h0:Wf (S 0).H (S 0).nx): ∀{k:Nat},k≤ops.size→Wf (S k).H (S k).nx:=by
 intro k
 induction k with
 | zero=>intro _; exact h0
 | succ k ih =>
  intro hk
  have ho:ops[k]? = some ops[k]:=Array.getElem?_eq_getElem (by omega)
  exact(hT.F hoa habs ho).wf (ih (by omega))
theorem cv.leS (hT:cv E call ops S r U) (hoa:aj E.over) (habs:aj call): ∀{k:Nat},k≤ops.size→LeS (S 0) (S k):=by
 intro k
 induction k with
 | zero=>intro _; exact LeS.refl _
 | succ k ih =>
  intro hk
  have ho:ops[k]? = some ops[k]:=Array.getElem?_eq_getElem (by omega)
  exact(ih (by omega)).trans (hT.F hoa habs ho).leS
theorem cv.allH (hT:cv E call ops S r U) (hoa:aj E.over) (habs:aj call) (h0:Wf (S 0).H (S 0).nx) {i:Nat}: ∀{m:Nat},m≤ops.size→(∀k,k<m→(r k).has i=true→D k=true)→bo S r D m i=(S m).H.get i:=by
 intro m
 induction m with
 | zero=>intro _ _; rfl
 | succ m ih =>
  intro hm hk
  have ho:ops[m]? = some ops[m]:=Array.getElem?_eq_getElem (by omega)
  rw[bo]
  cases hh:(r m).has i
  ·rw[if_neg (by simp),ih (by omega) fun k a b=>hk k (by omega) b,(hT.F hoa habs ho).H (hT.wf hoa habs h0 (by omega)) i hh]
  ·rw[if_pos ⟨hk m (by omega) hh,rfl⟩]
theorem cv.allF (hT:cv E call ops S r U) (hoa:aj E.over) (habs:aj call) {t:Nat}: ∀{m:Nat},m≤ops.size→(∀k,k<m→(ops[k]?).bind (·.dst)=some t→D k=true)→cp S ops D m t=Fr.get (S m).fr t:=by
 intro m
 induction m with
 | zero=>intro _ _; rfl
 | succ m ih =>
  intro hm hk
  have ho:ops[m]? = some ops[m]:=Array.getElem?_eq_getElem (by omega)
  rw[cp]
  by_cases hh:(ops[m]?).bind (·.dst)=some t
  ·rw[if_pos ⟨hk m (by omega) hh,hh⟩]
  ·rw[if_neg (fun e=>hh e.2),ih (by omega) fun k a b=>hk k (by omega) b,(hT.F hoa habs ho).fr t (fun e=>hh (by rw[ho]; exact e))]
inductive jz (E:Env) (call:am) (o:Oper) (s s':St) (q:Rec) (lst:List Rec) (b:Option Bool):Prop
 | skip:b=some false→s'= { s with fr:=bz s.fr o.dst undef }→q=⟨none,[],s.nx,s.nx,false,none⟩→jz E call o s s' q lst b
 | op (v:Value) (eff:Eff):b=some true→aw o.op=false→ai o.op E.P s.nx o.type (opv E.NG s.fr) ((aq o.op (opv E.NG s.fr)).bind s.H.get)=some (v,eff)→(∀p∈lst,dh E.P (aq o.op (opv E.NG s.fr)) eff p=true) →
   s'=⟨bz s.fr o.dst v,kY s.H s.nx (aq o.op (opv E.NG s.fr)) eff,bS s.nx eff,ck (bT (aq o.op (opv E.NG s.fr)) eff) s.ms⟩ →
   q=⟨aq o.op (opv E.NG s.fr),bT (aq o.op (opv E.NG s.fr)) eff,s.nx,bS s.nx eff,false,fu (opv E.NG s.fr) o v⟩→jz E call o s s' q lst b
 | call (v:Value) (H:T) (nx:Nat) (ms:List Nat):b=some true→aw o.op=true→bj o.op E call (opv E.NG s.fr) (hide s.H (aL lst)) s.nx=some (v,H,nx,ms)→(∀p∈lst,p.call=false∧p.ms= [])→(∀p∈lst,dc E.P H ms p=true) →
   s'=⟨bz s.fr o.dst v,bring s.H H (aL lst),nx,ck ms s.ms⟩→q=⟨none,ms,s.nx,nx,true,none⟩→jz E call o s s' q lst b
theorem kind_of {o:Oper} {s s':St} {q:Rec} {lst:List Rec} {b:Option Bool} (h:di E call o s lst b=some (s',q)):jz E call o s s' q lst b:=by
 unfold di at h
 split at h
 ·cases h
 ·simp only[Option.some.injEq,Prod.mk.injEq] at h
  exact .skip rfl h.1.symm h.2.symm
 ·unfold bN at h
  cases hc:aw o.op<;>rw[hc] at h
  ·rw[cond_false] at h
   unfold et dv at h
   split at h
   case h_2=>cases h
   rename_i v eff hv
   obtain⟨hall,h⟩:=aH h
   simp only[Option.some.injEq,Prod.mk.injEq] at h
   rw[List.all_eq_true] at hall
   exact .op v eff rfl hc hv hall h.1.symm h.2.symm
  ·rw[cond_true] at h
   unfold eq at h
   obtain⟨hall1,h⟩:=aH h
   unfold ep at h
   split at h
   case h_2=>cases h
   rename_i v H nx ms hv
   obtain⟨hall,h⟩:=aH h
   simp only[Option.some.injEq,Prod.mk.injEq] at h
   rw[List.all_eq_true] at hall hall1
   refine .call v H nx ms rfl hc hv (fun p hp=>?_) hall h.1.symm h.2.symm
   have:=hall1 p hp
   rw[Bool.and_eq_true] at this
   refine⟨by simpa using this.1,by simpa using this.2⟩
theorem gM {i:Nat}: ∀{l:List Rec},i∈aL l→ ∃p∈l,p.lo=i∧p.lo<p.hi:=by
 intro l
 induction l with
 | nil=>intro h; simp[aL] at h
 | cons p l ih =>
  intro h
  unfold aL at h
  cases hb:Nat.blt p.lo p.hi<;>rw[hb] at h
  ·rw[cond_false] at h
   obtain⟨q,h1,h2⟩:=ih h
   exact⟨q,List.mem_cons_of_mem _ h1,h2⟩
  ·rw[cond_true,List.mem_cons] at h
   rcases h with rfl | h
   ·exact⟨p,by simp,rfl,Nat.le_of_ble_eq_true hb⟩
   ·obtain⟨q,h1,h2⟩:=ih h
    exact⟨q,List.mem_cons_of_mem _ h1,h2⟩
theorem mV {p:Rec}: ∀{l:List Rec},p∈l→p.lo<p.hi→p.lo∈aL l:=by
 intro l
 induction l with
 | nil=>intro h; simp at h
 | cons q l ih =>
  intro h hlt
  unfold aL
  rcases List.mem_cons.1 h with rfl | h
  ·have:Nat.blt p.lo p.hi=true:=Nat.ble_eq_true_of_le hlt
   rw[this]; simp
  ·cases hb:Nat.blt q.lo q.hi
   ·rw[cond_false]; exact ih h hlt
   ·rw[cond_true]; exact List.mem_cons_of_mem _ (ih h hlt)
theorem d2 {P:Program} {H:T} {ms:List Nat} {p:Rec} (h:dc P H ms p=true):(∀i,p.rd=some i→i∈ms→gj P p (H.get i)=true)∧(p.lo<p.hi→p.lo∉ms):=by
 unfold dc at h
 rw[Bool.and_eq_true] at h
 refine⟨fun i hi hm=>?_,fun hlt hm=>?_⟩
 ·have:=h.1
  rw[hi] at this
  unfold okRd at this
  simp only[Bool.or_eq_true] at this
  rcases this with h1 | h1
  ·simp[hm] at h1
  ·exact h1
 ·have:=h.2
  rw[Bool.or_eq_true] at this
  rcases this with h1 | h1
  ·have:=Nat.le_of_ble_eq_true h1; omega
  ·simp[hm] at h1
theorem eV {P:Program} {i:Nat} {eff:Eff} {p:Rec} (h:dh P (some i) eff p=true):p.has i=false∧ ∀b,eff= .upd b→p.call=false∧(p.rd=some i→gj P p (some b)=true):=by
 unfold dh at h
 simp only[Bool.and_eq_true] at h
 refine⟨by simpa using h.1,fun b e=>?_⟩
 subst e
 have:=h.2
 simp only[Bool.and_eq_true,Bool.or_eq_true] at this
 refine⟨by simpa using this.1,fun e=>?_⟩
 rcases this.2 with h1 | h1
 ·simp[e] at h1
 ·exact h1
theorem ot {s t:ByteArray} (e:s.data.toList=t.data.toList):s=t:=by
 obtain⟨⟨s⟩⟩:=s
 obtain⟨⟨t⟩⟩:=t
 simp at e
 rw[e]
theorem ou {u v:Value} (h:nR u v=true):u=v:=by
 unfold nR at h
 split at h
 ·simpa using h
 ·simpa using h
 ·rename_i a b
  have e:a=b:=ot (by simpa using h)
  rw[e]
 ·simpa using h
 ·simp only[Bool.and_eq_true,beq_iff_eq] at h
  rw[h.1.1,nbT h.1.2,nbT h.2]
 ·cases h
theorem lv {P:Program} {nx:Nat} {ρ:Operand→Value} {o:Oper} {v:Value} {eff:Eff} {b b2:Option Blk} {p:Rec} (hp:p.ld=fu ρ o v) (h:gj P p b2=true) (hv:ai o.op P nx o.type ρ b=some (v,eff)) :
  ai o.op P nx o.type ρ b2=some (v,eff):=by
 unfold gj at h
 rw[hp] at h
 split at h
 ·rename_i t ad u bl hld
  unfold fu at hld
  split at hld
  ·rename_i t' a' hop
   split at hld
   ·rename_i ad' hasp
    simp only[Option.some.injEq,Prod.mk.injEq] at hld
    obtain⟨rfl,rfl,rfl⟩:=hld
    rw[hop] at hv ⊢
    have hv':dF P t' b (asP (ρ a'))=some (v,eff):=hv
    show dF P t' (some bl) (asP (ρ a'))=some (v,eff)
    rw[hasp] at hv' ⊢
    unfold dF at hv' ⊢
    simp only at hv' ⊢
    split at h
    ·rename_i u' hl
     rw[hl,ou h]
     split at hv'
     ·obtain⟨_,rfl⟩:=aN hv'
      rfl
     ·cases hv'
    ·cases h
   ·cases hld
  ·cases hld
 ·cases h
end
end Go.Proofs.YtjcbhbncncbdjaaGreatDoorAi
namespace Go.Proofs.YtjcbhbncncbdjaaGreatDoorAi
open Go Go.RowKit
set_option linter.unusedVariables false
set_option linter.unusedSimpArgs false
set_option linter.unnecessarySimpa false
set_option linter.unusedSectionVars false
def md (X:Cx) (S:Nat→St) (r:Nat→Rec) (n:Nat) (D:Nat→Bool) (i:Nat):Prop:=(S 0).nx≤i∧i<X.NX∧ ∀k,k<n→D k=true→ ¬ ((r k).lo≤i∧i<(r k).hi)
def RelD (X:Cx) (S:Nat→St) (r:Nat→Rec) (ops:Array Oper) (D:Nat→Bool) (μ:Mu) (a:Act) (w:World):Prop :=
 dw X (cp S ops D ops.size) (bo S r D ops.size) (md X S r ops.size D) μ a w
section
variable {E:Env} {call:am} {o:Oper} {s s':St} {q:Rec} {lst:List Rec} {b:Option Bool}
theorem jz.ms_lt (hoa:aj E.over) (habs:aj call) (h:jz E call o s s' q lst b) (hwf:Wf s.H s.nx): ∀i∈q.ms,i<s.nx:=by
 intro i hi
 cases h with
 | skip _ h1 h2=>subst h2; simp at hi
 | op v eff _ hc hv hall h1 h2 =>
  subst h2
  simp only at hi
  cases eff with
  | none=>simp[bT] at hi
  | new b=>simp[bT] at hi
  | upd b =>
   cases ht:aq o.op (opv E.NG s.fr) with
   | none=>rw[ht] at hi; simp[bT] at hi
   | some j =>
    rw[ht] at hi hv
    simp only[bT,Option.toList,List.mem_singleton] at hi
    subst hi
    simp only[Option.bind_some] at hv
    cases hg:s.H.get i with
    | none=>rw[hg] at hv; rw[eU hv] at ht; cases ht
    | some bl=>exact Nat.lt_of_not_le fun e=>by rw[hwf i e] at hg; cases hg
 | call v H nx ms _ hc hv h3 h4 h1 h2 =>
  subst h2
  refine(dl hoa habs hv).lt (fun j hj=>?_) i hi
  rw[dM]
  split
  ·rfl
  ·exact hwf j hj
theorem jz.hi_le (h:jz E call o s s' q lst b) (hq:q.call=false):q.hi≤q.lo+1:=by
 cases h with
 | skip _ h1 h2=>subst h2; simp
 | op v eff _ hc hv hall h1 h2=>subst h2; cases eff<;>simp[bS]
 | call v H nx ms _ hc hv h3 h4 h1 h2=>subst h2; simp at hq
theorem cv.kind {ops:Array Oper} {S:Nat→St} {r:Nat→Rec} {U:Nat→List Nat} (hT:cv E call ops S r U) {j:Nat} (ho:ops[j]? = some o) :
  ∃lst,(∀k∈U j,r k∈lst)∧(∀q∈lst,∃k∈U j,q=r k)∧jz E call o (S j) (S (j+1)) (r j) lst (ae ops (S j).fr o):=by
 obtain⟨lst,h1,h2,h3⟩:=hT.step j o ho
 exact⟨lst,h1,h2,kind_of h3⟩
end
section
variable {X:Cx} {call:am} {ops:Array Oper} {S:Nat→St} {r:Nat→Rec} {U:Nat→List Nat} {D D':Nat→Bool} {y:Nat} {o:Oper}
 {μ:Mu} {a:Act} {w:World} {next:Act→World→Prop} {Q:Exit→Act→World→Prop}
theorem cv.has_lt (hT:cv X.E call ops S r U) (hoa:aj X.E.over) (habs:aj call) (hwf0:Wf (S 0).H (S 0).nx) {k i:Nat} {p:Oper} (hp:ops[k]? = some p) (h:(r k).has i=true):i<(S (k+1)).nx:=by
 have hF:=hT.F hoa habs hp
 obtain⟨lst,_,_,hK⟩:=hT.kind hp
 have hk:k<ops.size:=(Array.getElem?_eq_some_iff.1 hp).1
 rcases Rec.has_true h with h | h
 ·have:=hK.ms_lt hoa habs (hT.wf hoa habs hwf0 (by omega)) i h
  have:=hF.le
  omega
 ·rw[hF.hi] at h; exact h.2
theorem cv.no_later (hT:cv X.E call ops S r U) (hoa:aj X.E.over) (habs:aj call) (hwf0:Wf (S 0).H (S 0).nx) (ho:ops[y]? = some o) {k i:Nat} {p:Oper} (hp:ops[k]? = some p) (hyk:y<k) (hU:y∈U k) (h1:(r y).has i=true) (h2:(r k).has i=true):False:=by
 have hk:k<ops.size:=(Array.getElem?_eq_some_iff.1 hp).1
 have hi:=hT.has_lt hoa habs hwf0 ho h1
 have hle:=hT.le hoa habs (j:=y+1) (k:=k) (by omega) (by omega)
 have hFk:=hT.F hoa habs hp
 have hm:i∈(r k).ms:=by
  rcases Rec.has_true h2 with h | h
  ·exact h
  ·rw[hFk.lo] at h; omega
 obtain⟨lst,hl1,hl2,hK⟩:=hT.kind hp
 have hy:=hl1 y hU
 cases hK with
 | skip _ e1 e2=>rw[e2] at hm; simp at hm
 | op v eff _ hc hv hall e1 e2 =>
  rw[e2] at hm
  simp only at hm
  cases eff with
  | none=>simp[bT] at hm
  | new b=>simp[bT] at hm
  | upd b =>
   have hok:=hall _ hy
   cases ht:aq p.op (opv X.E.NG (S k).fr) with
   | none=>rw[ht] at hm; simp[bT] at hm
   | some j =>
    rw[ht] at hm hok
    simp only[bT,Option.toList,List.mem_singleton] at hm
    subst hm
    rw[(eV hok).1] at h1; cases h1
 | call v H nx ms _ hc hv h3 h4 e1 e2 =>
  rw[e2] at hm
  simp only at hm
  obtain⟨c1,c2⟩:=h3 _ hy
  obtain⟨lst',_,_,hKy⟩:=hT.kind ho
  have hhi:=hKy.hi_le c1
  rcases Rec.has_true h1 with h | h
  ·rw[c2] at h; simp at h
  ·have e:i=(r y).lo:=by omega
   exact(d2 (h4 _ hy)).2 (by omega) (e▸hm)
theorem cv.later_write (hT:cv X.E call ops S r U) {k i:Nat} {p:Oper} (hp:ops[k]? = some p) (hU:y∈U k) (hm:i∈(r k).ms) (hrd:(r y).rd=some i):gj X.E.P (r y) ((S (k+1)).H.get i)=true:=by
 obtain⟨lst,hl1,hl2,hK⟩:=hT.kind hp
 have hy:=hl1 y hU
 cases hK with
 | skip _ e1 e2=>rw[e2] at hm; simp at hm
 | op v eff _ hc hv hall e1 e2 =>
  rw[e2] at hm
  rw[e1]
  simp only at hm ⊢
  rw[dL]
  cases eff with
  | none=>simp[bT] at hm
  | new b=>simp[bT] at hm
  | upd b =>
   have hok:=hall _ hy
   cases ht:aq p.op (opv X.E.NG (S k).fr) with
   | none=>rw[ht] at hm; simp[bT] at hm
   | some j =>
    rw[ht] at hm hok
    simp only[bT,Option.toList,List.mem_singleton] at hm
    subst hm
    simp only[cI,upd,if_pos]
    exact((eV hok).2 b rfl).2 hrd
 | call v H nx ms _ hc hv h3 h4 e1 e2 =>
  rw[e2] at hm
  rw[e1]
  simp only at hm ⊢
  rw[dZ]
  split
  ·rename_i hmade
   obtain⟨q,hq,e,hlt⟩:=gM hmade
   exact absurd (e▸hm) ((d2 (h4 q hq)).2 hlt)
  ·exact(d2 (h4 _ hy)).1 i hrd hm
theorem mW {t:Tmp} (h:Operand.tmp t∈o.op.operands):t∈o.looksAt ops:=by
 unfold Oper.looksAt
 rw[List.mem_append,List.mem_filterMap]
 exact .inl ⟨.tmp t,Array.mem_toList_iff.2 h,rfl⟩
theorem kq {j:Nat} {want:Bool} {d:Tmp} (hg:o.guard=some (j,want)) (hd:(ops[j]?).bind (·.dst)=some d):d∈o.looksAt ops:=by
 unfold Oper.looksAt
 rw[List.mem_append]
 right
 rw[hg]
 simp[hd]
theorem dstep (he:cM X.E) (hcall:bV X.E call) (habs:aj call) (hX:X.B≤X.w0.heap.size) (hops:ops.toList.all (dj X.N)=true) (hT:cv X.E call ops S r U) (hwf0:Wf (S 0).H (S 0).nx) (h0:X.nx0≤(S 0).nx) (hN:(S ops.size).nx≤X.NX)
  (hD:fy ops fun k=>D k=true) (hlt: ∀k,D k=true→k<ops.size) (hy:D y=false) (ho:ops[y]? = some o) (hE:d1 (fun k=>D k=true) o) (hD': ∀k,D' k=if k=y then true else D k)
  (hR:RelD X S r ops D μ a w) (hn: ∀a' w' μ',RelD X S r ops D' μ' a' w'→next a' w'):wpOp X.E.P ops Q y next a w:=by
 have hyn:y<ops.size:=(Array.getElem?_eq_some_iff.1 ho).1
 have hd:dj X.N o=true:=by
  rw[List.all_eq_true] at hops
  exact hops o (Array.mem_toList_iff.2 (Array.mem_of_getElem? ho))
 have hwf:=hT.wf he.overA habs hwf0 (Nat.le_of_lt hyn)
 have hFy:=hT.F he.overA habs ho
 have late: ∀k p,y<k→D k=true→ops[k]? = some p→y∈U k:=by
  intro k p hk hdk hp
  by_cases hc:y∈U k
  ·exact hc
  ·have:=hT.sure k p hp _ hD (hD k p hp hdk) y hk hc
   rw[hy] at this; cases this
 have early: ∀k,k<y→D k=false→k∈U y:=by
  intro k hk hdk
  by_cases hc:k∈U y
  ·exact hc
  ·have:=hT.sure y o ho _ hD hE k hk hc
   rw[hdk] at this; cases this
 have hne: ∀k,D k=true→k≠y:=fun k h e=>by subst e; rw[hy] at h; cases h
 -- the slots at which the operation looks
 have slots: ∀t,t∈o.looksAt ops→cp S ops D ops.size t=Fr.get (S y).fr t:=by
  intro t ht
  rw[eD (m:=y) (by omega) fun k h1 h2 hdk e=>?_]
  ·refine hT.allF he.overA habs (by omega) fun k hk e=>?_
   cases hdk:D k with
   | true=>rfl
   | false =>
    have hp:ops[k]? = some ops[k]:=Array.getElem?_eq_getElem (by omega)
    rw[hp] at e
    have hap:=((hT.un y o ho k (early k hk hdk)).2 _ hp)
    exact absurd ht ((Oper.apart_spec hap).1 t e)
  ·have hp:ops[k]? = some ops[k]:=Array.getElem?_eq_getElem (by omega)
   rw[hp] at e
   have hyk:y<k:=by have:=hne k hdk; omega
   have hap:=((hT.un k _ hp y (late k _ hyk hdk hp)).2 _ ho)
   exact absurd ht ((Oper.apart_spec hap).2.2 t e)
 have hrho: ∀x∈o.op.operands,eB X.E.NG (cp S ops D ops.size) x=opv X.E.NG (S y).fr x:=by
  intro x hx
  rw[jw]
  cases x with
  | tmp t=>exact slots t (mW hx)
  | _=>rfl
 obtain⟨ct,ca,cc⟩:=mT hrho
 -- the slots behind the operation
 have newF: ∀v,(∀t,o.dst=some t→Fr.get (S (y+1)).fr t=v)→ ∀t,cp S ops D' ops.size t=d6 (cp S ops D ops.size) o.dst v t:=by
  intro v hv t
  unfold d6
  by_cases ht:o.dst=some t
  ·rw[if_pos ht,eD (m:=y+1) (by omega) fun k h1 h2 hdk e=>?_]
   ·rw[cp,if_pos ⟨by rw[hD',if_pos rfl],by rw[ho]; exact ht⟩,hv t ht]
   ·have hdk':D k=true:=by rw[hD',if_neg (by omega)] at hdk; exact hdk
    have hp:ops[k]? = some ops[k]:=Array.getElem?_eq_getElem (by omega)
    rw[hp] at e
    have hap:=((hT.un k _ hp y (late k _ (by omega) hdk' hp)).2 _ ho)
    exact(Oper.apart_spec hap).2.1 t ht e
  ·rw[if_neg ht]
   refine kp fun k hk e=>?_
   rw[hD',if_neg]
   rintro rfl
   rw[ho] at e
   exact ht e
 have newH1: ∀i,(r y).has i=true→bo S r D' ops.size i=(S (y+1)).H.get i:=by
  intro i hi
  rw[gL (m:=y+1) (by omega) fun k h1 h2 hdk=>?_]
  ·rw[bo,if_pos ⟨by rw[hD',if_pos rfl],hi⟩]
  ·have hdk':D k=true:=by rw[hD',if_neg (by omega)] at hdk; exact hdk
   have hp:ops[k]? = some ops[k]:=Array.getElem?_eq_getElem (by omega)
   cases hh:(r k).has i with
   | false=>rfl
   | true=>exact(hT.no_later he.overA habs hwf0 ho hp (by omega) (late k _ (by omega) hdk' hp) hi hh).elim
 have newH2: ∀i,(r y).has i=false→bo S r D' ops.size i=bo S r D ops.size i:=by
  intro i hi
  refine ko fun k hk e=>?_
  rw[hD',if_neg]
  rintro rfl
  rw[hi] at e; cases e
 have newFree: ∀i,md X S r ops.size D' i→md X S r ops.size D i∧ ¬ ((S y).nx≤i∧i<(S (y+1)).nx):=by
  rintro i ⟨h1,h2,h3⟩
  refine⟨⟨h1,h2,fun k hk hdk=>h3 k hk ?_⟩,?_⟩
  ·rw[hD']; split
   ·rfl
   ·exact hdk
  ·have:=h3 y hyn (by rw[hD',if_pos rfl])
   rw[hFy.lo,hFy.hi] at this
   exact this
 have isFree: ∀i,(S y).nx≤i→i<(S (y+1)).nx→md X S r ops.size D i:=by
  intro i h1 h2
  have l1:=hT.le he.overA habs (j:=0) (k:=y) (by omega) (by omega)
  have l2:=hT.le he.overA habs (j:=y+1) (k:=ops.size) (by omega) (by omega)
  refine⟨by omega,by omega,fun k hk hdk=>?_⟩
  have hp:ops[k]? = some ops[k]:=Array.getElem?_eq_getElem hk
  have hFk:=hT.F he.overA habs hp
  rw[hFk.lo,hFk.hi]
  rintro⟨h3,h4⟩
  have hk':=hne k hdk
  rcases Nat.lt_or_ge k y with h5 | h5
  ·have:=hT.le he.overA habs (j:=k+1) (k:=y) (by omega) (by omega); omega
  ·have:=hT.le he.overA habs (j:=y+1) (k:=k) (by omega) (by omega); omega
 unfold wpOp
 rw[ho]
 simp only
 obtain⟨lst,hl1,hl2,hK⟩:=hT.kind ho
 have guardS: ∀(j:Nat) (want:Bool) (d:Tmp),o.guard=some (j,want)→(ops[j]?).bind (·.dst)=some d→cp S ops D ops.size d=Fr.get (S y).fr d:=fun j want d hg hdd=>slots d (kq hg hdd)
 -- what an earlier operation that has not run yet may have touched, and what a later one that has run
 have before: ∀i,(∀k∈U y,(r k).has i=false)→bo S r D y i=(S y).H.get i:=by
  intro i hi
  refine hT.allH he.overA habs hwf0 (by omega) fun k hk e=>?_
  cases hdk:D k with
  | true=>rfl
  | false=>rw[hi k (early k hk hdk)] at e; cases e
 have after: ∀i,i<(S y).nx→bo S r D ops.size i=bo S r D y i∨ ∃k p,y<k∧D k=true∧ops[k]? = some p∧y∈U k∧i∈(r k).ms∧bo S r D ops.size i=(S (k+1)).H.get i:=by
  intro i hi
  rcases oq (S:=S) (r:=r) (D:=D) (i:=i) (m:=y) (m':=ops.size) (by omega) with h | ⟨k,h1,h2,h3,h4,h5⟩
  ·exact .inl h
  ·have hp:ops[k]? = some ops[k]:=Array.getElem?_eq_getElem h2
   have hyk:y<k:=by have:=hne k h3; omega
   refine .inr ⟨k,_,hyk,h3,hp,late k _ hyk h3 hp,?_,h5⟩
   rcases Rec.has_true h4 with h | h
   ·exact h
   ·have:=hT.le he.overA habs (j:=y) (k:=k) (by omega) (by omega)
    rw[(hT.F he.overA habs hp).lo] at h; omega
 cases hK with
 | skip hb e1 e2 =>
  have hwant:=dm (ops:=ops) hR hb guardS
  rw[if_neg (by rw[hwant]; simp)]
  refine hn _ _ μ ((mb hd hR).congr (newF undef fun t ht=>?_) (fun i=>newH2 i ?_) fun i hi=>(newFree i hi).1)
  ·rw[e1]; simp only; rw[cN,d6,if_pos ht]
  ·rw[e2]
   cases hh:Rec.has ⟨none,[],(S y).nx,(S y).nx,false,none⟩ i with
   | false=>rfl
   | true =>
    rcases Rec.has_true hh with h | h
    ·simp at h
    ·simp only at h; omega
 | op v eff hb hc hv hall e1 e2 =>
  have hwant:=dm (ops:=ops) hR hb guardS
  rw[if_pos hwant]
  left
  have hnx:(S (y+1)).nx=bS (S y).nx eff:=by rw[e1]
  have hms:(r y).ms=bT (aq o.op (opv X.E.NG (S y).fr)) eff:=by rw[e2]
  -- the block at which it looks
  obtain⟨b',hb1,hb2⟩: ∃b',ai o.op X.E.P (S y).nx o.type (opv X.E.NG (S y).fr) b'=some (v,eff)∧ ∀i,aq o.op (opv X.E.NG (S y).fr)=some i→b'=bo S r D ops.size i:=by
   cases ht:aq o.op (opv X.E.NG (S y).fr) with
   | none=>exact⟨_,hv,fun i hi=>by cases hi⟩
   | some i =>
    rw[ht] at hv hall
    simp only[Option.bind_some] at hv
    have hlt':i<(S y).nx:=by
     cases hg:(S y).H.get i with
     | none=>rw[hg] at hv; rw[eU hv] at ht; cases ht
     | some bl=>exact Nat.lt_of_not_le fun e=>by rw[hwf i e] at hg; cases hg
    have hbef:=before i fun k hk=>(eV (hall _ (hl1 k hk))).1
    rcases after i hlt' with h | ⟨k,p,k1,k2,k3,k4,k5,k6⟩
    ·exact⟨_,hv,fun j hj=>by obtain rfl:=Option.some.inj hj; rw[h,hbef]⟩
    ·have hag:=hT.later_write k3 k4 k5 (by rw[e2]; exact ht)
     rw[← k6] at hag
     exact⟨_,lv (by rw[e2]) hag hv,fun j hj=>by obtain rfl:=Option.some.inj hj; rfl⟩
  refine op_at (nx:=(S y).nx) hX hd hR hc (by rw[ca]; exact hb1) (by rw[ct]; exact hb2) (fun b e=>?_) fun v' w' μ' hR'=>hn _ _ μ' (hR'.congr (newF v fun t ht=>?_) (fun i=>?_) fun i hi=>⟨(newFree i hi).1,fun b e hi2=>?_⟩)
  ·have hnx':(S (y+1)).nx=(S y).nx+1:=by rw[hnx,e]; rfl
   have l1:=hT.le he.overA habs (j:=0) (k:=y) (by omega) (by omega)
   have l2:=hT.le he.overA habs (j:=y+1) (k:=ops.size) (by omega) (by omega)
   exact⟨isFree _ (Nat.le_refl _) (by omega),by omega,by omega⟩
  ·rw[e1]; simp only; rw[cN,d6,if_pos ht]
  ·rw[ct]
   cases hh:(r y).has i with
   | true =>
    rw[newH1 i hh,e1]
    simp only
    rw[dL]
    rcases Rec.has_true hh with h | h
    ·rw[hms] at h
     cases eff with
     | none=>simp[bT] at h
     | new b=>simp[bT] at h
     | upd b =>
      cases ht:aq o.op (opv X.E.NG (S y).fr) with
      | none=>rw[ht] at h; simp[bT] at h
      | some j =>
       rw[ht] at h
       simp only[bT,Option.toList,List.mem_singleton] at h
       subst h
       simp[cI,upd]
    ·rw[hFy.lo,hFy.hi,hnx] at h
     cases eff with
     | none=>simp only[bS] at h; omega
     | upd b=>simp only[bS] at h; omega
     | new b =>
      simp only[bS] at h
      have:i=(S y).nx:=by omega
      subst this
      simp[cI,upd]
   | false =>
    rw[newH2 i hh]
    obtain⟨n1,n2⟩:=Rec.has_false hh
    rw[hms] at n1
    rw[hFy.lo,hFy.hi,hnx] at n2
    cases eff with
    | none=>rfl
    | upd b =>
     cases ht:aq o.op (opv X.E.NG (S y).fr) with
     | none=>rfl
     | some j =>
      rw[ht] at n1
      simp only[bT,Option.toList,List.mem_singleton] at n1
      simp only[cI,upd]
      rw[if_neg n1]
    | new b =>
     simp only[bS] at n2
     simp only[cI,upd]
     rw[if_neg (by omega)]
  ·have hnx':(S (y+1)).nx=(S y).nx+1:=by rw[hnx,e]; rfl
   exact(newFree i hi).2 (by omega)
 | call v H nx ms hb hc hv h3 h4 e1 e2 =>
  have hwant:=dm (ops:=ops) hR hb guardS
  rw[if_pos hwant]
  left
  have hnx:(S (y+1)).nx=nx:=by rw[e1]
  have hms:(r y).ms=ms:=by rw[e2]
  have hcl:(r y).call=true:=by rw[e2]
  have hrok:=dl he.overA habs hv
  have hmade: ∀i,i∈aL lst→i<(S y).nx∧i∉ms:=by
   intro i hi
   obtain⟨q,hq,e,hqlt⟩:=gM hi
   obtain⟨k,hk,rfl⟩:=hl2 q hq
   have hky:=(hT.un y o ho k hk).1
   have hp:ops[k]? = some ops[k]:=Array.getElem?_eq_getElem (by omega)
   have hFk:=hT.F he.overA habs hp
   have:=hT.le he.overA habs (j:=k+1) (k:=y) (by omega) (by omega)
   rw[hFk.hi] at hqlt
   exact⟨by omega,e▸(d2 (h4 _ hq)).2 (by rw[hFk.hi]; exact hqlt)⟩
  have hwfc:Wf (hide (S y).H (aL lst)) (S y).nx:=by
   intro i hi
   rw[dM]
   split
   ·rfl
   ·exact hwf i hi
  refine l9 (r:=(v,H,nx,ms)) he hcall habs hX hd hR (by rw[cc]; exact hv) hwfc (fun i b hb=>?_) (fun i h1 h2=>isFree i h1 (by rw[hnx]; exact h2)) (by have:=hT.le he.overA habs (j:=0) (k:=y) (by omega) (by omega); omega)
   (by have:=hT.le he.overA habs (j:=y+1) (k:=ops.size) (by omega) (by omega); simp only; omega) fun v' w' μ' hR'=>hn _ _ μ' (hR'.congr (newF v fun t ht=>?_) (fun i=>?_) fun i hi=>⟨(newFree i hi).1,by have:=(newFree i hi).2; rw[hnx] at this; exact this⟩)
  ·rw[dM] at hb
   split at hb
   ·cases hb
   ·rename_i hnm
    have hlt':i<(S y).nx:=Nat.lt_of_not_le fun e=>by rw[hwf i e] at hb; cases hb
    have hbef:=before i fun k hk=>by
     cases hh:(r k).has i with
     | false=>rfl
     | true =>
      obtain⟨c1,c2⟩:=h3 _ (hl1 k hk)
      have hky:=(hT.un y o ho k hk).1
      have hp:ops[k]? = some ops[k]:=Array.getElem?_eq_getElem (by omega)
      obtain⟨lst',_,_,hKk⟩:=hT.kind hp
      have hhi:=hKk.hi_le c1
      rcases Rec.has_true hh with h | h
      ·rw[c2] at h; simp at h
      ·have e:i=(r k).lo:=by omega
       exact absurd (e▸mV (hl1 k hk) (by omega)) hnm
    rcases after i hlt' with h | ⟨k,p,k1,k2,k3,k4,k5,k6⟩
    ·rw[h,hbef,hb]
    ·exfalso
     obtain⟨lst',m1,m2,hKk⟩:=hT.kind k3
     have hyl:=m1 y k4
     cases hKk with
     | skip _ f1 f2=>rw[f2] at k5; simp at k5
     | op v2 eff2 _ _ _ hall2 f1 f2 =>
      rw[f2] at k5
      simp only at k5
      cases eff2 with
      | none=>simp[bT] at k5
      | new b=>simp[bT] at k5
      | upd b =>
       have hok:=hall2 _ hyl
       cases ht:aq p.op (opv X.E.NG (S k).fr) with
       | none=>rw[ht] at k5; simp[bT] at k5
       | some j =>
        rw[ht] at hok
        have:=((eV hok).2 b rfl).1
        rw[hcl] at this; cases this
     | call v2 H2 nx2 ms2 _ _ _ g3 g4 f1 f2 =>
      have:=(g3 _ hyl).1
      rw[hcl] at this; cases this
  ·rw[e1]; simp only; rw[cN,d6,if_pos ht]
  ·unfold kl
   simp only
   cases hh:(r y).has i with
   | true =>
    have hto:i∈ms∨((S y).nx≤i∧i<nx):=by
     rcases Rec.has_true hh with h | h
     ·rw[hms] at h; exact .inl h
     ·rw[hFy.lo,hFy.hi,hnx] at h; exact .inr h
    rw[if_pos hto,newH1 i hh,e1]
    simp only
    rw[dZ,if_neg]
    intro hm
    obtain⟨g1,g2⟩:=hmade i hm
    rcases hto with h | h
    ·exact g2 h
    ·omega
   | false =>
    obtain⟨n1,n2⟩:=Rec.has_false hh
    rw[hms] at n1
    rw[hFy.lo,hFy.hi,hnx] at n2
    rw[if_neg (by rintro(h | h); exact n1 h; exact n2 h),newH2 i hh]
end
end Go.Proofs.YtjcbhbncncbdjaaGreatDoorAi
namespace Go.Proofs.YtjcbhbncncbdjaaGreatDoorAi
open Go Go.RowKit
set_option linter.unusedVariables false
set_option linter.unusedSimpArgs false
set_option linter.unnecessarySimpa false
set_option linter.unusedSectionVars false
theorem mX {p q:Nat→Bool} {i:Nat} (hp:p i=true) (hq:q i=false) (h: ∀k,q k=true→p k=true): ∀l:List Nat,i∈l→l.countP q<l.countP p:=by
 intro l
 induction l with
 | nil=>intro h; simp at h
 | cons x l ih =>
  intro hi
  have hle:l.countP q≤l.countP p:=List.countP_mono_left fun k _=>h k
  rw[List.countP_cons,List.countP_cons]
  rcases List.mem_cons.1 hi with rfl | hi
  ·rw[hp,hq]; simp; omega
  ·have:=ih hi
   cases hqx:q x
   ·cases p x<;>simp<;>omega
   ·rw[h x hqx]; simp; omega
section
variable {X:Cx} {call:am} {ops:Array Oper} {S:Nat→St} {r:Nat→Rec} {U:Nat→List Nat}
 {μ:Mu} {a:Act} {w:World} {next:Act→World→Prop} {Q:Exit→Act→World→Prop}
def Dl (listed:Array Bool):Nat→Bool:=fun k=>listed.getD k false
theorem Dl_set {listed:Array Bool} {i:Nat} (hi:i<listed.size) (k:Nat):Dl (listed.setIfInBounds i true) k=if k=i then true else Dl listed k:=by
 unfold Dl
 simp only[Array.getD_eq_getD_getElem?]
 by_cases h:k=i
 ·subst h; simp[hi]
 ·rw[if_neg h,Array.getElem?_setIfInBounds_ne (fun e=>h e.symm)]
theorem fB {listed:Array Bool} {i:Nat} (hs:listed.size=ops.size):i∈Region.ready .any ops listed↔ ∃o,ops[i]? = some o∧Dl listed i=false∧d1 (fun k=>Dl listed k=true) o:=by
 unfold Region.ready
 rw[List.mem_filter,List.mem_range]
 constructor
 ·rintro⟨h1,h2⟩
  have ho:ops[i]? = some ops[i]:=Array.getElem?_eq_getElem h1
  rw[ho] at h2
  simp only[Option.map_some,Option.getD_some,Bool.and_eq_true,Array.all_eq_true_iff_forall_mem] at h2
  refine⟨_,ho,?_,fun e he hb=>?_⟩
  ·have:=h2.1
   unfold Dl
   simp only[Array.getD_eq_getD_getElem?] at this ⊢
   have hi:listed[i]? = some listed[i]:=Array.getElem?_eq_getElem (by omega)
   rw[hi] at this ⊢
   simpa using this
  ·have:=h2.2 e (Array.mem_toList_iff.1 he)
   rw[hb] at this
   simpa[Dl] using this
 ·rintro⟨o,ho,h1,h2⟩
  have hi:i<ops.size:=(Array.getElem?_eq_some_iff.1 ho).1
  refine⟨hi,?_⟩
  rw[ho]
  simp only[Option.map_some,Option.getD_some,Bool.and_eq_true,Array.all_eq_true_iff_forall_mem]
  refine⟨?_,fun e he=>?_⟩
  ·unfold Dl at h1
   simp only[Array.getD_eq_getD_getElem?] at h1 ⊢
   have hi':listed[i]? = some listed[i]:=Array.getElem?_eq_getElem (by omega)
   rw[hi'] at h1 ⊢
   simpa using h1
  ·cases hb:Region.binds .any e with
   | false=>rfl
   | true =>
    have:=h2 e (Array.mem_toList_iff.2 he) hb
    simpa[Dl] using this
theorem lw (hT:cv X.E call ops S r U) {listed:Array Bool} (hs:listed.size=ops.size) (hr:Region.ready .any ops listed= []): ∀j,j<ops.size→Dl listed j=true:=by
 intro j
 induction j using Nat.strongRecOn with
 | _ j ih =>
  intro hj
  have ho:ops[j]? = some ops[j]:=Array.getElem?_eq_getElem hj
  cases hd:Dl listed j with
  | true=>rfl
  | false =>
   have:j∈Region.ready .any ops listed:=(fB hs).2 ⟨_,ho,hd,fun e he hb=>ih e.on (hT.back j _ ho e he hb) (Nat.lt_trans (hT.back j _ ho e he hb) hj)⟩
   rw[hr] at this; simp at this
theorem lx (he:cM X.E) (hcall:bV X.E call) (habs:aj call) (hX:X.B≤X.w0.heap.size) (hops:ops.toList.all (dj X.N)=true) (hT:cv X.E call ops S r U) (hwf0:Wf (S 0).H (S 0).nx) (h0:X.nx0≤(S 0).nx) (hN:(S ops.size).nx≤X.NX)
  (hQ: ∀a' w',gJ X (S ops.size) a' w'→Q .normal a' w') :
  ∀(fuel:Nat) (listed:Array Bool) (μ:Mu) (a:Act) (w:World),listed.size=ops.size→fy ops (fun k=>Dl listed k=true)→(List.range ops.size).countP (fun k=> !Dl listed k)≤fuel →
   RelD X S r ops (Dl listed) μ a w→wpAny X.E.P .any ops Q fuel listed a w:=by
 have done: ∀(listed:Array Bool) (μ:Mu) (a:Act) (w:World),listed.size=ops.size→RelD X S r ops (Dl listed) μ a w→Region.ready .any ops listed= []→Q .normal a w:=by
  intro listed μ a w hs hR hr
  have hall:=lw hT hs hr
  refine hQ a w ⟨μ,hR.congr (fun t=>(hT.allF he.overA habs (Nat.le_refl _) fun k hk _=>hall k hk).symm) (fun i=>(hT.allH he.overA habs hwf0 (Nat.le_refl _) fun k hk _=>hall k hk).symm) fun i hi=>⟨?_,hi.2,fun k hk _=>?_⟩⟩
  ·have:=hT.le he.overA habs (j:=0) (k:=ops.size) (by omega) (by omega)
   have:=hi.1
   omega
  ·have hp:ops[k]? = some ops[k]:=Array.getElem?_eq_getElem hk
   have:=hT.le he.overA habs (j:=k+1) (k:=ops.size) (by omega) (by omega)
   rw[(hT.F he.overA habs hp).hi]
   have:=hi.1
   omega
 intro fuel
 induction fuel with
 | zero =>
  intro listed μ a w hs hD hc hR
  have hr:Region.ready .any ops listed= []:=by
   cases hr:Region.ready .any ops listed with
   | nil=>rfl
   | cons i l =>
    have hi:i∈Region.ready .any ops listed:=by rw[hr]; simp
    obtain⟨o,ho,h1,_⟩:=(fB hs).1 hi
    have:0<(List.range ops.size).countP (fun k=> !Dl listed k):=List.countP_pos_iff.2 ⟨i,by simpa using (Array.getElem?_eq_some_iff.1 ho).1,by simp[h1]⟩
    omega
  exact⟨hr,done listed μ a w hs hR hr⟩
 | succ fuel ih =>
  intro listed μ a w hs hD hc hR
  refine⟨done listed μ a w hs hR,fun i hi=>?_⟩
  obtain⟨o,ho,h1,h2⟩:=(fB hs).1 hi
  have hin:i<ops.size:=(Array.getElem?_eq_some_iff.1 ho).1
  have hset:=fun k=>Dl_set (listed:=listed) (i:=i) (by omega) k
  refine dstep (D':=Dl (listed.setIfInBounds i true)) he hcall habs hX hops hT hwf0 h0 hN hD (fun k hk=>?_) h1 ho h2 hset hR fun a' w' μ' hR'=>ih _ μ' a' w' (by simpa using hs) ?_ ?_ hR'
  ·unfold Dl at hk
   simp only[Array.getD_eq_getD_getElem?] at hk
   cases e:listed[k]? with
   | none=>rw[e] at hk; simp at hk
   | some b=>have:=(Array.getElem?_eq_some_iff.1 e).1; omega
  ·intro j p hp hdj e hem hb
   have hdj':Dl (listed.setIfInBounds i true) j=true:=hdj
   show Dl (listed.setIfInBounds i true) e.on=true
   rw[hset] at hdj' ⊢
   split
   ·rfl
   ·split at hdj'
    ·rename_i hji; subst hji
     rw[ho] at hp
     obtain rfl:=Option.some.inj hp
     exact h2 e hem hb
    ·exact hD j p hp hdj' e hem hb
  ·have:=mX (p:=fun k=> !Dl listed k) (q:=fun k=> !Dl (listed.setIfInBounds i true) k) (i:=i) (by simp[h1]) (by simp[hset]) (fun k hk=>by
    simp only[hset] at hk
    split at hk
    ·simp at hk
    ·exact hk) (List.range ops.size) (by simpa using hin)
   omega
theorem mY (he:cM X.E) (hcall:bV X.E call) (habs:aj call) (hX:X.B≤X.w0.heap.size) {id:Nat} {draw:Bool} (hops:ops.toList.all (dj X.N)=true) {s s':St} (h:jh draw ops X.E call s=some s') (hwf:Wf s.H s.nx) (h0:X.nx0≤s.nx) (hN:s'.nx≤X.NX)
  (hR:gJ X s a w) (hQ: ∀a' w',gJ X s' a' w'→Q .normal a' w'):(Code.region id ops draw).wp X.E.P Q a w:=by
 cases draw with
 | false =>
  refine wp_region ?_
  have:=seqO_ok he hcall habs hX hops hN hQ ops.toList 0 s a w (fun j=>by rw[Array.getElem?_toList,Nat.zero_add]) hwf h0 h hR
  rw[List.range_eq_range']
  simpa using this
 | true =>
  refine wp_region_any he.mixed ?_
  obtain⟨S,r,U,rfl,rfl,hT⟩:=run8 h
  obtain⟨μ,hR⟩:=hR
  have hd: ∀k,Dl (Array.replicate ops.size false) k=false:=fun k=>by
   unfold Dl
   simp only[Array.getD_eq_getD_getElem?,Array.getElem?_replicate]
   split<;>rfl
  refine lx he hcall habs hX hops hT hwf h0 hN hQ ops.size _ μ a _ (by simp) (fun j p hp hdj=>by have hdj':Dl (Array.replicate ops.size false) j=true:=hdj; rw[hd] at hdj'; cases hdj') ?_ (hR.drawn.congr (fun t=>?_) (fun i=>?_) fun i hi=>⟨hi.1,hi.2.1⟩)
  ·exact Nat.le_trans List.countP_le_length (by simp)
  ·exact eD (Nat.zero_le _) fun k _ _ hk=>by rw[hd] at hk; cases hk
  ·exact gL (Nat.zero_le _) fun k _ _ hk=>by rw[hd] at hk; cases hk
theorem iR {E:Env} (hoa:aj E.over) (habs:aj call) {draw:Bool} {s s':St} (h:jh draw ops E call s=some s'):LeS s s':=by
 cases draw with
 | false=>exact mc hoa habs ops.toList s h
 | true =>
  obtain⟨S,r,U,rfl,rfl,hT⟩:=run8 h
  exact hT.leS hoa habs (Nat.le_refl _)
end
end Go.Proofs.YtjcbhbncncbdjaaGreatDoorAi
namespace Go.Proofs.YtjcbhbncncbdjaaGreatDoorAi
open Go Go.RowKit
set_option linter.unusedVariables false
set_option linter.unusedSimpArgs false
set_option linter.unnecessarySimpa false
set_option linter.unusedSectionVars false
structure KOk (X:Cx) (r:R) (k:K) (Q:Exit→Act→World→Prop):Prop where
 le: ∀e s,k e s=some r→s.nx≤X.NX
 goto: ∀l s,k (.goto l) s=some r→False
 ok: ∀e s a w,k e s=some r→Wf s.H s.nx→X.nx0≤s.nx→gJ X s a w→Q e a w
def SOk (X:Cx) (r:R) (n:St→Option R) (W:Act→World→Prop):Prop:= ∀s,n s=some r→s.nx≤X.NX∧ ∀a w,Wf s.H s.nx→X.nx0≤s.nx→gJ X s a w→W a w
section
variable {X:Cx} {call:am} {r:R} {k:K} {Q:Exit→Act→World→Prop}
theorem KOk.seq {n:St→Option R} {W:Act→World→Prop} (hn:SOk X r n W) (hk:KOk X r k Q):KOk X r (nT n k) (Exit.then W Q):=by
 refine⟨fun e s h=>?_,fun l s h=>?_,fun e s a w h hwf h0 hR=>?_⟩
 ·cases e with
  | normal=>exact(hn s h).1
  | exit i=>exact hk.le _ _ h
  | ret=>exact hk.le _ _ h
  | _=>cases h
 ·cases h
 ·cases e with
  | normal=>exact(hn s h).2 a w hwf h0 hR
  | exit i=>exact hk.ok _ _ a w h hwf h0 hR
  | ret=>exact hk.ok _ _ a w h hwf h0 hR
  | _=>cases h
theorem KOk.block {id:Nat} (hk:KOk X r k Q):KOk X r (nU id k) (Exit.inBlock id Q):=by
 refine⟨fun e s h=>?_,fun l s h=>?_,fun e s a w h hwf h0 hR=>?_⟩
 ·cases e with
  | normal=>exact hk.le _ _ h
  | exit i =>
   have h':(bif Nat.beq i id then k .normal s else k (.exit i) s)=some r:=h
   cases hb:Nat.beq i id<;>rw[hb] at h'<;>exact hk.le _ _ h'
  | ret=>exact hk.le _ _ h
  | _=>cases h
 ·cases h
 ·cases e with
  | normal=>exact hk.ok _ _ a w h hwf h0 hR
  | exit i =>
   have h':(bif Nat.beq i id then k .normal s else k (.exit i) s)=some r:=h
   show if i=id then Q .normal a w else Q (.exit i) a w
   cases hb:Nat.beq i id<;>rw[hb] at h'
   ·rw[if_neg (nbN hb)]; exact hk.ok _ _ a w h' hwf h0 hR
   ·rw[if_pos (nbT hb)]; exact hk.ok _ _ a w h' hwf h0 hR
  | ret=>exact hk.ok _ _ a w h hwf h0 hR
  | _=>cases h
theorem KOk.noGoto (hk:KOk X r k Q):KOk X r k (Exit.noGoto Q) :=
 ⟨hk.le,hk.goto,fun e s a w h hwf h0 hR=>by
  cases e with
  | goto l=>exact(hk.goto l s h).elim
  | _=>exact hk.ok _ _ a w h hwf h0 hR⟩
theorem evC_ok (he:cM X.E) (hcall:bV X.E call) (habs:aj call) (hX:X.B≤X.w0.heap.size) (c:Code):bG X.N c=true→ ∀(lf:Nat) (k:K) (Q:Exit→Act→World→Prop),KOk X r k Q→SOk X r (fun s=>evC c X.E call lf s k) (c.wp X.E.P Q):=by
 induction c with
 | skip=>intro _ lf k Q hk s h; exact⟨hk.le _ _ h,fun a w hwf h0 hR=>wp_skip (hk.ok _ _ a w h hwf h0 hR)⟩
 | label l=>intro _ lf k Q hk s h; exact⟨hk.le _ _ h,fun a w hwf h0 hR=>wp_label (hk.ok _ _ a w h hwf h0 hR)⟩
 | exit id=>intro _ lf k Q hk s h; exact⟨hk.le _ _ h,fun a w hwf h0 hR=>wp_exit (hk.ok _ _ a w h hwf h0 hR)⟩
 | ret=>intro _ lf k Q hk s h; exact⟨hk.le _ _ h,fun a w hwf h0 hR=>wp_ret (hk.ok _ _ a w h hwf h0 hR)⟩
 | region id ops draw =>
  intro hc lf k Q hk s h
  have h':bI k (jh draw ops X.E call s)=some r:=h
  unfold bI at h'
  split at h'
  case h_2=>cases h'
  rename_i s' hr
  have hle:=iR he.overA habs hr
  have hN:=hk.le _ _ h'
  refine⟨Nat.le_trans hle.le hN,fun a w hwf h0 hR=>mY he hcall habs hX hc hr hwf h0 hN hR fun a' w' hR'=>hk.ok _ _ a' w' h' (hle.wf hwf) (Nat.le_trans h0 hle.le) hR'⟩
 | seq x y ihx ihy =>
  intro hc lf k Q hk s h
  have hc':bG X.N x=true∧bG X.N y=true:=by simpa[bG] using hc
  have hy:=ihy hc'.2 lf k Q hk
  obtain⟨h1,h2⟩:=ihx hc'.1 lf _ _ (KOk.seq hy hk) s h
  exact⟨h1,fun a w hwf h0 hR=>wp_seq (h2 a w hwf h0 hR)⟩
 | cond c x y ihx ihy =>
  intro hc lf k Q hk s h
  have hc':bG X.N x=true∧bG X.N y=true:=by simpa[bG] using hc
  have h':gm (evC x) (evC y) X.E call lf s k (asB (opv X.E.NG s.fr c))=some r:=h
  unfold gm at h'
  split at h'
  case h_2=>cases h'
  rename_i t ht
  have heval: ∀a w,gJ X s a w→a.eval c= .bool t:=by
   rintro a w ⟨μ,hR⟩
   have:=hR.rho c
   rw[← jw,i9 ht] at this
   exact this.bool
  cases t with
  | true =>
   obtain⟨h1,h2⟩:=ihx hc'.1 lf k Q hk s h'
   exact⟨h1,fun a w hwf h0 hR=>wp_cond (heval a w hR) (h2 a w hwf h0 hR)⟩
  | false =>
   obtain⟨h1,h2⟩:=ihy hc'.2 lf k Q hk s h'
   exact⟨h1,fun a w hwf h0 hR=>wp_cond (heval a w hR) (h2 a w hwf h0 hR)⟩
 | block id b ih =>
  intro hc lf k Q hk s h
  obtain⟨h1,h2⟩:=ih hc lf _ _ (KOk.block hk) s h
  exact⟨h1,fun a w hwf h0 hR=>wp_block (h2 a w hwf h0 hR)⟩
 | scope b ih =>
  intro hc lf k Q hk s h
  obtain⟨h1,h2⟩:=ih hc lf _ _ hk.noGoto s h
  exact⟨h1,fun a w hwf h0 hR=>wp_scope_straight (h2 a w hwf h0 hR)⟩
 | loop b ih =>
  intro hc lf k Q hk s h
  have key: ∀n,SOk X r (fun s=>gl (evC b X.E call lf) n s k) (Code.rounds X.E.P b Q n):=by
   intro n
   induction n with
   | zero=>intro s h; cases h
   | succ n ihn =>
    intro s h
    obtain⟨h1,h2⟩:=ih hc lf _ _ (KOk.seq ihn hk) s h
    exact⟨h1,fun a w hwf h0 hR=>h2 a w hwf h0 hR⟩
  obtain⟨h1,h2⟩:=key lf s h
  exact⟨h1,fun a w hwf h0 hR=>wp_loop_rounds lf (h2 a w hwf h0 hR)⟩
 | _=>intro _ lf k Q hk s h; cases h
theorem evC_le {E:Env} (hoa:aj E.over) (habs:aj call) (c:Code): ∀(lf:Nat) (k:K) (s:St),evC c E call lf s k=some r→ ∃e s',LeS s s'∧k e s'=some r:=by
 have lift: ∀{n:St→Option R} {k:K} {s:St},(∀s',n s'=some r→ ∃e s2,LeS s' s2∧k e s2=some r)→(∃e s',LeS s s'∧nT n k e s'=some r)→ ∃e s',LeS s s'∧k e s'=some r:=by
  rintro n k s hn ⟨e,s',h1,h2⟩
  cases e with
  | normal=>obtain⟨e,s2,h3,h4⟩:=hn s' h2; exact⟨e,s2,h1.trans h3,h4⟩
  | exit i=>exact⟨_,s',h1,h2⟩
  | ret=>exact⟨_,s',h1,h2⟩
  | _=>cases h2
 induction c with
 | skip=>intro lf k s h; exact⟨_,s,LeS.refl _,h⟩
 | label l=>intro lf k s h; exact⟨_,s,LeS.refl _,h⟩
 | exit id=>intro lf k s h; exact⟨_,s,LeS.refl _,h⟩
 | ret=>intro lf k s h; exact⟨_,s,LeS.refl _,h⟩
 | region id ops draw =>
  intro lf k s h
  have h':bI k (jh draw ops E call s)=some r:=h
  unfold bI at h'
  split at h'
  case h_2=>cases h'
  rename_i s' hr
  exact⟨_,s',iR hoa habs hr,h'⟩
 | seq x y ihx ihy=>intro lf k s h; exact lift (fun s' h'=>ihy lf k s' h') (ihx lf _ s h)
 | cond c x y ihx ihy =>
  intro lf k s h
  have h':gm (evC x) (evC y) E call lf s k (asB (opv E.NG s.fr c))=some r:=h
  unfold gm at h'
  split at h'
  case h_2=>cases h'
  rename_i t ht
  cases t with
  | true=>exact ihx lf k s h'
  | false=>exact ihy lf k s h'
 | block id b ih =>
  intro lf k s h
  obtain⟨e,s',h1,h2⟩:=ih lf _ s h
  cases e with
  | normal=>exact⟨_,s',h1,h2⟩
  | exit i =>
   have h':(bif Nat.beq i id then k .normal s' else k (.exit i) s')=some r:=h2
   cases hb:Nat.beq i id<;>rw[hb] at h'<;>exact⟨_,s',h1,h'⟩
  | ret=>exact⟨_,s',h1,h2⟩
  | _=>cases h2
 | scope b ih=>intro lf k s h; exact ih lf k s h
 | loop b ih =>
  intro lf k s h
  have key: ∀n s,gl (evC b E call lf) n s k=some r→ ∃e s',LeS s s'∧k e s'=some r:=by
   intro n
   induction n with
   | zero=>intro s h; cases h
   | succ n ihn=>intro s h; exact lift (fun s' h'=>ihn s' h') (ih lf _ s h)
  exact key lf s h
 | _=>intro lf k s h; cases h
end
section
variable {P:Program} {s:St} {fn:Func}
theorem iS: ∀(l:List ResultVar) (vs:List Value),gn P s l=some vs→vs.length=l.length∧ ∀(k:Nat) (x:ResultVar) (v:Value),l[k]? = some x→vs[k]? = some v→kZ P s x=some v:=by
 intro l
 induction l with
 | nil=>intro vs h; obtain rfl:=Option.some.inj (show some []=some vs from h); exact⟨rfl,fun k x v h=>by simp at h⟩
 | cons x l ih =>
  intro vs h
  unfold gn at h
  split at h
  case h_2=>cases h
  rename_i v vs' h1 h2
  obtain rfl:=Option.some.inj h
  obtain⟨h3,h4⟩:=ih vs' h2
  refine⟨by simp[h3],fun k y u hy hu=>?_⟩
  cases k with
  | zero=>simp at hy hu; subst hy; subst hu; exact h1
  | succ k=>exact h4 k y u (by simpa using hy) (by simpa using hu)
theorem ov: ∀(l:List ResultVar) (vs:List Value),gn P s l=some vs→ ∀x∈l,∃v,kZ P s x=some v:=by
 intro l vs h x hx
 obtain⟨h1,h2⟩:=iS l vs h
 obtain⟨k,hk,e⟩:=List.getElem_of_mem hx
 exact⟨vs[k]'(by omega),h2 k x _ (by rw[← e]; simp) (by simp)⟩
theorem ly {X:Cx} {a:Act} {w:World} {μ:Mu} {free:Nat→Prop} (hP:X.E.P=P) (hR:dw X (Fr.get s.fr) s.H.get free μ a w) {v:Value} (h:fv P fn s=some v): ∃v',(results fn a.tmps).run P w= .ok v' w∧VR μ v v':=by
 subst hP
 unfold fv at h
 have one: ∀x u,kZ X.E.P s x=some u→ ∃v',((match x with | .tmp t=>(pure (a.tmps.getD t undef):Sem Value) | .cell b t=>do loadVar t (← asAddr (a.tmps.getD b undef))):Sem Value).run X.E.P w= .ok v' w∧VR μ u v':=by
  intro x u hx
  cases x with
  | tmp t =>
   obtain rfl:=Option.some.inj (show some (Fr.get s.fr t)=some u from hx)
   exact⟨_,rfl,hR.tmps t⟩
  | cell b t =>
   have hx':(match asP (Fr.get s.fr b) with | some (some ad)=>(s.H.get ad.block).bind (dD X.E.P t ad) | _=>none)=some u:=hx
   split at hx'
   case h_2=>cases hx'
   rename_i ad hasp
   obtain⟨bl,h1,h2⟩:=Option.bind_eq_some_iff.1 hx'
   have hp:=hR.tmps b
   rw[bb hasp] at hp
   obtain⟨_,L,hL,e⟩:=hp.ptrS
   obtain⟨L',hL',hbr⟩:=hR.heap.blk ad.block bl (by unfold jn; rw[h1])
   rw[hL] at hL'
   obtain rfl:=Option.some.inj hL'
   obtain⟨v',h3,h4⟩:=l6 h2 hp hL hbr
   refine⟨v',?_,h4⟩
   rw[e] at h3
   show((do loadVar t (← asAddr (a.tmps.getD b undef))):Sem Value).run X.E.P w= .ok v' w
   rw[e]
   simpa[Instr.loadAt,Instr.sureAddr,asAddr] using h3
 cases hl:gn X.E.P s fn.results.toList with
 | none=>rw[hl] at h; cases h
 | some vs =>
  rw[hl] at h
  obtain⟨hlen,hk⟩:=iS _ _ hl
  classical
  let g:ResultVar→Value:=fun x=>if hx: ∃v',((match x with | .tmp t=>(pure (a.tmps.getD t undef):Sem Value) | .cell b t=>do loadVar t (← asAddr (a.tmps.getD b undef))):Sem Value).run X.E.P w= .ok v' w∧ ∀u,kZ X.E.P s x=some u→VR μ u v' then Classical.choose hx else undef
  have hg: ∀x∈fn.results,((match x with | .tmp t=>(pure (a.tmps.getD t undef):Sem Value) | .cell b t=>do loadVar t (← asAddr (a.tmps.getD b undef))):Sem Value).run X.E.P w= .ok (g x) w∧ ∀u,kZ X.E.P s x=some u→VR μ u (g x):=by
   intro x hx
   obtain⟨u,hu⟩:=ov _ _ hl x (Array.mem_toList_iff.2 hx)
   obtain⟨v',h1,h2⟩:=one x u hu
   have hex: ∃v',((match x with | .tmp t=>(pure (a.tmps.getD t undef):Sem Value) | .cell b t=>do loadVar t (← asAddr (a.tmps.getD b undef))):Sem Value).run X.E.P w= .ok v' w∧ ∀u,kZ X.E.P s x=some u→VR μ u v' :=
    ⟨v',h1,fun u' hu'=>by rw[hu] at hu'; obtain rfl:=Option.some.inj hu'; exact h2⟩
   have:g x=Classical.choose hex:=by simp only[g]; rw[dif_pos hex]
   rw[this]
   exact Classical.choose_spec hex
  have hmap:=jq (P:=X.E.P) w (fun x=>((match x with | .tmp t=>(pure (a.tmps.getD t undef):Sem Value) | .cell b t=>do loadVar t (← asAddr (a.tmps.getD b undef))):Sem Value)) g fn.results fun x hx=>(hg x hx).1
  have hrun:(results fn a.tmps).run X.E.P w= .ok (if h:(fn.results.map g).size=1 then(fn.results.map g)[0] else .tuple (fn.results.map g)) w:=by
   unfold results
   rw[Sem.run_bind]
   refine Eq.trans (congrArg (fun z=>Result.andThen z _) hmap) ?_
   rfl
  have hrel: ∀(k:Nat) (x y:Value),vs[k]? = some x→(fn.results.map g)[k]? = some y→VR μ x y:=by
   intro k x y hx hy
   rw[Array.getElem?_map] at hy
   obtain⟨rv,h1,rfl⟩:=Option.map_eq_some_iff.1 hy
   have h1':fn.results.toList[k]? = some rv:=by rw[Array.getElem?_toList]; exact h1
   exact(hg rv (Array.mem_of_getElem? h1)).2 x (hk k rv x h1' hx)
  have hsz:(fn.results.map g).size=vs.length:=by rw[hlen]; simp
  refine⟨_,hrun,?_⟩
  split at h
  ·rename_i u e
   obtain rfl:=Option.some.inj h
   have e':=Option.some.inj e
   subst e'
   have h1:(fn.results.map g).size=1:=by rw[hsz]; rfl
   rw[dif_pos h1]
   exact hrel 0 _ _ rfl (Array.getElem?_eq_getElem (by omega))
  ·rename_i l hne e
   have e':=Option.some.inj e
   subst e'
   obtain rfl:=Option.some.inj h
   have h1: ¬ (fn.results.map g).size=1:=by
    rw[hsz]
    intro h1
    obtain⟨u,hu⟩:=List.length_eq_one_iff.1 h1
    exact hne u hu
   rw[dif_neg h1]
   exact .tuple (by simp[hsz]) fun k x y hx hy=>hrel k x y (by simpa using hx) hy
  ·rename_i e; cases e
end
theorem gN: ∀(l:List Value) (k t:Nat),Fr.get (de k l) t=if k≤t∧t<k+l.length then(l[t-k]?).getD undef else undef:=by
 intro l
 induction l with
 | nil=>intro k t; rw[if_neg (by simp)]; unfold de Fr.get Tr.get; cases bits t<;>rfl
 | cons v l ih =>
  intro k t
  show Fr.get (Fr.set (de (k+1) l) k v) t=_
  rw[eC,ih]
  simp only[List.length_cons]
  by_cases h:k=t
  ·subst h
   rw[if_pos rfl,if_pos (by omega)]
   simp
  ·rw[if_neg h]
   by_cases h2:k+1≤t∧t<k+1+l.length
   ·rw[if_pos h2,if_pos (by omega),show t-k=(t-(k+1))+1 by omega,List.getElem?_cons_succ]
   ·rw[if_neg h2,if_neg (by omega)]
theorem run_abs {E:Env} {call:am} (hoa:aj E.over) (habs:aj call) (n:Nat):aj fun f args H nx=>kc E call n args H nx (E.P.funcs[f]?):=by
 intro g args H nx r h
 simp only at h
 unfold kc at h
 split at h
 case h_2=>cases h
 rename_i fn hf
 unfold mI at h
 split at h
 case h_2=>cases h
 rename_i c hb
 obtain⟨_,h⟩:=aH h
 obtain⟨e,s',hle,hk⟩:=evC_le hoa habs c n _ _ h
 obtain⟨v,rfl⟩: ∃v,r=(v,s'.H,s'.nx,s'.ms.filter fun i=>Nat.blt i nx):=by
  unfold eu at hk
  split at hk
  ·obtain⟨v,_,h⟩:=Option.map_eq_some_iff.1 hk; exact⟨v,h.symm⟩
  ·obtain⟨v,_,h⟩:=Option.map_eq_some_iff.1 hk; exact⟨v,h.symm⟩
  ·cases hk
 refine⟨hle.le,hle.wf,fun hwf i hi hr=>?_,fun _ i hi=>?_⟩
 ·simp only at hi hr ⊢
  rcases hr with hr | hr
  ·refine hle.unch hwf i (fun hm=>hi (List.mem_filter.2 ⟨hm,?_⟩)) hr
   exact Nat.ble_eq_true_of_le hr
  ·rw[hle.wf hwf i hr,hwf i (Nat.le_trans hle.le hr)]
 ·simp only at hi
  exact Nat.le_of_ble_eq_true (List.mem_filter.1 hi).2
theorem ow {E:Env} {call:am} (he:cM E) (hcall:bV E call) (habs:aj call) (n:Nat):bV E fun f args H nx=>kc E call n args H nx (E.P.funcs[f]?):=by
 intro g args H nx r h μ B F w args' hwf ha hr hF hfr hgl hB
 simp only at h
 unfold kc at h
 split at h
 case h_2=>cases h
 rename_i fn hf
 unfold mI at h
 split at h
 case h_2=>cases h
 rename_i c hb
 obtain⟨hc,h⟩:=aH h
 rw[Bool.and_eq_true] at hc
 have hcode:bG fn.ntmps c=true:=by
  have:=hc.1
  unfold nV at this
  rw[hb] at this
  exact this
 have hlen:=Nat.le_of_ble_eq_true hc.2
 have hal:=ha.1
 let X:Cx:=⟨E,B,F,w,μ,nx,r.2.2.1,fn.ntmps⟩
 have hK:KOk X r (eu E.P fn nx) (bodyPost E.P fn fun e w'=> ∃v',e= .returned v'∧fV r μ B F w nx v' w'):=by
  have fin: ∀s a w',(fv E.P fn s).map (fun v=>(v,s.H,s.nx,s.ms.filter fun i=>Nat.blt i nx))=some r→gJ X s a w'→a.defers= []∧ ∃v',(results fn a.tmps).run E.P w'= .ok v' w'∧ ∃v2,(Ending.returned v')= .returned v2∧fV r μ B F w nx v2 w':=by
   rintro s a w' hm ⟨μ',hR⟩
   obtain⟨v,hv,rfl⟩:=Option.map_eq_some_iff.1 hm
   obtain⟨v',h1,h2⟩:=ly (P:=E.P) rfl hR hv
   exact⟨hR.defers,v',h1,v',rfl,μ',h2,hR.heap,hR.dis,hR.le,hR.out,hR.below⟩
  refine⟨fun e s hk=>?_,fun l s hk=>(by cases hk),fun e s a w' hk hwf' h0 hR=>?_⟩
  ·unfold eu at hk
   split at hk
   ·obtain⟨v,_,rfl⟩:=Option.map_eq_some_iff.1 hk; exact Nat.le_refl _
   ·obtain⟨v,_,rfl⟩:=Option.map_eq_some_iff.1 hk; exact Nat.le_refl _
   ·cases hk
  ·cases e with
   | normal=>exact fin s a w' hk hR
   | ret=>exact fin s a w' hk hR
   | _=>cases hk
 have hev:=evC_ok (X:=X) (call:=call) (r:=r) he hcall habs hB c hcode n _ _ hK _ h
 refine calls_of_wp hf hb (hev.2 _ w hwf (Nat.le_refl _) ⟨μ,rfl,?_,fun t=>?_,hr,hF,fun i hi=>hfr i hi.1 hi.2,hgl,Below.refl _ _,aX.refl _,fun _ _=>rfl⟩)
 ·show(args'++Array.replicate (fn.ntmps-args'.size) undef).size=fn.ntmps
  simp; omega
 ·show VR μ (Fr.get (de 0 args) t) ((args'++Array.replicate (fn.ntmps-args'.size) undef).getD t undef)
  rw[gN]
  simp only[Array.getD_eq_getD_getElem?]
  by_cases ht:t<args.length
  ·rw[if_pos (by omega),Array.getElem?_append_left (by omega)]
   have h1:args[t-0]? = some args[t]:=by simp[ht]
   have h2:args'[t]? = some args'[t]:=Array.getElem?_eq_getElem (by omega)
   rw[h1,h2]
   exact ha.2 t _ _ (by simpa using h1) h2
  ·rw[if_neg (by omega),Array.getElem?_append_right (by omega),Array.getElem?_replicate]
   split<;>exact .plain rfl
theorem ox {E:Env} (he:cM E): ∀n,bV E (run E n)∧aj (run E n):=by
 intro n
 induction n with
 | zero=>exact⟨fun g args H nx r h=>(by cases h),fun g args H nx r h=>(by cases h)⟩
 | succ n ih=>exact⟨ow he ih.1 ih.2 n,run_abs he.overA ih.2 n⟩
end Go.Proofs.YtjcbhbncncbdjaaGreatDoorAi
namespace Go.Proofs.YtjcbhbncncbdjaaGreatDoorAi
open Go Go.RowKit
set_option linter.unusedVariables false
abbrev OR:=Option R
noncomputable def be (n:Nat) (k:Nat→OR):OR:=Nat.rec (motive:=fun _=>(Nat→OR)→OR) (fun k=>k 0) (fun m _ k=>k (Nat.succ m)) n k
noncomputable def oy (i:Int) (k:Int→OR):OR:=Int.rec (motive:=fun _=>(Int→OR)→OR) (fun m k=>be m fun m=>k (Int.ofNat m)) (fun m k=>be m fun m=>k (Int.negSucc m)) i k
noncomputable def jA (a:Addr) (k:Addr→OR):OR:=be a.block fun b=>be a.off fun o=>k ⟨b,o,a.spot⟩
noncomputable def fZ (a:Option Addr) (k:Option Addr→OR):OR:=Option.rec (motive:=fun _=>(Option Addr→OR)→OR) (fun k=>k none) (fun a k=>jA a fun a=>k (some a)) a k
noncomputable def me (b:Bool) (k:Bool→OR):OR:=Bool.rec (motive:=fun _=>(Bool→OR)→OR) (fun k=>k false) (fun k=>k true) b k
noncomputable def fvB (b:Bool) (v:Value) (k:Value→OR):OR:=me b fun b=>k (.bool b)
noncomputable def fvI (d:IntKind) (n:Int) (v:Value) (k:Value→OR):OR:=oy n fun n=>k (.int d n)
noncomputable def fvP (a:Option Addr) (v:Value) (k:Value→OR):OR:=fZ a fun a=>k (.pointer a)
noncomputable def fvS (a:Option Addr) (n c:Nat) (v:Value) (k:Value→OR):OR:=fZ a fun a=>be n fun n=>be c fun c=>k (.slice a n c)
noncomputable def fvO (v:Value) (k:Value→OR):OR:=k v
noncomputable def eE (v:Value) (k:Value→OR):OR:=Value.rec (motive_1:=fun _=>Value→(Value→OR)→OR) (motive_2:=fun _=>Unit) (motive_3:=fun _=>Unit) (fun b=>fvB b) (fun d n=>fvI d n) (fun _ _=>fvO) (fun _ _ _=>fvO) (fun _=>fvO) (fun a=>fvP a) (fun a n c=>fvS a n c) (fun _=>fvO) (fun _=>fvO) (fun _ _ _ _ _=>fvO) (fvO) (fun _ _ _=>fvO) (fvO) (fun _ _=>fvO) (fun _ _=>fvO) (fun _ _=>()) () (fun _ _ _ _=>()) v v k
noncomputable def lz (l:List Value):(List Value→OR)→OR:=List.rec (fun k=>k []) (fun v _ ih k=>eE v fun v=>ih fun l=>k (v::l)) l
noncomputable def eW (l:List Nat):(List Nat→OR)→OR:=List.rec (fun k=>k []) (fun v _ ih k=>be v fun v=>ih fun l=>k (v::l)) l
noncomputable def lA (b:Blk) (k:Blk→OR):OR:=Blk.rec (motive:=fun _=>(Blk→OR)→OR) (fun cs e z own k=>lz cs fun cs=>k (.row cs e z own)) (fun s p k=>be p fun p=>k (.iter s p)) b k
abbrev SK (α:Type):=Option α→Tr α→(Tr α→OR)→OR
section
variable {α:Type}
noncomputable def kH:SK α:=fun x t k=>Tr.rec (motive:=fun _=>Option α→(Tr α→OR)→OR) (fun x k=>k (.n .e .e .e .e x)) (fun a b c d _ _ _ _ _ x k=>k (.n a b c d x)) t x k
noncomputable def kA (_:Way) (ih:SK α):SK α:=fun x t k=>Tr.rec (motive:=fun _=>SK α→Option α→(Tr α→OR)→OR) (fun ih x k=>ih x .e fun a=>k (.n a .e .e .e none)) (fun a b c d v _ _ _ _ ih x k=>ih x a fun a=>k (.n a b c d v)) t ih x k
noncomputable def kB (_:Way) (ih:SK α):SK α:=fun x t k=>Tr.rec (motive:=fun _=>SK α→Option α→(Tr α→OR)→OR) (fun ih x k=>ih x .e fun b=>k (.n .e b .e .e none)) (fun a b c d v _ _ _ _ ih x k=>ih x b fun b=>k (.n a b c d v)) t ih x k
noncomputable def kC (_:Way) (ih:SK α):SK α:=fun x t k=>Tr.rec (motive:=fun _=>SK α→Option α→(Tr α→OR)→OR) (fun ih x k=>ih x .e fun c=>k (.n .e .e c .e none)) (fun a b c d v _ _ _ _ ih x k=>ih x c fun c=>k (.n a b c d v)) t ih x k
noncomputable def kD (_:Way) (ih:SK α):SK α:=fun x t k=>Tr.rec (motive:=fun _=>SK α→Option α→(Tr α→OR)→OR) (fun ih x k=>ih x .e fun d=>k (.n .e .e .e d none)) (fun a b c d v _ _ _ _ ih x k=>ih x d fun d=>k (.n a b c d v)) t ih x k
noncomputable def setK (p:Way):SK α:=Way.rec kH kA kB kC kD p
end
noncomputable def iw (fr:Fr) (d:Option Tmp) (v:Value) (k:Fr→Option R):Option R :=
 match d with
 | some t=>setK (bits t) (some v) fr k
 | none=>k fr
abbrev KS:=St→Option R
noncomputable def iT (o:Oper) (s:St) (v:Value) (k:KS):Option R:=iw s.fr o.dst v fun fr=>k ⟨fr,s.H,s.nx,s.ms⟩
noncomputable def xupd (o:Oper) (s:St) (v:Value) (b:Blk) (k:KS) (i:Nat):Option R :=
 lA b fun b=>setK (bits i) (some b) s.H fun H=>iw s.fr o.dst v fun fr=>k ⟨fr,H,s.nx,ck [i] s.ms⟩
noncomputable def xnew (o:Oper) (s:St) (v:Value) (b:Blk) (k:KS):Option R :=
 lA b fun b=>setK (bits s.nx) (some b) s.H fun H=>be (Nat.succ s.nx) fun nx=>iw s.fr o.dst v fun fr=>k ⟨fr,H,nx,s.ms⟩
noncomputable def xeff (o:Oper) (s:St) (id:Option Nat) (v:Value) (k:KS):Eff→Option R
 | .none=>iT o s v k
 | .upd b=>(match id with | some i=>be i (xupd o s v b k) | none=>iT o s v k)
 | .new b=>xnew o s v b k
noncomputable def xA (o:Oper) (s:St) (id:Option Nat) (k:KS):Option (Value×Eff)→Option R
 | some (v,eff)=>eE v fun v=>xeff o s id v k eff
 | none=>none
noncomputable def xC (o:Oper) (s:St) (k:KS):Option R→Option R
 | some (v,H,nx,ms)=>eE v fun v=>be nx fun nx=>eW (ck ms s.ms) fun ms=>iw s.fr o.dst v fun fr=>k ⟨fr,H,nx,ms⟩
 | none=>none
noncomputable def xO1 (E:Env) (call:am) (o:Oper) (s:St) (k:KS):Option R:=xC o s k (bj o.op E call (opv E.NG s.fr) s.H s.nx)
noncomputable def xO2 (E:Env) (o:Oper) (s:St) (k:KS) (ρ:Operand→Value) (id:Option Nat):Option R:=xA o s id k (ai o.op E.P s.nx o.type ρ (id.bind s.H.get))
noncomputable def xO (E:Env) (call:am) (o:Oper) (s:St) (k:KS):Option R:=bif aw o.op then xO1 E call o s k else xO2 E o s k (opv E.NG s.fr) (aq o.op (opv E.NG s.fr))
abbrev XF:=Array Oper→Env→am→St→KS→Option R
noncomputable def xSeqS (f:XF) (o:Oper) (ops:Array Oper) (E:Env) (call:am) (s:St) (k:KS):Option Bool→Option R
 | some true=>xO E call o s fun s=>f ops E call s k
 | some false=>iw s.fr o.dst undef fun fr=>f ops E call ⟨fr,s.H,s.nx,s.ms⟩ k
 | none=>none
noncomputable def oz (l:List Oper):XF:=List.rec (fun _ _ _ s k=>k s) (fun o _ f ops E call s k=>xSeqS f o ops E call s k (ae ops s.fr o)) l
abbrev KD:=St→Rec→Option R
noncomputable def xDA (o:Oper) (un:List Rec) (E:Env) (s:St) (ρ:Operand→Value) (id:Option Nat) (k:KD):Option (Value×Eff)→Option R
 | some (v,eff) =>
  bif un.all (dh E.P id eff) then
   xA o s id (fun s'=>be s'.nx fun hi=>k s' ⟨id,bT id eff,s.nx,hi,false,fu ρ o v⟩) (some (v,eff))
  else none
 | none=>none
noncomputable def xDC (o:Oper) (un:List Rec) (E:Env) (s:St) (k:KD):Option R→Option R
 | some (v,H',nx',ms') =>
  bif un.all (dc E.P H' ms') then
   eW ms' fun ms'=>xC o s (fun s'=>k s' ⟨none,ms',s.nx,s'.nx,true,none⟩) (some (v,bring s.H H' (aL un),nx',ms'))
  else none
 | none=>none
noncomputable def xD1 (E:Env) (call:am) (o:Oper) (s:St) (un:List Rec) (k:KD):Option R :=
 bif un.all (fun r=> !r.call&&r.ms.isEmpty) then xDC o un E s k (bj o.op E call (opv E.NG s.fr) (hide s.H (aL un)) s.nx) else none
noncomputable def xD2 (E:Env) (o:Oper) (s:St) (un:List Rec) (k:KD) (ρ:Operand→Value) (id:Option Nat):Option R :=
 xDA o un E s ρ id k (ai o.op E.P s.nx o.type ρ (id.bind s.H.get))
noncomputable def xD3 (E:Env) (call:am) (o:Oper) (s:St) (un:List Rec) (k:KD):Option R :=
 bif aw o.op then xD1 E call o s un k else xD2 E o s un k (opv E.NG s.fr) (aq o.op (opv E.NG s.fr))
noncomputable def xD (E:Env) (call:am) (o:Oper) (s:St) (un:List Rec) (k:KD):Option Bool→Option R
 | none=>none
 | some false=>iw s.fr o.dst undef fun fr=>k ⟨fr,s.H,s.nx,s.ms⟩ ⟨none,[],s.nx,s.nx,false,none⟩
 | some true=>xD3 E call o s un k
abbrev XDF:=List (List Nat)→Array Oper→Env→am→List Rec→St→KS→Option R
noncomputable def kr (f:XDF) (o:Oper) (ops:Array Oper) (E:Env) (call:am) (rs:List Rec) (s:St) (k:KS):List (List Nat)→Option R
 | un::inf=>xD E call o s (ay rs un) (fun s' r=>f inf ops E call (rs++ [r]) s' k) (ae ops s.fr o)
 | []=>none
noncomputable def mf (l:List Oper):XDF:=List.rec (fun _ _ _ _ _ s k=>k s) (fun o _ f inf ops E call rs s k=>kr f o ops E call rs s k inf) l
noncomputable def xDrawI (ops:Array Oper) (E:Env) (call:am) (s:St) (k:KS):Option (List (List Nat))→Option R
 | some inf=>mf ops.toList inf ops E call [] s k
 | none=>none
noncomputable def xReg (draw:Bool) (ops:Array Oper) (E:Env) (call:am) (s:St) (k:KS):Option R :=
 bif draw then xDrawI ops E call s k (ir ops ops.toList [] []) else oz ops.toList ops E call s k
noncomputable def xRegion (ops:Array Oper) (draw:Bool):cm:=fun E call _ s k=>xReg draw ops E call s (k .normal)
noncomputable def kt (c:Code):cm:=Code.rec lZ (fun _ ops draw=>xRegion ops draw) (fun _ _ f g=>cSeq f g) (fun c _ _ f g=>l3 c f g) (fun id _ f=>ji id f)
 (fun _ f=>l4 f) (fun _ _ _ _ _ _=>cNo) cExit (fun _ f=>f) (fun _=>lZ) (fun _=>cNo) cRet (fun _=>cNo) c
noncomputable def oA (E:Env) (call:am) (n:Nat) (args:List Value) (H:T) (nx:Nat) (fn:Func):Option Code→Option R
 | some c=>bif nV fn&&Nat.ble args.length fn.ntmps then kt c E call n ⟨de 0 args,H,nx,[]⟩ (eu E.P fn nx) else none
 | none=>none
noncomputable def oB (E:Env) (call:am) (n:Nat) (args:List Value) (H:T) (nx:Nat):Option Func→Option R
 | some fn=>oA E call n args H nx fn fn.body
 | none=>none
noncomputable def oC (E:Env) (n:Nat):am:=Nat.rec (fun _ _ _ _=>none) (fun n call f args H nx=>oB E call n args H nx (E.P.funcs[f]?)) n
end Go.Proofs.YtjcbhbncncbdjaaGreatDoorAi
namespace Go.Proofs.YtjcbhbncncbdjaaGreatDoorAi
open Go Go.RowKit
set_option linter.unusedVariables false
set_option linter.unusedSimpArgs false
theorem aT (n:Nat) (k:Nat→OR):be n k=k n:=by cases n<;>rfl
theorem mZ (i:Int) (k:Int→OR):oy i k=k i:=by
 cases i with
 | ofNat m=>exact aT m _
 | negSucc m=>exact aT m _
theorem lB (a:Addr) (k:Addr→OR):jA a k=k a:=by
 unfold jA
 rw[aT,aT]
theorem gO (a:Option Addr) (k:Option Addr→OR):fZ a k=k a:=by
 cases a with
 | none=>rfl
 | some a=>exact lB a fun a=>k (some a)
theorem lC (b:Bool) (k:Bool→OR):me b k=k b:=by cases b<;>rfl
theorem fC (v:Value) (k:Value→OR):eE v k=k v:=by
 cases v with
 | bool b=>exact lC b _
 | int d n=>exact mZ n _
 | pointer a=>exact gO a _
 | slice a n c =>
  show(fZ a fun a=>be n fun n=>be c fun c=>k (.slice a n c))=_
  rw[gO,aT,aT]
 | _=>rfl
theorem m5 (l:List Value): ∀k:List Value→OR,lz l k=k l:=by
 induction l with
 | nil=>intro k; rfl
 | cons v l ih =>
  intro k
  show(eE v fun v=>lz l fun l=>k (v::l))=_
  rw[fC,ih]
theorem gQ (l:List Nat): ∀k:List Nat→OR,eW l k=k l:=by
 induction l with
 | nil=>intro k; rfl
 | cons v l ih =>
  intro k
  show(be v fun v=>eW l fun l=>k (v::l))=_
  rw[aT,ih]
theorem iU (b:Blk) (k:Blk→OR):lA b k=k b:=by
 cases b with
 | row cs e z own=>exact m5 cs _
 | iter s p=>exact aT p _
theorem jB {α:Type} (p:Way): ∀(x:Option α) (t:Tr α) (k:Tr α→OR),setK p x t k=k (Tr.setP p x t):=by
 induction p with
 | h=>intro x t k; cases t<;>rfl
 | a p ih =>
  intro x t k
  cases t with
  | e=>exact ih x .e _
  | n a b c d v=>exact ih x a _
 | b p ih =>
  intro x t k
  cases t with
  | e=>exact ih x .e _
  | n a b c d v=>exact ih x b _
 | c p ih =>
  intro x t k
  cases t with
  | e=>exact ih x .e _
  | n a b c d v=>exact ih x c _
 | d p ih =>
  intro x t k
  cases t with
  | e=>exact ih x .e _
  | n a b c d v=>exact ih x d _
theorem dx (fr:Fr) (d:Option Tmp) (v:Value) (k:Fr→Option R):iw fr d v k=k (bz fr d v):=by
 cases d with
 | none=>rfl
 | some t=>exact jB (bits t) (some v) fr k
noncomputable def dN (x:Option St) (k:St→Option R):Option R:=match x with | some s=>k s | none=>none
noncomputable def mg (x:Option (St×Rec)) (k:KD):Option R:=match x with | some (s,r)=>k s r | none=>none
theorem xeff_eq (o:Oper) (s:St) (id:Option Nat) (v:Value) (k:KS) (eff:Eff):xeff o s id v k eff=k ⟨bz s.fr o.dst v,kY s.H s.nx id eff,bS s.nx eff,ck (bT id eff) s.ms⟩:=by
 cases eff with
 | none=>show iT o s v k=_; unfold iT; rw[dx]; rfl
 | upd b =>
  cases id with
  | none=>show iT o s v k=_; unfold iT; rw[dx]; rfl
  | some i =>
   show be i (xupd o s v b k)=_
   rw[aT]
   unfold xupd
   rw[iU,jB,dx]
   rfl
 | new b =>
  show xnew o s v b k=_
  unfold xnew
  rw[iU,jB,aT,dx]
  rfl
theorem xA_eq (o:Oper) (s:St) (id:Option Nat) (k:KS) (x:Option (Value×Eff)):xA o s id k x=dN (iJ o s id x) k:=by
 cases x with
 | none=>rfl
 | some q =>
  obtain⟨v,eff⟩:=q
  show(eE v fun v=>xeff o s id v k eff)=_
  rw[fC,xeff_eq]
  rfl
theorem xC_eq (o:Oper) (s:St) (k:KS) (x:Option R):xC o s k x=dN (lW o s x) k:=by
 cases x with
 | none=>rfl
 | some q =>
  obtain⟨v,H,nx,ms⟩:=q
  show(eE v fun v=>be nx fun nx=>eW (ck ms s.ms) fun ms=>iw s.fr o.dst v fun fr=>k ⟨fr,H,nx,ms⟩)=_
  rw[fC,aT,gQ,dx]
  rfl
theorem xO_eq (E:Env) (call:am) (o:Oper) (s:St) (k:KS):xO E call o s k=dN (bm E call o s) k:=by
 unfold xO bm
 cases aw o.op
 ·exact xA_eq _ _ _ _ _
 ·exact xC_eq _ _ _ _
theorem xSeq_eq (l:List Oper) (ops:Array Oper) (E:Env) (call:am): ∀(s:St) (k:KS),oz l ops E call s k=dN (cG l ops E call s) k:=by
 induction l with
 | nil=>intro s k; rfl
 | cons o l ih =>
  intro s k
  show xSeqS (oz l) o ops E call s k (ae ops s.fr o)=dN (eK (cG l) o ops E call s (ae ops s.fr o)) k
  cases ae ops s.fr o with
  | none=>rfl
  | some b =>
   cases b with
   | false =>
    show(iw s.fr o.dst undef fun fr=>oz l ops E call ⟨fr,s.H,s.nx,s.ms⟩ k)=dN (cG l ops E call { s with fr:=bz s.fr o.dst undef }) k
    rw[dx,ih]
   | true =>
    show(xO E call o s fun s=>oz l ops E call s k)=dN (cg (cG l) ops E call (bm E call o s)) k
    rw[xO_eq]
    cases bm E call o s with
    | none=>rfl
    | some s'=>exact ih s' k
theorem xD_eq (E:Env) (call:am) (o:Oper) (s:St) (un:List Rec) (k:KD) (b:Option Bool):xD E call o s un k b=mg (di E call o s un b) k:=by
 cases b with
 | none=>rfl
 | some b =>
  cases b with
  | false =>
   show(iw s.fr o.dst undef fun fr=>k ⟨fr,s.H,s.nx,s.ms⟩ ⟨none,[],s.nx,s.nx,false,none⟩)=_
   rw[dx]
   rfl
  | true =>
   show xD3 E call o s un k=mg (bN E call o s un) k
   unfold xD3 bN
   cases aw o.op
   ·show xDA o un E s (opv E.NG s.fr) (aq o.op (opv E.NG s.fr)) k _=mg (dv o un E s (opv E.NG s.fr) (aq o.op (opv E.NG s.fr)) _) k
    generalize ai o.op E.P s.nx o.type (opv E.NG s.fr) ((aq o.op (opv E.NG s.fr)).bind s.H.get)=x
    cases x with
    | none=>rfl
    | some q =>
     obtain⟨v,eff⟩:=q
     unfold xDA dv
     simp only
     cases un.all (dh E.P (aq o.op (opv E.NG s.fr)) eff)
     ·rfl
     ·rw[cond_true,cond_true,xA_eq]
      show(be (bS s.nx eff) fun hi=>k _ ⟨_,_,_,hi,false,_⟩)=_
      rw[aT]
      rfl
   ·show xD1 E call o s un k=mg (eq E call o s un) k
    unfold xD1 eq
    cases un.all fun r=> !r.call&&r.ms.isEmpty
    ·rfl
    ·rw[cond_true,cond_true]
     generalize bj o.op E call (opv E.NG s.fr) (hide s.H (aL un)) s.nx=x
     cases x with
     | none=>rfl
     | some q =>
      obtain⟨v,H,nx,ms⟩:=q
      unfold xDC ep
      simp only
      cases un.all (dc E.P H ms)
      ·rfl
      ·rw[cond_true,cond_true,gQ,xC_eq]
       rfl
theorem oD (l:List Oper) (ops:Array Oper) (E:Env) (call:am): ∀(inf:List (List Nat)) (rs:List Rec) (s:St) (k:KS),mf l inf ops E call rs s k=dN (cH l inf ops E call rs s) k:=by
 induction l with
 | nil=>intro inf rs s k; rfl
 | cons o l ih =>
  intro inf rs s k
  show kr (mf l) o ops E call rs s k inf=dN (fX (cH l) o ops E call rs s inf) k
  cases inf with
  | nil=>rfl
  | cons un inf =>
   show xD E call o s (ay rs un) (fun s' r=>mf l inf ops E call (rs++ [r]) s' k) (ae ops s.fr o)=dN (bU (cH l) inf ops E call rs (di E call o s (ay rs un) (ae ops s.fr o))) k
   rw[xD_eq]
   cases di E call o s (ay rs un) (ae ops s.fr o) with
   | none=>rfl
   | some q=>exact ih inf (rs++ [q.2]) q.1 k
theorem xReg_eq (draw:Bool) (ops:Array Oper) (E:Env) (call:am) (s:St) (k:KS):xReg draw ops E call s k=dN (jh draw ops E call s) k:=by
 unfold xReg jh
 cases draw
 ·exact xSeq_eq _ _ _ _ _ _
 ·rw[cond_true,cond_true]
  cases ir ops ops.toList [] [] with
  | none=>rfl
  | some inf=>exact oD _ _ _ _ _ _ _ _
theorem xevC_eq (c:Code):kt c=evC c:=by
 induction c with
 | region id ops draw =>
  funext E call lf s k
  show xReg draw ops E call s (k .normal)=bI k (jh draw ops E call s)
  rw[xReg_eq]
  rfl
 | seq a b iha ihb=>show cSeq (kt a) (kt b)=cSeq (evC a) (evC b); rw[iha,ihb]
 | cond c a b iha ihb=>show l3 c (kt a) (kt b)=l3 c (evC a) (evC b); rw[iha,ihb]
 | block id b ih=>show ji id (kt b)=ji id (evC b); rw[ih]
 | loop b ih=>show l4 (kt b)=l4 (evC b); rw[ih]
 | scope b ih=>exact ih
 | _=>rfl
theorem xrun_eq (E:Env) (n:Nat):oC E n=run E n:=by
 induction n with
 | zero=>rfl
 | succ n ih =>
  funext f args H nx
  show oB E (oC E n) n args H nx (E.P.funcs[f]?)=kc E (run E n) n args H nx (E.P.funcs[f]?)
  rw[ih]
  unfold oB kc
  cases E.P.funcs[f]? with
  | none=>rfl
  | some fn =>
   show oA E (run E n) n args H nx fn fn.body=mI E (run E n) n args H nx fn fn.body
   unfold oA mI
   cases fn.body with
   | none=>rfl
   | some c =>
    simp only
    rw[xevC_eq]
end Go.Proofs.YtjcbhbncncbdjaaGreatDoorAi
namespace Go.Proofs.YtjcbhbncncbdjaaGreatDoorAi
open Go Go.RowKit
set_option linter.unusedVariables false
set_option linter.unusedSimpArgs false
noncomputable def jC (o:Option R):Option Value:=match o with | some (v,_)=>bif plain v then some v else none | none=>none
structure b9 where
 name:Nat
 blk:Nat
 cells:List Value
 esz:Nat
noncomputable def ba:List b9→T
 | []=> .e
 | k::l=>(ba l).set k.name (some (.row k.cells 0 k.esz false))
theorem jD {E:Env} (he:cM E) (ks:List b9) (nx:Nat) (μ:Mu) (hnx: ∀i,nx≤i→μ i=none∧(ba ks).get i=none) (hg:gz E.NG μ) {n:Nat} {f:FuncId} {args:List Value} (hp:aV args=true) {v:Value}
  (h:jC (oC E n f args (ba ks) nx)=some v) (w:World) (hr:HR μ w.heap.size (bd (ba ks) (fun _=>none)) w.heap) :
  Calls E.P f args.toArray w fun e w'=>e= .returned v∧Below w.heap.size w w':=by
 unfold jC at h
 rw[xrun_eq] at h
 split at h
 case h_2=>cases h
 rename_i v' rest hrun
 obtain⟨H,nx',ms⟩:=rest
 obtain⟨hpl,h⟩:=aH h
 obtain rfl:=Option.some.inj h
 have hA:dk μ args args.toArray:=⟨by simp,fun k x y p q=>by
  have q':args[k]? = some y:=by simpa using q
  rw[p] at q'
  obtain rfl:=Option.some.inj q'
  rw[aV,List.all_eq_true] at hp
  exact .plain (hp x (List.mem_of_getElem? p))⟩
 refine Calls.mono ((ox he n).1 f args (ba ks) nx _ hrun μ w.heap.size (fun _=>none) w args.toArray (fun i hi=>(hnx i hi).2) hA hr (fun i hi=>absurd rfl hi) (fun i hi _=>(hnx i hi).1) hg (Nat.le_refl _)) fun e w' hR=>?_
 obtain⟨v2,rfl,μ',h1,_,_,_,_,h6⟩:=hR
 have:=h1.plainI hpl
 subst this
 exact⟨rfl,h6⟩
theorem m6 (H:T):bd H (fun _=>none)=fun i=>H.get i:=by
 funext i
 unfold bd
 cases H.get i<;>rfl
def oE (μ:Mu) (w:World) (k:b9):Prop:= ∃L cc fz e,μ k.name=some L∧L.esz=k.esz∧w.heap[L.blk]? = some (.cells cc e fz)∧cc.size=L.lim∧L.off+k.cells.length≤L.lim∧k.esz≠0 ∧
 ∀(i:Nat) (x:Value),k.cells[i]? = some x→ ∃y,cc[L.off+i]? = some y∧VR μ x y∧y.oneCell'=true
theorem gS {ks:List b9} {μ:Mu} {w:World} {B:Nat} (h: ∀k∈ks,oE μ w k):HR μ B (bd (ba ks) (fun _=>none)) w.heap:=by
 rw[m6]
 have key: ∀(l:List b9) (i:Nat) (b:Blk),(ba l).get i=some b→ ∃k∈l,k.name=i∧b= .row k.cells 0 k.esz false:=by
  intro l
  induction l with
  | nil=>intro i b hb; rw[show(ba []).get i=none from Tr.get_e i] at hb; cases hb
  | cons k l ih =>
   intro i b hb
   rw[show ba (k::l)=(ba l).set k.name (some (.row k.cells 0 k.esz false)) from rfl,Tr.get_set] at hb
   split at hb
   ·rename_i hi
    exact⟨k,by simp,hi.symm,(Option.some.inj hb).symm⟩
   ·obtain⟨k',h1,h2⟩:=ih i b hb
    exact⟨k',by simp[h1],h2⟩
 refine⟨fun i b hb=>?_,fun i j b c L M n hb ho hc hL hM=>?_⟩
 ·obtain⟨k,hk,rfl,rfl⟩:=key ks i b hb
  obtain⟨L,cc,fz,e,h1,h3,h4,h5,h6,h7,h8⟩:=h k hk
  exact⟨L,h1,cc,fz,e,h4,h5,h3,h6,h8,fun h=>(by cases h),fun h=>absurd h h7,fun h=>(by cases h)⟩
 ·obtain⟨k,hk,rfl,rfl⟩:=key ks i b hb
  cases ho
theorem ku {E:Env} (he:cM E) (hNG:E.NG=0) {n:Nat} {f:FuncId} {args:List Value} (hp:aV args=true) {v:Value} (h:jC (oC E n f args .e 0)=some v) (w:World) :
  Calls E.P f args.toArray w fun e w'=>e= .returned v∧Below w.heap.size w w' :=
 jD he [] 0 (fun _=>none) (fun i _=>⟨rfl,Tr.get_e i⟩) (fun g hg=>by rw[hNG] at hg; omega) hp h w (gS fun k hk=>by cases hk)
end Go.Proofs.YtjcbhbncncbdjaaGreatDoorAi
namespace Go.Proofs.YtjcbhbncncbdjaaGreatDoorAi
open Go Go.RowKit
set_option linter.unusedVariables false
set_option linter.unusedSimpArgs false
set_option linter.unusedSectionVars false
def W (E:Env) (call:am) (lf:Nat) (c:Code) (s:St) (Q:Exit→St→Prop):Prop:= ∃e s',(∀k:K,evC c E call lf s k=k e s')∧Q e s'
section
variable {E:Env} {call:am} {lf:Nat} {s:St} {Q:Exit→St→Prop}
theorem W.mono {c:Code} {Q':Exit→St→Prop} (h:W E call lf c s Q) (hq: ∀e s,Q e s→Q' e s):W E call lf c s Q':=let ⟨e,s',a,b⟩:=h; ⟨e,s',a,hq _ _ b⟩
theorem W.skip (h:Q .normal s):W E call lf .skip s Q:=⟨_,s,fun _=>rfl,h⟩
theorem W.label {l:Nat} (h:Q .normal s):W E call lf (.label l) s Q:=⟨_,s,fun _=>rfl,h⟩
theorem W.exit {i:Nat} (h:Q (.exit i) s):W E call lf (.exit i) s Q:=⟨_,s,fun _=>rfl,h⟩
theorem W.ret (h:Q .ret s):W E call lf .ret s Q:=⟨_,s,fun _=>rfl,h⟩
theorem W.scope {c:Code} (h:W E call lf c s Q):W E call lf (.scope c) s Q:=h
def eX (N:St→Prop) (Q:Exit→St→Prop):Exit→St→Prop
 | .normal,s=>N s
 | .exit i,s=>Q (.exit i) s
 | .ret,s=>Q .ret s
 | _,_=>False
theorem W.seq {a b:Code} (h:W E call lf a s (eX (fun s'=>W E call lf b s' Q) Q)):W E call lf (.seq a b) s Q:=by
 obtain⟨e,s1,h1,h2⟩:=h
 cases e with
 | normal =>
  obtain⟨e2,s2,h3,h4⟩:=h2
  exact⟨e2,s2,fun k=>(h1 _).trans (h3 k),h4⟩
 | exit i=>exact⟨_,s1,fun k=>h1 _,h2⟩
 | ret=>exact⟨_,s1,fun k=>h1 _,h2⟩
 | _=>exact h2.elim
theorem W.cond {c:Operand} {a b:Code} {t:Bool} (hc:asB (opv E.NG s.fr c)=some t) (h:W E call lf (bif t then a else b) s Q):W E call lf (.cond c a b) s Q:=by
 obtain⟨e,s',h1,h2⟩:=h
 refine⟨e,s',fun k=>?_,h2⟩
 show gm (evC a) (evC b) E call lf s k (asB (opv E.NG s.fr c))=_
 rw[hc]
 cases t
 ·exact h1 k
 ·exact h1 k
def dO (id:Nat) (Q:Exit→St→Prop):Exit→St→Prop
 | .normal,s=>Q .normal s
 | .exit j,s=>if j=id then Q .normal s else Q (.exit j) s
 | .ret,s=>Q .ret s
 | _,_=>False
theorem W.block {id:Nat} {c:Code} (h:W E call lf c s (dO id Q)):W E call lf (.block id c) s Q:=by
 obtain⟨e,s1,h1,h2⟩:=h
 cases e with
 | normal=>exact⟨_,s1,fun k=>h1 _,h2⟩
 | exit j =>
  by_cases hj:j=id
  ·subst hj
   have h2':Q .normal s1:=by simpa[dO] using h2
   refine⟨.normal,s1,fun k=>(h1 _).trans ?_,h2'⟩
   show(bif Nat.beq j j then k .normal s1 else k (.exit j) s1)=_
   rw[Nat.beq_refl]; rfl
  ·have h2':Q (.exit j) s1:=by simpa[dO,hj] using h2
   refine⟨.exit j,s1,fun k=>(h1 _).trans ?_,h2'⟩
   show(bif Nat.beq j id then k .normal s1 else k (.exit j) s1)=_
   rw[nbF hj]; rfl
 | ret=>exact⟨_,s1,fun k=>h1 _,h2⟩
 | _=>exact h2.elim
theorem W.loop {c:Code} (I:Nat→St→Prop) (hI: ∃n,n<lf∧I n s) (round: ∀n s,I n s→W E call lf c s (eX (fun s'=> ∃m,m<n∧I m s') Q)):W E call lf (.loop c) s Q:=by
 have key: ∀n f s,I n s→n<f→ ∃e s',(∀k:K,gl (evC c E call lf) f s k=k e s')∧Q e s':=by
  intro n
  induction n using Nat.strongRecOn with
  | _ n ih =>
   intro f s h hlt
   obtain⟨f,rfl⟩: ∃g,f=g+1:=⟨f-1,by omega⟩
   obtain⟨e,s1,h1,h2⟩:=round n s h
   cases e with
   | normal =>
    obtain⟨m,hm,hI⟩:=h2
    obtain⟨e2,s2,h3,h4⟩:=ih m hm f s1 hI (by omega)
    exact⟨e2,s2,fun k=>(h1 _).trans (h3 k),h4⟩
   | exit i=>exact⟨_,s1,fun k=>h1 _,h2⟩
   | ret=>exact⟨_,s1,fun k=>h1 _,h2⟩
   | _=>exact h2.elim
 obtain⟨n,h1,h2⟩:=hI
 exact key n lf s h2 h1
def eF (l:List Oper) (ops:Array Oper) (E:Env) (call:am) (s:St) (Q:St→Prop):Prop:= ∃s',cG l ops E call s=some s'∧Q s'
theorem W.region {id:Nat} {ops:Array Oper} (h:eF ops.toList ops E call s (Q .normal)):W E call lf (.region id ops false) s Q:=by
 obtain⟨s',h1,h2⟩:=h
 refine⟨.normal,s',fun k=>?_,h2⟩
 show bI k (cG ops.toList ops E call s)=_
 rw[h1]; rfl
variable {l:List Oper} {ops:Array Oper} {o:Oper} {N:St→Prop} {b:Bool} {v:Value}
theorem eF.nil (h:N s):eF [] ops E call s N:=⟨s,rfl,h⟩
theorem eF.op (hw:ae ops s.fr o=some b) (hb:b=true) (hc:aw o.op=false) (hv:ai o.op E.P s.nx o.type (opv E.NG s.fr) ((aq o.op (opv E.NG s.fr)).bind s.H.get)=some (v,.none))
  (h:eF l ops E call ⟨bz s.fr o.dst v,s.H,s.nx,s.ms⟩ N):eF (o::l) ops E call s N:=by
 subst hb
 obtain⟨s',h1,h2⟩:=h
 refine⟨s',?_,h2⟩
 rw[bg,hw]
 show cg (cG l) ops E call (bm E call o s)=_
 unfold bm
 rw[hc,cond_false]
 unfold du dt
 rw[hv]
 exact h1
theorem eF.upd {id:Nat} {bl:Blk} (hw:ae ops s.fr o=some b) (hb:b=true) (hc:aw o.op=false) (ht:aq o.op (opv E.NG s.fr)=some id) (hv:ai o.op E.P s.nx o.type (opv E.NG s.fr) (s.H.get id)=some (v,.upd bl))
  (h:eF l ops E call ⟨bz s.fr o.dst v,s.H.set id (some bl),s.nx,ck [id] s.ms⟩ N):eF (o::l) ops E call s N:=by
 subst hb
 obtain⟨s',h1,h2⟩:=h
 refine⟨s',?_,h2⟩
 rw[bg,hw]
 show cg (cG l) ops E call (bm E call o s)=_
 unfold bm
 rw[hc,cond_false]
 unfold du dt
 rw[ht]
 simp only[Option.bind_some]
 rw[hv]
 exact h1
theorem eF.new {bl:Blk} (hw:ae ops s.fr o=some b) (hb:b=true) (hc:aw o.op=false) (hv:ai o.op E.P s.nx o.type (opv E.NG s.fr) ((aq o.op (opv E.NG s.fr)).bind s.H.get)=some (v,.new bl))
  (h:eF l ops E call ⟨bz s.fr o.dst v,s.H.set s.nx (some bl),s.nx+1,s.ms⟩ N):eF (o::l) ops E call s N:=by
 subst hb
 obtain⟨s',h1,h2⟩:=h
 refine⟨s',?_,h2⟩
 rw[bg,hw]
 show cg (cG l) ops E call (bm E call o s)=_
 unfold bm
 rw[hc,cond_false]
 unfold du dt
 rw[hv]
 exact h1
theorem eF.not (hw:ae ops s.fr o=some b) (hb:b=false) (h:eF l ops E call ⟨bz s.fr o.dst undef,s.H,s.nx,s.ms⟩ N):eF (o::l) ops E call s N:=by
 subst hb
 obtain⟨s',h1,h2⟩:=h
 refine⟨s',?_,h2⟩
 rw[bg,hw]
 exact h1
end
end Go.Proofs.YtjcbhbncncbdjaaGreatDoorAi
namespace Go.Proofs.YtjcbhbncncbdjaaGreatDoorAi
open Go Go.RowKit
set_option linter.unusedVariables false
set_option linter.unusedSimpArgs false
set_option linter.unusedSectionVars false
theorem get_put (fr:Fr) (d t:Nat) (v:Value):Fr.get (bz fr (some d) v) t=if d=t then v else Fr.get fr t:=eC fr d t v
theorem m7 (l:List Value) (t:Nat):Fr.get (de 0 l) t=(l[t]?).getD undef:=by
 rw[gN]
 by_cases h:t<l.length
 ·rw[if_pos (by omega),Nat.sub_zero]
 ·rw[if_neg (by omega),List.getElem?_eq_none (by omega)]; rfl
section
variable {P:Program} {nx:Nat} {ty:TypeId} {ρ:Operand→Value} {b:Option Blk} {x y:Operand} {v:Value} {k:IntKind} {m n:Int} {ops:Array Oper} {fr:Fr} {o:Oper}
theorem m8 (h:o.guard=none):ae ops fr o=some true:=by unfold ae; rw[h]
theorem iV {j:Nat} {w c:Bool} {t:Tmp} (h:o.guard=some (j,w)) (hj:(ops[j]?).bind (·.dst)=some t) (hc:Fr.get fr t= .bool c):ae ops fr o=some (c==w):=by
 unfold ae
 rw[h]
 show iK ops fr j w=_
 unfold iK
 rw[hj]
 show lX w (Fr.get fr t)=_
 rw[hc]
 rfl
theorem eY (h:ρ x=v):ai (.move x) P nx ty ρ b=some (v,.none):=by subst h; rfl
theorem eG (h:ρ x=v):ai (.assign x) P nx ty ρ b=some (v,.none):=by subst h; rfl
theorem kv {c:Operand} {t:Bool} {u:Value} (hc:ρ c= .bool t) (hx:ρ x=v) (hy:ρ y=u):ai (.pick c x y) P nx ty ρ b=some (bif t then v else u,.none):=by
 subst hx; subst hy
 show fG c x y P nx ty ρ b=_
 unfold fG
 rw[hc]; rfl
theorem aop_nil {a:Addr} (h:ρ x= .pointer (some a)):ai (.nilCheck x) P nx ty ρ b=some (.pointer (some a),.none):=by
 show nL (ρ x)=_
 rw[h]; rfl
theorem aop_not {t:Bool} {u:TypeId} (h:ρ x= .bool t):ai (.unOp .not u x) P nx ty ρ b=some (.bool !t,.none):=by
 show ar (unV P .not (ρ x))=_
 rw[h]; rfl
theorem aop_int {op:BinOp} {t u:TypeId} {j:IntKind} (hx:ρ x= .int k m) (hy:ρ y= .int j n) (h:jZ op k m j n=some v):ai (.binOp op t x y u) P nx ty ρ b=some (v,.none):=by
 show ar (gb P op t x y (ρ x) (ρ y))=_
 rw[hx,hy]
 show ar (jZ op k m j n)=_
 rw[h]; rfl
theorem jE {op:BinOp} {t u:TypeId} {s r:ByteArray} (hx:ρ x= .string s) (hy:ρ y= .string r) (h:dr op s r=some v):ai (.binOp op t x y u) P nx ty ρ b=some (v,.none):=by
 show ar (gb P op t x y (ρ x) (ρ y))=_
 rw[hx,hy]
 show ar (dr op s r)=_
 rw[h]; rfl
theorem ix {s:TypeId} {f i off sz:Nat} {ad ft:Nat} (hx:ρ x= .pointer (some ⟨i,ad,none⟩)) (hf:fieldAt P s f=some (off,sz,ft)) (hz:sz≠0):ai (.fieldAddr s x f) P nx ty ρ b=some (.pointer (some ⟨i,ad+off,none⟩),.none):=by
 show br s x f P nx ty ρ b=_
 unfold br
 rw[hx]
 show ar (faP ⟨i,ad,none⟩ (fieldAt P s f))=_
 rw[hf]
 unfold faP
 simp only
 rw[nbF hz]; rfl
theorem oF {t:TypeId} {i ad:Nat} {cs:List Value} {e:TypeId} {z:Nat} {own:Bool} {d:TypeDesc} (hx:ρ x= .pointer (some ⟨i,ad,none⟩)) (hb:b=some (.row cs e z own)) (ht:P.underlying t=some d) (hd:df d=false) (hv:cs[ad]? = some v) :
  ai (.load t x) P nx ty ρ b=some (v,.none):=by
 show dF P t b (asP (ρ x))=_
 rw[hx,hb]
 show ar (dD P t ⟨i,ad,none⟩ (.row cs e z own))=_
 unfold dD
 simp only[ht,hd,cond_false,aO,hv]; rfl
theorem iy {t:TypeId} {i ad len c n:Nat} {j:Int} (hx:ρ x= .slice (some ⟨i,ad,none⟩) len c) (hy:ρ y= .int k j) (hn:dB P t=some n) (h0:0≤j) (h1:j<(len:Int)) :
  ai (.indexAddr t x y) P nx ty ρ b=some (.pointer (some ⟨i,ad+j.toNat*n,none⟩),.none):=by
 show bs t x y P nx ty ρ b=_
 unfold bs
 rw[hx,hy]
 show ar (iaI P t (.slice (some ⟨i,ad,none⟩) len c) j)=_
 unfold iaI
 rw[hn]
 show ar (mG ⟨i,ad,none⟩ j len n)=_
 unfold mG
 rw[if_pos ⟨h0,h1⟩]; rfl
end
end Go.Proofs.YtjcbhbncncbdjaaGreatDoorAi
namespace Go.Proofs.YtjcbhbncncbdjaaGreatDoorAi
open Go Go.RowKit
set_option linter.unusedVariables false
set_option linter.unusedSimpArgs false
theorem jF {P:Program} {g:FuncId} {fn:Func} {e:Array Value→Sem Value} (hf:P.funcs[g]? = some fn) (hn:(fn.name== "runtime.NumGoroutine")=false) (hb:fn.body=none)
  (h1:Extern.findNext fn=none) (h2:Extern.find fn=some e) (args:Array Value) {v:Value} {w w':World} (hv:(e args).run P w= .ok v w'):(callFunc g args).run P w= .ok (.value v) w':=by
 unfold callFunc
 simp only[Sem.run_bind,run_program,Result.andThen_ok,hf,hn,hb,h1,h2,Option.isNone_none,if_true,Bool.false_eq_true,if_false,run_mark]
 simp[hv]
theorem gT: ∀(n t:Nat) (acc:Array Value),(∀v∈acc,v.oneCell'=true)→ ∀v∈Extern.BytealgMakeNoZero.digits n t acc,v.oneCell'=true
 | 0,_,acc,h=>h
 | n+1,t,acc,h=>gT n _ _ fun v hv=>by
  rcases Array.mem_push.1 hv with hv | hv
  ·exact h v hv
  ·subst hv; rfl
theorem run_mnz {P:Program} (w:World) (ps:Array TypeId) (t e:TypeId) (ht:P.underlying t=some (.slice e)) (n:Nat) (hn:n≤281474976710656) :
  ∃cs:Array Value,(Extern.BytealgMakeNoZero.makeNoZero ps #[t] #[.int .i64 n]).run P w= .ok (.slice (some ⟨w.heap.size,0,none⟩) n cs.size) (w.drew.drew.alloc (.cells cs e))∧n≤cs.size∧ ∀v∈cs,v.oneCell'=true:=by
 have hdef:Extern.BytealgMakeNoZero.makeNoZero ps #[t] #[.int .i64 n] =
   (do
    let .slice elem ← underlying t | stuck "bytealg.MakeNoZero: slice type expected"
    if(n:Int)<0||(n:Int)>2 ^ 48 then runtimePanic (.error "makeslice: len out of range")
    let cap ← choose (.appendCap (n:Int).toNat 0 elem)
    askRoom cap
    let bytes ← choose (.extern "internal/bytealg.MakeNoZero.bytes" 0)
    let a ← newRow elem (Extern.BytealgMakeNoZero.digits cap bytes #[])
    pure (.slice (some a) (n:Int).toNat cap)):=rfl
 refine⟨Extern.BytealgMakeNoZero.digits (grownCap w n 0 e) ((Question.extern "internal/bytealg.MakeNoZero.bytes" 0).cut (w.tape (w.drawn+1) (.extern "internal/bytealg.MakeNoZero.bytes" 0))) #[],?_,?_,gT _ _ _ (fun v hv=>by simp at hv)⟩
 ·rw[hdef]
  have h1: ¬ (n:Int)<0:=by omega
  have h2: ¬ (281474976710656:Int)<(n:Int):=by omega
  simp[run_underlying ht,h1,h2,Question.forced,newRow,Lib.size_digits,grownCap]
 ·rw[Lib.size_digits]
  simpa using grownCap_ge w n 0 e
theorem mnz_run {P:Program} {g:FuncId} {fn:Func} {ps:Array TypeId} {t e:TypeId} (hf:P.funcs[g]? = some fn) (hn:(fn.name== "runtime.NumGoroutine")=false) (hb:fn.body=none)
  (h1:Extern.findNext fn=none) (h2:Extern.find fn=some (Extern.BytealgMakeNoZero.makeNoZero ps #[t])) (ht:P.underlying t=some (.slice e)) (n:Int) (h0:0≤n) (hn2:n≤140737488355328) (w:World) :
  ∃(cap:Nat) (cc:Array Value) (w':World),n.toNat≤cap∧cc.size=cap∧(∀v∈cc,v.oneCell'=true) ∧
  (callFunc g #[.int .i64 n]).run P w= .ok (.value (.slice (some ⟨w.heap.size,0,none⟩) n.toNat cap)) w'∧w'.heap=w.heap.push (.cells cc e)∧w'.os=w.os∧w'.tape=w.tape∧w'.output=w.output:=by
 obtain⟨n,rfl⟩: ∃m:Nat,n=m:=⟨n.toNat,by omega⟩
 obtain⟨cs,k1,k2,k3⟩:=run_mnz (P:=P) w ps t e ht n (by omega)
 refine⟨cs.size,cs,_,by simpa using k2,rfl,k3,jF hf hn hb h1 h2 _ k1,rfl,rfl,rfl,rfl⟩
end Go.Proofs.YtjcbhbncncbdjaaGreatDoorAi
