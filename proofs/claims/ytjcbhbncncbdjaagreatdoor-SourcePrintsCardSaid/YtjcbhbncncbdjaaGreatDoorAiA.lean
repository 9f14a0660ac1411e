/-
AiCore, AiRun, AiRel
-/
import Derived.Orders
import Derived.LoopN
import Derived.Scope
import Derived.Below
import Derived.Laws.AppendOwn
namespace Go.Proofs.YtjcbhbncncbdjaaGreatDoorAi
open Go Go.RowKit
set_option linter.unusedVariables false
def aF {α:Type} (P:Program):Sem α→Option α
 | .pure a=>some a
 | .program k=>aF P (k P)
 | .mark _ k=>aF P k
 | _=>none
def flat:Value→Bool
 | .bool _ | .int _ _ | .float _ _ | .complex _ _ _ | .string _ | .pointer none | .slice none _ _ | .map none | .chan none | .nilFunc | .nilIface=>true
 | _=>false
def plain:Value→Bool
 | .agg cs=>cs.toList.all flat
 | .tuple cs=>cs.toList.all flat
 | .func _ a b=>a.isEmpty&&b.isEmpty
 | .iface _ v=>flat v||(match v with | .agg cs=>cs.toList.all flat | _=>false)
 | v=>flat v
noncomputable def asB:Value→Option Bool:=Value.rec (motive_1:=fun _=>Option Bool) (motive_2:=fun _=>Unit) (motive_3:=fun _=>Unit) (fun b=>some b) (fun _ _=>none) (fun _ _=>none) (fun _ _ _=>none) (fun _=>none) (fun _=>none) (fun _ _ _=>none) (fun _=>none) (fun _=>none) (fun _ _ _ _ _=>none) (none) (fun _ _ _=>none) (none) (fun _ _=>none) (fun _ _=>none) (fun _ _=>()) () (fun _ _ _ _=>())
noncomputable def asI:Value→Option (IntKind×Int):=Value.rec (motive_1:=fun _=>Option (IntKind×Int)) (motive_2:=fun _=>Unit) (motive_3:=fun _=>Unit) (fun _=>none) (fun k n=>some (k,n)) (fun _ _=>none) (fun _ _ _=>none) (fun _=>none) (fun _=>none) (fun _ _ _=>none) (fun _=>none) (fun _=>none) (fun _ _ _ _ _=>none) (none) (fun _ _ _=>none) (none) (fun _ _=>none) (fun _ _=>none) (fun _ _=>()) () (fun _ _ _ _=>())
noncomputable def asS:Value→Option ByteArray:=Value.rec (motive_1:=fun _=>Option ByteArray) (motive_2:=fun _=>Unit) (motive_3:=fun _=>Unit) (fun _=>none) (fun _ _=>none) (fun _ _=>none) (fun _ _ _=>none) (fun s=>some s) (fun _=>none) (fun _ _ _=>none) (fun _=>none) (fun _=>none) (fun _ _ _ _ _=>none) (none) (fun _ _ _=>none) (none) (fun _ _=>none) (fun _ _=>none) (fun _ _=>()) () (fun _ _ _ _=>())
noncomputable def asP:Value→Option (Option Addr):=Value.rec (motive_1:=fun _=>Option (Option Addr)) (motive_2:=fun _=>Unit) (motive_3:=fun _=>Unit) (fun _=>none) (fun _ _=>none) (fun _ _=>none) (fun _ _ _=>none) (fun _=>none) (fun a=>some a) (fun _ _ _=>none) (fun _=>none) (fun _=>none) (fun _ _ _ _ _=>none) (none) (fun _ _ _=>none) (none) (fun _ _=>none) (fun _ _=>none) (fun _ _=>()) () (fun _ _ _ _=>())
noncomputable def ci:Value→Option (Option Addr×Nat×Nat):=Value.rec (motive_1:=fun _=>Option (Option Addr×Nat×Nat)) (motive_2:=fun _=>Unit) (motive_3:=fun _=>Unit) (fun _=>none) (fun _ _=>none) (fun _ _=>none) (fun _ _ _=>none) (fun _=>none) (fun _=>none) (fun a n c=>some (a,n,c)) (fun _=>none) (fun _=>none) (fun _ _ _ _ _=>none) (none) (fun _ _ _=>none) (none) (fun _ _=>none) (fun _ _=>none) (fun _ _=>()) () (fun _ _ _ _=>())
noncomputable def asT:Value→Option (Array Value):=Value.rec (motive_1:=fun _=>Option (Array Value)) (motive_2:=fun _=>Unit) (motive_3:=fun _=>Unit) (fun _=>none) (fun _ _=>none) (fun _ _=>none) (fun _ _ _=>none) (fun _=>none) (fun _=>none) (fun _ _ _=>none) (fun _=>none) (fun _=>none) (fun _ _ _ _ _=>none) (none) (fun _ _ _=>none) (none) (fun _ _=>none) (fun cs _=>some cs) (fun _ _=>()) () (fun _ _ _ _=>())
noncomputable def asA:Value→Option (Array Value):=Value.rec (motive_1:=fun _=>Option (Array Value)) (motive_2:=fun _=>Unit) (motive_3:=fun _=>Unit) (fun _=>none) (fun _ _=>none) (fun _ _=>none) (fun _ _ _=>none) (fun _=>none) (fun _=>none) (fun _ _ _=>none) (fun _=>none) (fun _=>none) (fun _ _ _ _ _=>none) (none) (fun _ _ _=>none) (none) (fun cs _=>some cs) (fun _ _=>none) (fun _ _=>()) () (fun _ _ _ _=>())
noncomputable def asF:Value→Option (Fn×Array Value×Array Value):=Value.rec (motive_1:=fun _=>Option (Fn×Array Value×Array Value)) (motive_2:=fun _=>Unit) (motive_3:=fun _=>Unit) (fun _=>none) (fun _ _=>none) (fun _ _=>none) (fun _ _ _=>none) (fun _=>none) (fun _=>none) (fun _ _ _=>none) (fun _=>none) (fun _=>none) (fun f x y _ _=>some (f,x,y)) (none) (fun _ _ _=>none) (none) (fun _ _=>none) (fun _ _=>none) (fun _ _=>()) () (fun _ _ _ _=>())
theorem i9 {v:Value} {b:Bool} (h:asB v=some b):v= .bool b:=by cases v<;>first | (cases h; rfl) | cases h
theorem cB {v:Value} {k:IntKind} {n:Int} (h:asI v=some (k,n)):v= .int k n:=by cases v<;>first | (cases h; rfl) | cases h
theorem ee {v:Value} {s:ByteArray} (h:asS v=some s):v= .string s:=by cases v<;>first | (cases h; rfl) | cases h
theorem bb {v:Value} {a:Option Addr} (h:asP v=some a):v= .pointer a:=by cases v<;>first | (cases h; rfl) | cases h
theorem bx {v:Value} {a:Option Addr} {n c:Nat} (h:ci v=some (a,n,c)):v= .slice a n c:=by cases v<;>first | (cases h; rfl) | cases h
theorem nE {v:Value} {a:Array Value} (h:asT v=some a):v= .tuple a:=by cases v<;>first | (cases h; rfl) | cases h
theorem asA_of {v:Value} {a:Array Value} (h:asA v=some a):v= .agg a:=by cases v<;>first | (cases h; rfl) | cases h
theorem nF {v:Value} {f:Fn} {a b:Array Value} (h:asF v=some (f,a,b)):v= .func f a b:=by cases v<;>first | (cases h; rfl) | cases h
inductive Blk where
 | row (cells:List Value) (elem:TypeId) (esz:Nat) (own:Bool)
 | iter (s:ByteArray) (pos:Nat)
inductive Tr (α:Type) where
 | e
 | n (a b c d:Tr α) (v:Option α)
inductive Way where
 | h
 | a (w:Way)
 | b (w:Way)
 | c (w:Way)
 | d (w:Way)
def d8:Nat→Nat→Way
 | 0,_=> .h
 | f+1,k=>bif Nat.beq k 0 then .h else
   bif Nat.beq (Nat.mod (Nat.sub k 1) 4) 0 then .a (d8 f (Nat.div (Nat.sub k 1) 4)) else
   bif Nat.beq (Nat.mod (Nat.sub k 1) 4) 1 then .b (d8 f (Nat.div (Nat.sub k 1) 4)) else
   bif Nat.beq (Nat.mod (Nat.sub k 1) 4) 2 then .c (d8 f (Nat.div (Nat.sub k 1) 4)) else .d (d8 f (Nat.div (Nat.sub k 1) 4))
def bits (k:Nat):Way:=d8 k k
section
variable {α:Type}
abbrev GF (α:Type):=Tr α→Option α
noncomputable def Tr.gH:GF α:=Tr.rec none (fun _ _ _ _ v _ _ _ _=>v)
noncomputable def Tr.gA (_:Way) (ih:GF α):GF α:=Tr.rec none (fun a _ _ _ _ _ _ _ _=>ih a)
noncomputable def Tr.gB (_:Way) (ih:GF α):GF α:=Tr.rec none (fun _ b _ _ _ _ _ _ _=>ih b)
noncomputable def Tr.gC (_:Way) (ih:GF α):GF α:=Tr.rec none (fun _ _ c _ _ _ _ _ _=>ih c)
noncomputable def Tr.gD (_:Way) (ih:GF α):GF α:=Tr.rec none (fun _ _ _ d _ _ _ _ _=>ih d)
noncomputable def Tr.getP (p:Way):GF α:=Way.rec Tr.gH Tr.gA Tr.gB Tr.gC Tr.gD p
abbrev SF (α:Type):=Option α→Tr α→Tr α
noncomputable def Tr.sH (x:Option α):Tr α→Tr α:=Tr.rec (.n .e .e .e .e x) (fun a b c d _ _ _ _ _=> .n a b c d x)
noncomputable def Tr.sA (_:Way) (ih:SF α) (x:Option α):Tr α→Tr α:=Tr.rec (.n (ih x .e) .e .e .e none) (fun a b c d v _ _ _ _=> .n (ih x a) b c d v)
noncomputable def Tr.sB (_:Way) (ih:SF α) (x:Option α):Tr α→Tr α:=Tr.rec (.n .e (ih x .e) .e .e none) (fun a b c d v _ _ _ _=> .n a (ih x b) c d v)
noncomputable def Tr.sC (_:Way) (ih:SF α) (x:Option α):Tr α→Tr α:=Tr.rec (.n .e .e (ih x .e) .e none) (fun a b c d v _ _ _ _=> .n a b (ih x c) d v)
noncomputable def Tr.sD (_:Way) (ih:SF α) (x:Option α):Tr α→Tr α:=Tr.rec (.n .e .e .e (ih x .e) none) (fun a b c d v _ _ _ _=> .n a b c (ih x d) v)
noncomputable def Tr.setP (p:Way):SF α:=Way.rec Tr.sH Tr.sA Tr.sB Tr.sC Tr.sD p
noncomputable def Tr.get (t:Tr α) (k:Nat):Option α:=Tr.getP (bits k) t
noncomputable def Tr.set (t:Tr α) (k:Nat) (b:Option α):Tr α:=Tr.setP (bits k) b t
theorem nbF {a b:Nat} (h:a≠b):Nat.beq a b=false:=by
 cases e:Nat.beq a b
 ·rfl
 ·exact absurd (Nat.eq_of_beq_eq_true e) h
theorem nbT {a b:Nat} (h:Nat.beq a b=true):a=b:=Nat.eq_of_beq_eq_true h
theorem nbN {a b:Nat} (h:Nat.beq a b=false):a≠b:=Nat.ne_of_beq_eq_false h
def Way.num:Way→Nat
 | .h=>0
 | .a w=>4*w.num+1
 | .b w=>4*w.num+2
 | .c w=>4*w.num+3
 | .d w=>4*w.num+4
theorem iB: ∀(f k:Nat),k≤f→(d8 f k).num=k:=by
 intro f
 induction f with
 | zero=>intro k h; simp[d8,Way.num]; omega
 | succ f ih =>
  intro k h
  by_cases h0:k=0
  ·subst h0; simp[d8,Way.num]
  ·have hd:=ih ((k-1)/4) (by omega)
   have hd':(d8 f (Nat.div (Nat.sub k 1) 4)).num=(k-1)/4:=hd
   simp only[d8,nbF h0,cond_false]
   cases e0:Nat.beq (Nat.mod (Nat.sub k 1) 4) 0
   ·cases e1:Nat.beq (Nat.mod (Nat.sub k 1) 4) 1
    ·cases e2:Nat.beq (Nat.mod (Nat.sub k 1) 4) 2
     ·simp only[cond_false,Way.num,hd']
      have n0:(k-1) % 4≠0:=nbN e0
      have n1:(k-1) % 4≠1:=nbN e1
      have n2:(k-1) % 4≠2:=nbN e2
      omega
     ·simp only[cond_false,cond_true,Way.num,hd']
      have n2:(k-1) % 4=2:=nbT e2
      omega
    ·simp only[cond_false,cond_true,Way.num,hd']
     have n1:(k-1) % 4=1:=nbT e1
     omega
   ·simp only[cond_true,Way.num,hd']
    have n0:(k-1) % 4=0:=nbT e0
    omega
theorem nG {j k:Nat} (h:bits j=bits k):j=k:=by
 have:=congrArg Way.num h
 rwa [show(bits j).num=j from iB j j (Nat.le_refl _),show(bits k).num=k from iB k k (Nat.le_refl _)] at this
theorem Tr.getP_e (p:Way):Tr.getP p (Tr.e:Tr α)=none:=by cases p<;>rfl
theorem Tr.getP_setP_same (b:Option α): ∀(p:Way) (t:Tr α),Tr.getP p (Tr.setP p b t)=b:=by
 intro p
 induction p with
 | h=>intro t; cases t<;>rfl
 | _ w ih=>intro t; cases t<;>exact ih _
theorem Tr.getP_setP_ne (b:Option α): ∀(p q:Way) (t:Tr α),q≠p→Tr.getP q (Tr.setP p b t)=Tr.getP q t:=by
 intro p
 induction p with
 | h=>intro q t h; cases q<;>cases t<;>first | rfl | exact absurd rfl h | exact Tr.getP_e _
 | a w ih=>intro q t h; cases q<;>cases t<;>first | rfl | exact ih _ _ (fun e=>h (by rw[e])) | exact(ih _ _ (fun e=>h (by rw[e]))).trans (Tr.getP_e _) | exact Tr.getP_e _
 | b w ih=>intro q t h; cases q<;>cases t<;>first | rfl | exact ih _ _ (fun e=>h (by rw[e])) | exact(ih _ _ (fun e=>h (by rw[e]))).trans (Tr.getP_e _) | exact Tr.getP_e _
 | c w ih=>intro q t h; cases q<;>cases t<;>first | rfl | exact ih _ _ (fun e=>h (by rw[e])) | exact(ih _ _ (fun e=>h (by rw[e]))).trans (Tr.getP_e _) | exact Tr.getP_e _
 | d w ih=>intro q t h; cases q<;>cases t<;>first | rfl | exact ih _ _ (fun e=>h (by rw[e])) | exact(ih _ _ (fun e=>h (by rw[e]))).trans (Tr.getP_e _) | exact Tr.getP_e _
theorem Tr.get_e (k:Nat):(Tr.e:Tr α).get k=none:=Tr.getP_e _
@[simp] theorem Tr.get_set_same (t:Tr α) (k:Nat) (b:Option α):(t.set k b).get k=b:=Tr.getP_setP_same _ _ _
theorem Tr.get_set_ne (t:Tr α) (k j:Nat) (b:Option α) (h:j≠k):(t.set k b).get j=t.get j:=Tr.getP_setP_ne _ _ _ _ fun e=>h (nG e)
theorem Tr.get_set (t:Tr α) (k j:Nat) (b:Option α):(t.set k b).get j=if j=k then b else t.get j:=by
 split
 ·rename_i h; subst h; simp
 ·rename_i h; exact Tr.get_set_ne _ _ _ _ h
noncomputable def nth (l:List α):Nat→Option α:=List.rec (fun _=>none) (fun a _ ih k=>Nat.rec (some a) (fun k' _=>ih k') k) l
theorem aO (l:List α): ∀k,nth l k=l[k]? := by
 induction l with
 | nil=>intro k; rfl
 | cons a l ih =>
  intro k
  cases k with
  | zero=>rfl
  | succ k=>exact(ih k).trans (by simp)
end
abbrev T:=Tr Blk
abbrev Fr:=Tr Value
noncomputable def getV (o:Option Value):Value:=Option.rec undef (fun v=>v) o
noncomputable def Fr.get (fr:Fr) (t:Nat):Value:=getV (Tr.get fr t)
noncomputable def Fr.set (fr:Fr) (t:Nat) (v:Value):Fr:=Tr.set fr t (some v)
noncomputable def opvT (t:Tmp):Nat→Fr→Value:=fun _ fr=>Fr.get fr t
noncomputable def opvC (v:Value):Nat→Fr→Value:=fun _ _=>bif plain v then v else .map (some 0)
noncomputable def opvG (g:Nat):Nat→Fr→Value:=fun NG _=>bif Nat.blt g NG then .pointer (some ⟨g,0,none⟩) else .chan (some 0)
noncomputable def opvF (f:FuncId):Nat→Fr→Value:=fun _ _=> .func (.func f) #[] #[]
noncomputable def opv (NG:Nat) (fr:Fr) (x:Operand):Value:=Operand.rec (motive:=fun _=>Nat→Fr→Value) opvT opvC opvG opvF x NG fr
noncomputable def blkOf:Option Addr→Option Nat:=Option.rec none (fun a=>some a.block)
noncomputable def bh:Value→Option Nat:=Value.rec (motive_1:=fun _=>Option Nat) (motive_2:=fun _=>Unit) (motive_3:=fun _=>Unit) (fun _=>none) (fun _ _=>none) (fun _ _=>none) (fun _ _ _=>none) (fun _=>none) (fun a=>blkOf a) (fun a _ _=>blkOf a) (fun _=>none) (fun _=>none) (fun _ _ _ _ _=>none) (none) (fun _ _ _=>none) (none) (fun _ _=>none) (fun _ _=>none) (fun _ _=>()) () (fun _ _ _ _=>())
noncomputable def tgtC (args:Array Operand) (ρ:Operand→Value):Callee→Option Nat
 | .builtin .unsafeString=>(args[0]?).bind fun x=>bh (ρ x)
 | _=>Option.none
noncomputable def tgtA (a:Operand):(Operand→Value)→Option Nat:=fun ρ=>bh (ρ a)
noncomputable def tgtCall (c:Call):(Operand→Value)→Option Nat:=fun ρ=>tgtC c.args ρ c.callee
noncomputable def aJ:(Operand→Value)→Option Nat:=fun _=>Option.none
noncomputable def aq (o:Op):(Operand→Value)→Option Nat:=Op.rec (motive:=fun _=>(Operand→Value)→Option Nat) (fun _=>aJ) (fun _=>aJ) (fun _ _ _=>aJ) (fun _=>aJ) (fun _ _=>aJ) (fun _ _=>aJ) (fun _ _ _=>aJ) (fun _ _ _ _=>aJ) (fun _ a=>tgtA a) (fun _ a _=>tgtA a) (fun _=>aJ) (fun _=>aJ) (fun _=>aJ) (fun _ _ _ _ _=>aJ) (fun _ _ _=>aJ) (fun _ _ x=>tgtA x) (fun _ _=>aJ) (fun _ _=>aJ) (fun _ _ _=>aJ) (fun _ _=>aJ) (fun _ _=>aJ) (fun _ _ _=>aJ) (fun _ _ _ _ _=>aJ) (fun _ _ _=>aJ) (fun _ _ _=>aJ) (fun _ _ _=>aJ) (fun _ _ _=>aJ) (fun _ _ _ _=>aJ) (fun _ _ _ _=>aJ) (fun _ _ _=>aJ) (fun _ _ _ _=>aJ) (fun _ _=>aJ) (fun i _=>tgtA i) (fun _=>aJ) (fun _ _ _ _=>aJ) (fun _ _=>aJ) (fun c=>tgtCall c) (fun _=>aJ) (fun _=>aJ) (fun _=>aJ) (fun _ _=>aJ) (fun _ _ _=>aJ) (fun _ _=>aJ) o
noncomputable def tgt (ρ:Operand→Value) (o:Op):Option Nat:=aq o ρ
inductive Eff where
 | none
 | upd (b:Blk)
 | new (b:Blk)
noncomputable def aU (P:Program) (t:TypeId):Option Nat:=(P.info? t).map (·.size)
noncomputable def df:TypeDesc→Bool
 | .struct _ | .array _ _=>true
 | _=>false
noncomputable def aR (cs:List Value) (o n:Nat):Option (List Value):=bif Nat.ble (o+n) cs.length then some ((cs.drop o).take n) else none
noncomputable def dD (P:Program) (t:TypeId) (a:Addr):Blk→Option Value
 | .row cs _ _ _ =>
  match a.spot,P.underlying t with
  | Option.none,some d=>bif df d then(aU P t).bind fun n=>(aR cs a.off n).map fun l=> .agg l.toArray else nth cs a.off
  | _,_=>Option.none
 | _=>Option.none
noncomputable def setCells:List Value→Nat→List Value→List Value
 | cs,_,[]=>cs
 | cs,o,v::vs=>setCells (cs.set o v) (o+1) vs
noncomputable def one:Value→Bool
 | .agg _ | .tuple _ | .map (some _)=>false
 | _=>true
noncomputable def ef (P:Program) (t:TypeId) (a:Addr) (v:Value):Blk→Option Blk
 | .row cs e z own =>
  match a.spot,aU P t with
  | Option.none,some n=>bif own&&Nat.beq v.cells.size n&&Nat.ble (a.off+n) cs.length&&v.cells.toList.all one then some (.row (setCells cs a.off v.cells.toList) e z own) else Option.none
  | _,_=>Option.none
 | _=>Option.none
noncomputable def aS (P:Program) (t:TypeId):Option (List Value) :=
 match P.info? t with
 | some i=>(match i.zero with | some z=>bif z.cells.toList.all flat then some z.cells.toList else Option.none | _=>Option.none)
 | _=>Option.none
noncomputable def dg (place:Nat→Option (Nat×Nat)) (cells:List Value):List (Nat×Value)→Option (List Value)
 | []=>some cells
 | (i,v)::rest =>
  match place i with
  | some (off,size)=>bif Nat.beq v.cells.size size&&Nat.ble (off+v.cells.size) cells.length&&v.cells.toList.all one then dg place (setCells cells off v.cells.toList) rest else Option.none
  | _=>Option.none
noncomputable def cC (P:Program):List Field→Option (List (Nat×Nat))
 | []=>some []
 | f::fs=>(match aU P f.type,cC P fs with | some n,some l=>some ((f.offset,n)::l) | _,_=>Option.none)
noncomputable def iD:Option (List Value)→Option Value
 | some l=>some (.agg l.toArray)
 | Option.none=>Option.none
noncomputable def bldS (z:List Value) (parts:List (Nat×Value)):Option (List (Nat×Nat))→Option Value
 | some pl=>iD (dg (nth pl) z parts)
 | Option.none=>Option.none
noncomputable def bldA (z:List Value) (parts:List (Nat×Value)):Option Nat→Option Value
 | some n=>iD (dg (fun i=>some (i*n,n)) z parts)
 | Option.none=>Option.none
noncomputable def bldU (P:Program) (z:List Value) (parts:List (Nat×Value)):Option TypeDesc→Option Value
 | some (.struct fs)=>bldS z parts (cC P fs.toList)
 | some (.array _ e)=>bldA z parts (aU P e)
 | _=>Option.none
noncomputable def f6 (P:Program) (t:TypeId) (parts:List (Nat×Value)):Option Value :=
 match aS P t with
 | some z=>bldU P z parts (P.underlying t)
 | Option.none=>Option.none
noncomputable def iq (z:List Value):Nat→List Value
 | 0=>[]
 | n+1=>z++iq z n
noncomputable def bp (P:Program) (nx:Nat) (t:TypeId) (len:Nat) (parts:List (Nat×Value)):Option (Value×Eff) :=
 match P.underlying t with
 | some (.slice e) =>
  match aU P e,aS P e with
  | some n,some z=>bif Nat.ble 1 n&&Nat.beq z.length n&&Nat.ble (len*n) 16777216 then
    (dg (fun i=>some (i*n,n)) (iq z len) parts).map fun l=>(.slice (some ⟨nx,0,Option.none⟩) len n,.new (.row l e n true)) else Option.none
  | _,_=>Option.none
 | _=>Option.none
noncomputable def dE (P:Program) (nx:Nat) (t:TypeId) (l c:Int):Option (Value×Eff) :=
 match P.underlying t with
 | some (.slice e) =>
  match P.info? e,aS P e with
  | some i,some z=>if 0≤l∧l≤c∧c*i.bytes≤281474976710656∧c≤9223372036854775807∧1≤i.size∧z.length=i.size then
    some (.slice (some ⟨nx,0,Option.none⟩) l.toNat i.size,.new (.row (iq z l.toNat) e i.size true)) else Option.none
  | _,_=>Option.none
 | _=>Option.none
noncomputable def cD (P:Program) (nx:Nat) (t:TypeId) (l c:Value):Option (Value×Eff) :=
 match asI l,asI c with
 | some (.i64,l),some (.i64,c)=>dE P nx t l c
 | _,_=>Option.none
noncomputable def fieldAt (P:Program) (s:TypeId) (f:Nat):Option (Nat×Nat×TypeId) :=
 match P.underlying s with
 | some (.struct fs)=>(match fs[f]? with | some d=>(match aU P d.type with | some n=>some (d.offset,n,d.type) | Option.none=>Option.none) | Option.none=>Option.none)
 | _=>Option.none
noncomputable def faP (a:Addr):Option (Nat×Nat×TypeId)→Option Value
 | some (off,n,_)=>bif Nat.beq n 0 then Option.none else(match a.spot with | Option.none=>some (.pointer (some ⟨a.block,a.off+off,Option.none⟩)) | _=>Option.none)
 | Option.none=>Option.none
noncomputable def f7 (P:Program) (s:TypeId) (f:Nat) (v:Value):Option Value :=
 match asP v with
 | some (some a)=>faP a (fieldAt P s f)
 | _=>Option.none
noncomputable def dB (P:Program) (t:TypeId):Option Nat :=
 match P.underlying t with | some (.slice e)=>aU P e | _=>Option.none
noncomputable def iE (P:Program) (t:TypeId):Option (Nat×Nat) :=
 match P.underlying t with | some (.array len e)=>(match aU P e with | some n=>some (len,n) | Option.none=>Option.none) | _=>Option.none
noncomputable def mG (a:Addr) (i:Int) (len n:Nat):Option Value :=
 if 0≤i∧i<(len:Int) then some (.pointer (some ⟨a.block,a.off+i.toNat*n,Option.none⟩)) else Option.none
noncomputable def iaS (i:Int):Option (Option Addr×Nat×Nat)→Option Nat→Option Value
 | some (some a,len,_),some n=>mG a i len n
 | _,_=>Option.none
noncomputable def iaA (i:Int):Option (Option Addr)→Option (Nat×Nat)→Option Value
 | some (some a),some (len,n)=>(match a.spot with | Option.none=>mG a i len n | _=>Option.none)
 | _,_=>Option.none
noncomputable def iaI (P:Program) (t:TypeId) (x:Value) (i:Int):Option Value :=
 match dB P t with
 | some n=>iaS i (ci x) (some n)
 | Option.none=>iaA i (asP x) (iE P t)
noncomputable def f9 (P:Program) (t:TypeId) (x v:Value):Option Value :=
 match asI v with
 | some (_,i)=>iaI P t x i
 | Option.none=>Option.none
noncomputable def bF (v:Option Value) (d:Nat):Option Int :=
 match v with
 | Option.none=>some (Int.ofNat d)
 | some v=>(match asI v with | some (_,i)=>some i | Option.none=>Option.none)
noncomputable def bq (P:Program) (t:TypeId):Bool:=match P.underlying t with | some .string=>true | _=>false
noncomputable def slB (l h:Int) (s:ByteArray):Option Value:=if 0≤l∧l≤h∧h≤(s.size:Int) then some (.string (s.extract l.toNat h.toNat)) else Option.none
noncomputable def jW (s:ByteArray):Option Int→Option Int→Option Value
 | some l,some h=>slB l h s
 | _,_=>Option.none
noncomputable def slA (l h:Int) (len n c:Nat):Option Addr→Option Value
 | some b=>if 0≤l∧l≤h∧h≤(len:Int)∧(c=0∨c=n) then some (.slice (some ⟨b.block,b.off+l.toNat*n,Option.none⟩) (h-l).toNat c) else Option.none
 | Option.none=>if l=0∧h=0∧len=0∧c=0 then some (.slice Option.none 0 0) else Option.none
noncomputable def jX (a:Option Addr) (len c:Nat):Option Int→Option Int→Option Nat→Option Value
 | some l,some h,some n=>slA l h len n c a
 | _,_,_=>Option.none
noncomputable def lR (b:Addr) (hi:Option Value):Option Int→Option (Nat×Nat)→Option Value
 | some l,some (len,n) =>
  (match bF hi len,b.spot with
   | some h,Option.none=>if 0≤l∧l≤h∧h≤(len:Int) then some (.slice (some ⟨b.block,b.off+l.toNat*n,Option.none⟩) (h-l).toNat 0) else Option.none
   | _,_=>Option.none)
 | _,_=>Option.none
noncomputable def kQ (P:Program) (t:TypeId) (x:Value) (lo hi:Option Value):Option Value :=
 match asS x,ci x,asP x with
 | some s,_,_=>bif bq P t then jW s (bF lo 0) (bF hi s.size) else Option.none
 | _,some (a,len,c),_=>jX a len c (bF lo 0) (bF hi len) (dB P t)
 | _,_,some (some b)=>lR b hi (bF lo 0) (iE P t)
 | _,_,_=>Option.none
noncomputable def fdA (P:Program) (cs:List Value):Option (Nat×Nat×TypeId)→Option Value
 | some (off,n,ty) =>
  (match P.underlying ty with
   | some u=>bif df u then(match aR cs off n with | some l=>some (.agg l.toArray) | Option.none=>Option.none) else nth cs off
   | _=>Option.none)
 | Option.none=>Option.none
noncomputable def kR (P:Program) (t:TypeId) (f:Nat) (v:Value):Option Value :=
 match asA v with
 | some cs=>fdA P cs.toList (fieldAt P t f)
 | Option.none=>Option.none
noncomputable def lS (v:Value):Option UInt8:=match asI v with | some (.u8,n)=>some (UInt8.ofNat n.toNat) | _=>Option.none
noncomputable def bf : List Value→Option (List UInt8)
 | []=>some []
 | v::r=>(match lS v,bf r with | some b,some l=>some (b::l) | _,_=>Option.none)
noncomputable def bH (s:ByteArray):List Value:=s.data.toList.map fun b=> .int .u8 b.toNat
abbrev VE:=Option (Value×Eff)
noncomputable def cvI (P:Program) (src dst:TypeId) (n:Int):VE :=
 match P.underlying src,P.underlying dst with | some (.int _),some (.int k)=>some (.int k (k.wrap n),.none) | _,_=>Option.none
noncomputable def cV (P:Program) (e:TypeId):Bool:=(match P.underlying e with | some (.int .u8)=>true | _=>false)&&(match aU P e with | some n=>Nat.beq n 1 | Option.none=>false)
noncomputable def cvS (P:Program) (nx:Nat) (src dst:TypeId) (s:ByteArray):VE :=
 match P.underlying src,P.underlying dst with
 | some .string,some .string=>some (.string s,.none)
 | some .string,some (.slice e)=>bif cV P e then some (.slice (some ⟨nx,0,Option.none⟩) s.size 1,.new (.row (bH s) e 1 true)) else Option.none
 | _,_=>Option.none
noncomputable def nH:Option (List Value)→VE
 | some cs=>(match bf cs with | some l=>some (.string ⟨l.toArray⟩,.none) | Option.none=>Option.none)
 | Option.none=>Option.none
noncomputable def cvSl (P:Program) (src dst:TypeId) (a:Option Addr) (n:Nat) (b:Option Blk):VE :=
 match P.underlying src,P.underlying dst with
 | some (.slice e),some .string =>
  bif cV P e then
   (match a,b with
    | Option.none,_=>some (.string .empty,.none)
    | some a,some (.row cs _ _ _)=>nH (aR cs a.off n)
    | _,_=>Option.none) else Option.none
 | _,_=>Option.none
noncomputable def cvP (P:Program) (src dst:TypeId) (x:Value) (a:Option Addr) (b:Option Blk):VE :=
 match P.underlying src,P.underlying dst,a,b with
 | some (.pointer _),some .unsafePointer,Option.none,_ | some .unsafePointer,some (.pointer _),Option.none,_=>some (.pointer Option.none,.none)
 | some (.pointer t),some .unsafePointer,some ad,some (.row cs _ _ true) =>
  (match ad.spot,aU P t with
   | Option.none,some n=>bif Nat.ble 1 n&&Nat.blt ad.off cs.length then some (x,.none) else Option.none
   | _,_=>Option.none)
 | some .unsafePointer,some (.pointer u),some ad,some (.row cs e z true) =>
  bif ad.spot.isNone&&Nat.beq z 0&&(aU P u).isSome&&liesAt P P.depth e (cs.length/P.cellsOf e) ad.off u 1 then some (x,.none) else Option.none
 | _,_,_,_=>Option.none
noncomputable def cx (P:Program) (nx:Nat) (src dst:TypeId) (x:Value) (b:Option Blk):VE :=
 match asI x,asS x,ci x,asP x with
 | some (_,n),_,_,_=>cvI P src dst n
 | _,some s,_,_=>cvS P nx src dst s
 | _,_,some (a,n,_),_=>cvSl P src dst a n b
 | _,_,_,some a=>cvP P src dst x a b
 | _,_,_,_=>Option.none
noncomputable def aK (o:Option Value):Option Value:=o.bind fun v=>bif plain v then some v else Option.none
noncomputable def cvG (P:Program) (src dst:TypeId) (x:Value):VE :=
 match (bif plain x then aK (aF P (convert src dst x)) else Option.none) with | some v=>some (v,.none) | Option.none=>Option.none
noncomputable def aZ (P:Program) (nx:Nat) (src dst:TypeId) (x:Value) (b:Option Blk):VE :=
 match cx P nx src dst x b with | some r=>some r | Option.none=>cvG P src dst x
noncomputable def kdN (k:IntKind):Nat:=IntKind.rec 0 1 2 3 4 5 6 7 k
theorem kdN_inj {a b:IntKind} (h:kdN a=kdN b):a=b:=by cases a<;>cases b<;>first | rfl | (simp[kdN] at h)
abbrev ja:=IntKind→Int→IntKind→Int→Option Value
noncomputable def ga (f:Int→Int→Int):ja:=fun k a k' b=>bif Nat.beq (kdN k) (kdN k') then some (.int k (k.wrap (f a b))) else Option.none
noncomputable def jY (f:Int→Int→Bool):ja:=fun k a k' b=>bif Nat.beq (kdN k) (kdN k') then some (.bool (f a b)) else Option.none
noncomputable def iF (f:(k:IntKind)→BitVec k.bits→BitVec k.bits→BitVec k.bits):ja:=fun k a k' b =>
 bif Nat.beq (kdN k) (kdN k') then some (.int k (k.wrap (f k (BitVec.ofInt k.bits a) (BitVec.ofInt k.bits b)).toNat)) else Option.none
noncomputable def iQuo:ja:=fun k a k' b=>if b=0 then Option.none else bif Nat.beq (kdN k) (kdN k') then some (.int k (k.wrap (a.tdiv b))) else Option.none
noncomputable def iRem:ja:=fun k a k' b=>if b=0 then Option.none else bif Nat.beq (kdN k) (kdN k') then some (.int k (a.tmod b)) else Option.none
noncomputable def iShl:ja:=fun k a _ b=>if b<0 then Option.none else some (.int k (k.wrap (a*2 ^ min b.toNat k.bits)))
noncomputable def iShr:ja:=fun k a _ b=>if b<0 then Option.none else some (.int k (a.fdiv (2 ^ min b.toNat k.bits)))
noncomputable def jZ (op:BinOp):ja:=BinOp.rec (motive:=fun _=>ja) (ga (fun a b=>Int.add a b)) (ga (fun a b=>Int.sub a b)) (ga (fun a b=>Int.mul a b)) iQuo iRem
 (iF (fun _ a b=>a &&& b)) (iF (fun _ a b=>a ||| b)) (iF (fun _ a b=>a ^^^ b)) iShl iShr (iF (fun _ a b=>a &&& ~~~b))
 (jY (fun a b=>a==b)) (jY (fun a b=>a != b)) (jY (fun a b=>decide (a<b))) (jY (fun a b=>decide (a≤b))) (jY (fun a b=>decide (b<a))) (jY (fun a b=>decide (b≤a))) op
noncomputable def eqB:List UInt8→List UInt8→Bool
 | [],[]=>true
 | a::x,b::y=>bif Nat.beq a.toNat b.toNat then eqB x y else false
 | _,_=>false
abbrev mH:=ByteArray→ByteArray→Option Value
noncomputable def sAdd:mH:=fun x y=>if x.size+y.size≤9223372036854775807 then some (.string (x++y)) else Option.none
noncomputable def sEq:mH:=fun x y=>some (.bool (eqB x.data.toList y.data.toList))
noncomputable def sNe:mH:=fun x y=>some (.bool (!eqB x.data.toList y.data.toList))
noncomputable def sNo:mH:=fun _ _=>Option.none
noncomputable def dr (op:BinOp):mH:=BinOp.rec (motive:=fun _=>mH) sAdd sNo sNo sNo sNo sNo sNo sNo sNo sNo sNo sEq sNe
 (fun x y=>some (.bool (Op.bytesLess x.toList y.toList))) (fun x y=>some (.bool (Op.bytesLess x.toList y.toList||x.toList==y.toList)))
 (fun x y=>some (.bool (!(Op.bytesLess x.toList y.toList||x.toList==y.toList)))) (fun x y=>some (.bool (!Op.bytesLess x.toList y.toList))) op
noncomputable def eg:Value→Option Bool:=Value.rec (motive_1:=fun _=>Option Bool) (motive_2:=fun _=>Unit) (motive_3:=fun _=>Unit) (fun _=>none) (fun _ _=>none) (fun _ _=>none) (fun _ _ _=>none) (fun _=>none) (fun _=>none) (fun _ _ _=>none) (fun _=>none) (fun _=>none) (fun _ _ _ _ _=>some false) (some true) (fun _ _ _=>none) (none) (fun _ _=>none) (fun _ _=>none) (fun _ _=>()) () (fun _ _ _ _=>())
noncomputable def eh:Value→Option Bool:=Value.rec (motive_1:=fun _=>Option Bool) (motive_2:=fun _=>Unit) (motive_3:=fun _=>Unit) (fun _=>none) (fun _ _=>none) (fun _ _=>none) (fun _ _ _=>none) (fun _=>none) (fun _=>none) (fun _ _ _=>none) (fun _=>none) (fun _=>none) (fun _ _ _ _ _=>none) (none) (fun _ _ _=>some false) (some true) (fun _ _=>none) (fun _ _=>none) (fun _ _=>()) () (fun _ _ _ _=>())
noncomputable def eqP (P:Program) (e:TypeId):Option (Option Addr)→Option (Option Addr)→Option Bool
 | some Option.none,some b=>some b.isNone
 | some (some _),some Option.none=>some false
 | some (some a),some (some b) =>
  (match aU P e with
   | some n=>bif Nat.beq n 0 then Option.none else bif Nat.beq a.block b.block&&a.spot.isNone&&b.spot.isNone then some (a.off==b.off) else Option.none
   | _=>Option.none)
 | _,_=>Option.none
noncomputable def fk:Option (Option Addr×Nat×Nat)→Option (Option Addr×Nat×Nat)→Option Bool
 | some (Option.none,_,_),some (b,_,_)=>some b.isNone
 | some (some _,_,_),some (Option.none,_,_)=>some false
 | _,_=>Option.none
noncomputable def d5:Option Bool→Option Bool→Option Bool
 | some true,some b=>some b
 | some false,some true=>some false
 | _,_=>Option.none
noncomputable def cW (P:Program) (t:TypeId) (x y:Value):Option Bool :=
 match P.underlying t with
 | some (.pointer e)=>eqP P e (asP x) (asP y)
 | some (.slice _)=>fk (ci x) (ci y)
 | some (.func _ _ _)=>d5 (eg x) (eg y)
 | some (.interface _)=>d5 (eh x) (eh y)
 | _=>Option.none
noncomputable def bGen (P:Program) (op:BinOp) (t:TypeId) (x y:Operand) (a b:Value):Option Value :=
 bif plain a&&plain b then aK (aF P (do eqGuard op t x y a b; binOp op t a b)) else
 match op with
 | .eql=>(cW P t a b).map .bool
 | .neq=>(cW P t a b).map fun c=> .bool !c
 | _=>Option.none
noncomputable def gb (P:Program) (op:BinOp) (t:TypeId) (x y:Operand) (a b:Value):Option Value :=
 match asI a,asI b with
 | some (k,m),some (k',n)=>jZ op k m k' n
 | _,_ =>
  match asS a,asS b with
  | some s,some u=>dr op s u
  | _,_=>bGen P op t x y a b
noncomputable def aV (l:List Value):Bool:=l.all plain
noncomputable def ar (v:Option Value):Option (Value×Eff) :=
 match v with
 | some v=>some (v,.none)
 | Option.none=>Option.none
abbrev BF:=Program→Array TypeId→TypeId→List Value→Option Blk→Option (Value×Eff)
noncomputable def iG (P:Program) (ats:Array TypeId) (x:Value):VE :=
 match (ats[0]?).bind P.underlying with
 | some .string=>(match asS x with | some s=>some (goInt s.size,.none) | Option.none=>Option.none)
 | some (.slice _)=>(match ci x with | some (_,n,_)=>some (goInt n,.none) | Option.none=>Option.none)
 | some (.array n _)=>some (goInt n,.none)
 | _=>Option.none
noncomputable def bLen:BF:=fun P ats _ args _=>match args with | [x]=>iG P ats x | _=>Option.none
noncomputable def bCap:BF:=fun P ats _ args _=>match args with
 | [.slice Option.none _ 0]=>(match (ats[0]?).bind P.underlying with | some (.slice _)=>some (goInt 0,.none) | _=>Option.none)
 | _=>Option.none
noncomputable def bMin:BF:=fun P ats type l _=>bif aV l then ar (aK (aF P (Builtin.min_ ats type l.toArray))) else Option.none
noncomputable def bMax:BF:=fun P ats type l _=>bif aV l then ar (aK (aF P (Builtin.max_ ats type l.toArray))) else Option.none
noncomputable def bUsd:BF:=fun _ _ _ args _=>match args with
 | [.slice (some a) n _]=>bif Nat.ble 1 n then some (.pointer (some a),.none) else Option.none
 | [.slice Option.none _ _]=>some (.pointer Option.none,.none)
 | _=>Option.none
noncomputable def lT (P:Program) (e:TypeId) (z off:Nat) (own:Bool) (n:Int) (cs:List Value) (u:TypeId):Option (Value×Eff) :=
 bif own&&Nat.beq (P.cellsOf e) 1&&P.underlyingId u==P.underlyingId e then
  (if 0<n∧n≤9223372036854775807 then(match aR cs off n.toNat with
   | some l=>(match bf l with | some r=>some (.string ⟨r.toArray⟩,.upd (.row cs e z false)) | Option.none=>Option.none)
   | Option.none=>Option.none) else Option.none) else Option.none
noncomputable def usP (P:Program) (ats:Array TypeId) (a:Addr) (n:Int) (blk:Option Blk):Option (Value×Eff) :=
 match blk,(ats[0]?).bind P.underlying with
 | some (.row cs e z own),some (.pointer u)=>lT P e z a.off own n cs u
 | _,_=>Option.none
noncomputable def nI (P:Program) (ats:Array TypeId) (x y:Value) (blk:Option Blk):Option (Value×Eff) :=
 match asP x,asI y with
 | some Option.none,some (_,n)=>if n=0∧(ats[0]?).isSome=true then some (.string .empty,.none) else Option.none
 | some (some a),some (.i64,n)=>usP P ats a n blk
 | _,_=>Option.none
noncomputable def bUs:BF:=fun P ats _ args blk=>match args with
 | [x,y]=>nI P ats x y blk
 | _=>Option.none
noncomputable def bNo:BF:=fun _ _ _ _ _=>Option.none
noncomputable def eJ (b:Builtin):BF:=Builtin.rec (motive:=fun _=>BF) bNo bCap bNo bNo bNo bNo bNo bNo bLen bNo bMax bMin bNo bNo bNo bNo bNo bNo bNo bNo bUsd bUs bNo bNo bNo bNo b
abbrev OF:=Program→Nat→TypeId→(Operand→Value)→Option Blk→Option (Value×Eff)
noncomputable def lU (x:Operand):OF:=fun _ _ _ ρ _=>some (ρ x,.none)
noncomputable def fG (c x y:Operand):OF:=fun _ _ _ ρ _=>match asB (ρ c) with | some t=>some (bif t then ρ x else ρ y,.none) | _=>Option.none
noncomputable def ej (t:TypeId):OF:=fun P nx _ _ _=>match aS P t with | some z=>some (.pointer (some ⟨nx,0,Option.none⟩),.new (.row z t 0 true)) | Option.none=>Option.none
noncomputable def kS (nx:Nat) (t:TypeId) (v:Value):Option (Value×Eff) :=
 bif v.cells.toList.all one then some (.pointer (some ⟨nx,0,Option.none⟩),.new (.row v.cells.toList t 0 true)) else Option.none
noncomputable def nJ (t:TypeId) (x:Operand):OF:=fun _ nx _ ρ _=>kS nx t (ρ x)
noncomputable def kT (t:TypeId) (ps:Array (Nat×Operand)):OF:=fun P _ _ ρ _=>ar (f6 P t (ps.toList.map fun p=>(p.1,ρ p.2)))
noncomputable def cj (t:TypeId) (n:Nat) (ps:Array (Nat×Operand)):OF:=fun P nx _ ρ _=>bp P nx t n (ps.toList.map fun p=>(p.1,ρ p.2))
noncomputable def cE (t:TypeId) (l c:Operand):OF:=fun P nx _ ρ _=>cD P nx t (ρ l) (ρ c)
noncomputable def dF (P:Program) (t:TypeId) (b:Option Blk):Option (Option Addr)→VE
 | some (some ad)=>(match b with | some bl=>ar (dD P t ad bl) | Option.none=>Option.none)
 | _=>Option.none
noncomputable def nK (t:TypeId) (a:Operand):OF:=fun P _ _ ρ b=>dF P t b (asP (ρ a))
noncomputable def jb:Option Blk→VE
 | some c=>some (undef,.upd c)
 | Option.none=>Option.none
noncomputable def ek (P:Program) (t:TypeId) (x:Value) (b:Option Blk):Option (Option Addr)→VE
 | some (some ad)=>(match b with | some bl=>jb (ef P t ad x bl) | Option.none=>Option.none)
 | _=>Option.none
noncomputable def kU (t:TypeId) (a x:Operand):OF:=fun P _ _ ρ b=>ek P t (ρ x) b (asP (ρ a))
noncomputable def nL (v:Value):VE :=
 match asP v,asF v with
 | some (some _),_=>some (v,.none)
 | _,some (.func _,_,_)=>some (v,.none)
 | _,_=>Option.none
noncomputable def fl (x:Operand):OF:=fun _ _ _ ρ _=>nL (ρ x)
noncomputable def oBin (op:BinOp) (t:TypeId) (x y:Operand) (_:TypeId):OF:=fun P _ _ ρ _=>ar (gb P op t x y (ρ x) (ρ y))
noncomputable def unV (P:Program) (op:UnOp) (v:Value):Option Value :=
 match op,asB v with
 | .not,some b=>some (.bool !b)
 | _,_=>bif plain v then aK (aF P (Op.unary op v)) else Option.none
noncomputable def oUn (op:UnOp) (_:TypeId) (x:Operand):OF:=fun P _ _ ρ _=>ar (unV P op (ρ x))
noncomputable def gc (s d:TypeId) (x:Operand):OF:=fun P nx _ ρ b=>aZ P nx s d (ρ x) b
noncomputable def jc (P:Program) (t:TypeId) (v:Value):Option (Value×Eff) :=
 match P.underlying t with | some (.interface _)=>Option.none | some _=>some (.iface t v,.none) | _=>Option.none
noncomputable def cF (t:TypeId) (x:Operand):OF:=fun P _ _ ρ _=>jc P t (ρ x)
noncomputable def fm (fn:Fn) (first captured:Array Operand):OF:=fun _ _ _ ρ _=>some (.func fn (first.toList.map ρ).toArray (captured.toList.map ρ).toArray,.none)
noncomputable def fo (t:TypeId) (x:Operand) (lo hi mx:Option Operand):OF:=fun P _ _ ρ _ =>
 match mx with | Option.none=>ar (kQ P t (ρ x) (lo.map ρ) (hi.map ρ)) | _=>Option.none
noncomputable def br (s:TypeId) (x:Operand) (f:Nat):OF:=fun P _ _ ρ _=>ar (f7 P s f (ρ x))
noncomputable def fp (t:TypeId) (x:Operand) (f:Nat):OF:=fun P _ _ ρ _=>ar (kR P t f (ρ x))
noncomputable def bs (t:TypeId) (x i:Operand):OF:=fun P _ _ ρ _=>ar (f9 P t (ρ x) (ρ i))
noncomputable def gd (s:ByteArray) (i:Int):Option Value:=if 0≤i then(match nth s.data.toList i.toNat with | some b=>some (.int .u8 b.toNat) | Option.none=>Option.none) else Option.none
noncomputable def ge (P:Program) (t:TypeId) (x i:Value):Option Value :=
 match asS x,asI i with
 | some s,some (_,n)=>bif bq P t then gd s n else Option.none
 | _,_=>bif plain x&&plain i then aK (aF P (Instr.index t x i)) else Option.none
noncomputable def kV (t:TypeId) (x i:Operand):OF:=fun P _ _ ρ _=>ar (ge P t (ρ x) (ρ i))
noncomputable def dG (i:Nat) (v:Value):Option Value:=match asT v with | some vs=>nth vs.toList i | Option.none=>Option.none
noncomputable def gf (t:Operand) (i:Nat):OF:=fun _ _ _ ρ _=>ar (dG i (ρ t))
noncomputable def fq (P:Program) (nx:Nat) (t:TypeId) (v:Value):VE :=
 match asS v with | some s=>bif bq P t then some (.pointer (some ⟨nx,0,Option.none⟩),.new (.iter s 0)) else Option.none | Option.none=>Option.none
noncomputable def gh (t:TypeId) (x:Operand):OF:=fun P nx _ ρ _=>fq P nx t (ρ x)
noncomputable def iH (s:ByteArray) (pos:Nat):Option (Value×Eff) :=
 if pos<s.size then some (.tuple #[.bool true,goInt pos,.int .i32 (Utf8.decode s pos).1],.upd (.iter s (pos+(Utf8.decode s pos).2))) else some (.tuple #[.bool false],.none)
noncomputable def j5 (p:Value) (b:Option Blk):VE :=
 match asP p,b with
 | some (some a),some (.iter s pos)=>bif Nat.beq a.off 0 then iH s pos else Option.none
 | _,_=>Option.none
noncomputable def fH (it:Operand) (str:Bool):OF:=fun _ _ _ ρ b=>bif str then j5 (ρ it) b else Option.none
noncomputable def j6 (args:Array Operand) (ats:Array TypeId):Callee→OF
 | .builtin f=>fun P _ ty ρ b=>eJ f P ats ty (args.toList.map ρ) b
 | _=>fun _ _ _ _ _=>Option.none
noncomputable def nM (c:Call):OF:=j6 c.args c.argTypes c.callee
noncomputable def oNo:OF:=fun _ _ _ _ _=>Option.none
noncomputable def ai (o:Op):OF:=Op.rec (motive:=fun _=>OF) (fun x=>lU x) (fun x=>lU x) (fun c a b=>fG c a b) (fun t=>ej t) (fun t x=>nJ t x) (fun t p=>kT t p) (fun t n p=>cj t n p) (fun _ _ _ _=>oNo) (fun t a=>nK t a) (fun t a x=>kU t a x) (fun _=>oNo) (fun _=>oNo) (fun x=>fl x) (fun op t x y u=>oBin op t x y u) (fun op t x=>oUn op t x) (fun s d x=>gc s d x) (fun _ _=>oNo) (fun t x=>cF t x) (fun f a b=>fm f a b) (fun _ _=>oNo) (fun _ _=>oNo) (fun t l c=>cE t l c) (fun t x l h m=>fo t x l h m) (fun s x f=>br s x f) (fun s x f=>fp s x f) (fun t x i=>bs t x i) (fun t x i=>kV t x i) (fun _ _ _ _=>oNo) (fun _ _ _ _=>oNo) (fun _ _ _=>oNo) (fun _ _ _ _=>oNo) (fun t x=>gh t x) (fun i b=>fH i b) (fun _=>oNo) (fun _ _ _ _=>oNo) (fun t i=>gf t i) (fun c=>nM c) (fun _=>oNo) (fun _=>oNo) (fun _=>oNo) (fun _ _=>oNo) (fun _ _ _=>oNo) (fun _ _=>oNo) o
noncomputable def nN:Callee→Bool
 | .value _=>true
 | .builtin .append=>true
 | .builtin .copy=>true
 | _=>false
noncomputable def aw (o:Op):Bool:=Op.rec (motive:=fun _=>Bool) (fun _=>false) (fun _=>false) (fun _ _ _=>false) (fun _=>false) (fun _ _=>false) (fun _ _=>false) (fun _ _ _=>false) (fun _ _ _ _=>false) (fun _ _=>false) (fun _ _ _=>false) (fun _=>false) (fun _=>false) (fun _=>false) (fun _ _ _ _ _=>false) (fun _ _ _=>false) (fun _ _ _=>false) (fun _ _=>false) (fun _ _=>false) (fun _ _ _=>false) (fun _ _=>false) (fun _ _=>false) (fun _ _ _=>false) (fun _ _ _ _ _=>false) (fun _ _ _=>false) (fun _ _ _=>false) (fun _ _ _=>false) (fun _ _ _=>false) (fun _ _ _ _=>false) (fun _ _ _ _=>false) (fun _ _ _=>false) (fun _ _ _ _=>false) (fun _ _=>false) (fun _ _=>false) (fun _=>false) (fun _ _ _ _=>false) (fun _ _=>false) (fun c=>nN c.callee) (fun _=>false) (fun _=>false) (fun _=>false) (fun _ _=>false) (fun _ _ _=>false) (fun _ _=>false) o
abbrev R:=Value×T×Nat×List Nat
noncomputable def aW (H:T) (size n:Nat):Value→Option (List Value)
 | .slice (some a) _ _=>(match H.get a.block,a.spot with | some (.row cs _ _ _),Option.none=>aR cs a.off (n*size) | _,_=>Option.none)
 | .slice Option.none _ _=>bif Nat.beq n 0 then some [] else Option.none
 | .string s=>bif Nat.beq size 1 then some ((bH s).take n) else Option.none
 | _=>Option.none
noncomputable def fT:Value→Option Nat
 | .slice _ n _=>some n
 | .string s=>some s.size
 | _=>Option.none
noncomputable def kW:TypeDesc→Bool
 | .slice _=>true
 | .string=>true
 | _=>false
noncomputable def lV (H:T) (nx:Nat) (i:TypeInfo) (e:TypeId) (a:Addr) (n m:Nat) (news:List Value):Option (List Value)→Option R
 | some old=>some (.slice (some ⟨nx,0,Option.none⟩) (n+m) i.size,(H.set a.block Option.none).set nx (some (.row (old++news) e i.size true)),Nat.succ nx,[a.block])
 | Option.none=>Option.none
noncomputable def j7 (H:T) (nx:Nat) (i:TypeInfo) (e:TypeId) (a:Addr) (n m c:Nat) (news:List Value):Option Blk→Option R
 | some (.row cs el z own)=>bif own&&Nat.beq z i.size&&Nat.beq c z&&Nat.beq el e then lV H nx i e a n m news (aR cs a.off (n*i.size)) else Option.none
 | _=>Option.none
noncomputable def eo (H:T) (nx:Nat) (i:TypeInfo) (e:TypeId) (n m c:Nat) (base:Option Addr):Option (List Value)→Option R
 | some news=>(match base with
  | Option.none=>bif Nat.beq n 0&&Nat.beq c 0 then some (.slice (some ⟨nx,0,Option.none⟩) m i.size,H.set nx (some (.row news e i.size true)),Nat.succ nx,[]) else Option.none
  | some a=>j7 H nx i e a n m c news (H.get a.block))
 | Option.none=>Option.none
noncomputable def jd (s:Value) (H:T) (nx n:Nat):Option Addr→Option R
 | Option.none=>bif Nat.beq n 0 then some (s,H,nx,[]) else Option.none
 | some _=>some (s,H,nx,[])
noncomputable def gi (H:T) (nx:Nat) (i:TypeInfo) (e:TypeId) (s x:Value) (base:Option Addr) (n c m:Nat):Option R :=
 bif Nat.beq m 0 then jd s H nx n base else
 bif Nat.ble ((n+m)*i.bytes) 140737488355328&&Nat.ble (n+m) maxLen then eo H nx i e n m c base (aW H i.size m x) else Option.none
noncomputable def j8 (H:T) (nx:Nat) (i:TypeInfo) (e:TypeId) (s x:Value):Option (Option Addr×Nat×Nat)→Option Nat→Option R
 | some (base,n,c),some m=>gi H nx i e s x base n c m
 | _,_=>Option.none
noncomputable def je (H:T) (nx:Nat) (e:TypeId) (s x:Value):Option TypeInfo→Option (List Value)→Option R
 | some i,some z=>bif Nat.ble 1 i.size&&Nat.beq z.length i.size then j8 H nx i e s x (ci s) (fT x) else Option.none
 | _,_=>Option.none
noncomputable def nO (P:Program) (H:T) (nx:Nat) (s x:Value):Option TypeDesc→Option TypeDesc→Option R
 | some (.slice e),some u=>bif kW u then je H nx e s x (P.info? e) (aS P e) else Option.none
 | _,_=>Option.none
noncomputable def bL (P:Program) (ats:Array TypeId) (args:List Value) (H:T) (nx:Nat):Option R :=
 match args with
 | [s,x]=>nO P H nx s x ((ats[0]?).bind P.underlying) ((ats[1]?).bind P.underlying)
 | _=>Option.none
noncomputable def nP (H:T) (nx:Nat) (size:Nat) (a:Addr) (d k:Nat) (news:List Value):Option Blk→Option R
 | some (.row cs e' z own)=>bif own&&Nat.beq z size&&Nat.ble (a.off+d*size) cs.length then some (goInt (k:Nat),H.set a.block (some (.row (setCells cs a.off news) e' z own)),nx,[a.block]) else Option.none
 | _=>Option.none
noncomputable def kX (H:T) (nx:Nat) (size d k:Nat) (base:Option Addr):Option (List Value)→Option R
 | some news=>(match base with
  | Option.none=>bif Nat.beq d 0 then some (goInt 0,H,nx,[]) else Option.none
  | some a=>nP H nx size a d k news (H.get a.block))
 | Option.none=>Option.none
noncomputable def nQ (H:T) (nx:Nat) (size:Nat) (x:Value):Option (Option Addr×Nat×Nat)→Option Nat→Option R
 | some (base,d,_),some m=>kX H nx size d (min m d) base (aW H size (min m d) x)
 | _,_=>Option.none
noncomputable def cpTy (P:Program) (H:T) (nx:Nat) (s x:Value):Option TypeDesc→Option R
 | some (.slice e)=>(match aU P e with | some size=>bif Nat.ble 1 size then nQ H nx size x (ci s) (fT x) else Option.none | Option.none=>Option.none)
 | _=>Option.none
noncomputable def iI (P:Program) (ats:Array TypeId) (args:List Value) (H:T) (nx:Nat):Option R :=
 match args with
 | [s,x]=>cpTy P H nx s x ((ats[0]?).bind P.underlying)
 | _=>Option.none
structure Env where
 P:Program
 NG:Nat
 ext:FuncId→List Value→Option Value
 same:FuncId→Bool
 mnz:FuncId→Option TypeId
 over:FuncId→List Value→T→Nat→Option R
abbrev am:=FuncId→List Value→T→Nat→Option R
noncomputable def dH (a b:Option R):Option R:=match a with | some r=>some r | Option.none=>b
noncomputable def j9 (E:Env) (g:FuncId) (args:List Value) (H:T) (nx:Nat):Option R :=
 bif E.same g then(match args with | [x]=>some (x,H,nx,[]) | _=>Option.none) else
 match E.mnz g with
 | some e=>(match args with
  | [.int .i64 n]=>if 0≤n∧n≤140737488355328 then some (.slice (some ⟨nx,0,Option.none⟩) n.toNat 1,H.set nx (some (.row (List.replicate n.toNat (.chan (some 0))) e 1 true)),nx+1,[]) else Option.none
  | _=>Option.none)
 | Option.none=>bif aV args then(E.ext g args).map fun v=>(v,H,nx,[]) else Option.none
abbrev CF:=Env→am→(Operand→Value)→T→Nat→Option R
noncomputable def bR (E:Env) (call:am) (g:FuncId) (args:List Value) (H:T) (nx:Nat) (fn:Func):Option R :=
 match fn.body with
 | some _=>dH (E.over g args H nx) (call g args H nx)
 | Option.none=>j9 E g args H nx
noncomputable def ka (E:Env) (call:am) (args:List Value) (H:T) (nx:Nat) (g:FuncId):Option Func→Option R
 | some fn=>bR E call g args H nx fn
 | Option.none=>Option.none
noncomputable def fI (E:Env) (call:am) (args:List Value) (H:T) (nx:Nat):Option (Fn×Array Value×Array Value)→Option R
 | some (.func g,first,captured)=>ka E call (first.toList++(args++captured.toList)) H nx g (E.P.funcs[g]?)
 | _=>Option.none
noncomputable def cValue (args:Array Operand) (f:Operand):CF:=fun E call ρ H nx=>fI E call (args.toList.map ρ) H nx (asF (ρ f))
noncomputable def jf (args:Array Operand) (ats:Array TypeId):Builtin→CF
 | .append=>fun E _ ρ H nx=>bL E.P ats (args.toList.map ρ) H nx
 | .copy=>fun E _ ρ H nx=>iI E.P ats (args.toList.map ρ) H nx
 | _=>fun _ _ _ _ _=>Option.none
noncomputable def cCallee (args:Array Operand) (ats:Array TypeId):Callee→CF
 | .value f=>cValue args f
 | .builtin b=>jf args ats b
 | _=>fun _ _ _ _ _=>Option.none
noncomputable def cCall (c:Call):CF:=cCallee c.args c.argTypes c.callee
noncomputable def aB:CF:=fun _ _ _ _ _=>Option.none
noncomputable def bj (o:Op):CF:=Op.rec (motive:=fun _=>CF) (fun _=>aB) (fun _=>aB) (fun _ _ _=>aB) (fun _=>aB) (fun _ _=>aB) (fun _ _=>aB) (fun _ _ _=>aB) (fun _ _ _ _=>aB) (fun _ _=>aB) (fun _ _ _=>aB) (fun _=>aB) (fun _=>aB) (fun _=>aB) (fun _ _ _ _ _=>aB) (fun _ _ _=>aB) (fun _ _ _=>aB) (fun _ _=>aB) (fun _ _=>aB) (fun _ _ _=>aB) (fun _ _=>aB) (fun _ _=>aB) (fun _ _ _=>aB) (fun _ _ _ _ _=>aB) (fun _ _ _=>aB) (fun _ _ _=>aB) (fun _ _ _=>aB) (fun _ _ _=>aB) (fun _ _ _ _=>aB) (fun _ _ _ _=>aB) (fun _ _ _=>aB) (fun _ _ _ _=>aB) (fun _ _=>aB) (fun _ _=>aB) (fun _=>aB) (fun _ _ _ _=>aB) (fun _ _=>aB) (fun c=>cCall c) (fun _=>aB) (fun _=>aB) (fun _=>aB) (fun _ _=>aB) (fun _ _ _=>aB) (fun _ _=>aB) o
structure St where
 fr:Fr
 H:T
 nx:Nat
 ms:List Nat
noncomputable def bz (fr:Fr) (d:Option Tmp) (v:Value):Fr :=
 match d with
 | some t=>Fr.set fr t v
 | Option.none=>fr
noncomputable def kY (H:T) (nx:Nat) (id:Option Nat):Eff→T
 | .none=>H
 | .upd b=>(match id with | some i=>H.set i (some b) | _=>H)
 | .new b=>H.set nx (some b)
noncomputable def bS (nx:Nat):Eff→Nat
 | .new _=>nx+1
 | _=>nx
noncomputable def bT (id:Option Nat):Eff→List Nat
 | .upd _=>id.toList
 | _=>[]
noncomputable def ck:List Nat→List Nat→List Nat
 | [],l=>l
 | i::r,l=>bif (ck r l).contains i then ck r l else i::ck r l
noncomputable def lW (o:Oper) (s:St):Option R→Option St
 | some (v,H,nx,ms)=>some ⟨bz s.fr o.dst v,H,nx,ck ms s.ms⟩
 | Option.none=>Option.none
noncomputable def iJ (o:Oper) (s:St) (id:Option Nat):Option (Value×Eff)→Option St
 | some (v,eff)=>some ⟨bz s.fr o.dst v,kY s.H s.nx id eff,bS s.nx eff,ck (bT id eff) s.ms⟩
 | Option.none=>Option.none
noncomputable def jg (E:Env) (call:am) (o:Oper) (s:St):Option St:=lW o s (bj o.op E call (opv E.NG s.fr) s.H s.nx)
noncomputable def dt (E:Env) (o:Oper) (s:St) (ρ:Operand→Value) (id:Option Nat):Option St:=iJ o s id (ai o.op E.P s.nx o.type ρ (id.bind s.H.get))
noncomputable def du (E:Env) (o:Oper) (s:St):Option St:=dt E o s (opv E.NG s.fr) (aq o.op (opv E.NG s.fr))
noncomputable def bm (E:Env) (call:am) (o:Oper) (s:St):Option St:=bif aw o.op then jg E call o s else du E o s
noncomputable def lX (want:Bool) (v:Value):Option Bool :=
 match asB v,asT v with
 | some b,_=>some (b==want)
 | _,some _=>some false
 | _,_=>Option.none
noncomputable def iK (ops:Array Oper) (fr:Fr) (j:Nat) (want:Bool):Option Bool :=
 match (ops[j]?).bind (·.dst) with
 | some d=>lX want (Fr.get fr d)
 | Option.none=>some false
noncomputable def ae (ops:Array Oper) (fr:Fr) (o:Oper):Option Bool :=
 match o.guard with
 | Option.none=>some true
 | some (j,want)=>iK ops fr j want
abbrev SeqF:=Array Oper→Env→am→St→Option St
noncomputable def cg (f:SeqF) (ops:Array Oper) (E:Env) (call:am):Option St→Option St
 | some s=>f ops E call s
 | Option.none=>Option.none
noncomputable def eK (f:SeqF) (o:Oper) (ops:Array Oper) (E:Env) (call:am) (s:St):Option Bool→Option St
 | some true=>cg f ops E call (bm E call o s)
 | some false=>f ops E call { s with fr:=bz s.fr o.dst undef }
 | Option.none=>Option.none
noncomputable def cG (l:List Oper):SeqF:=List.rec (fun _ _ _ s=>some s) (fun o _ f ops E call s=>eK f o ops E call s (ae ops s.fr o)) l
end Go.Proofs.YtjcbhbncncbdjaaGreatDoorAi
namespace Go.Proofs.YtjcbhbncncbdjaaGreatDoorAi
open Go Go.RowKit
set_option linter.unusedVariables false
structure Rec where
 rd:Option Nat
 ms:List Nat
 lo:Nat
 hi:Nat
 call:Bool
 ld:Option (TypeId×Addr×Value)
noncomputable def nR:Value→Value→Bool
 | .bool a,.bool b=>a==b
 | .int k a,.int j b=>k==j&&a==b
 | .string a,.string b=>a.data.toList==b.data.toList
 | .pointer a,.pointer b=>a==b
 | .slice a n c,.slice b m d=>a==b&&Nat.beq n m&&Nat.beq c d
 | _,_=>false
noncomputable def gj (P:Program) (r:Rec) (b:Option Blk):Bool :=
 match r.ld,b with
 | some (t,a,v),some bl=>(match dD P t a bl with | some u=>nR u v | Option.none=>false)
 | _,_=>false
noncomputable def fu (ρ:Operand→Value) (o:Oper) (v:Value):Option (TypeId×Addr×Value) :=
 match o.op with
 | .load t a=>(match asP (ρ a) with | some (some ad)=>some (t,ad,v) | _=>Option.none)
 | _=>Option.none
noncomputable def cr (ms:List Nat):List Edge→Nat
 | []=>0
 | e::es=>bif Region.binds .any e then Nat.lor (Nat.lor (Nat.pow 2 e.on) (match nth ms e.on with | some m=>m | Option.none=>0)) (cr ms es) else cr ms es
def iL (y:Nat) (es:List Edge):Bool:=es.all fun e=> !Region.binds .any e||Nat.blt e.on y
def gk (m:Nat):Nat→List Nat
 | 0=>[]
 | n+1=>bif m.testBit n then gk m n else n::gk m n
noncomputable def eL (ops:Array Oper) (done:List Oper) (o:Oper):List Nat→Bool
 | []=>true
 | k::l=>(match nth done k with | some p=>Oper.apart ops p o | Option.none=>false)&&eL ops done o l
noncomputable def ir (ops:Array Oper):List Oper→List Oper→List Nat→Option (List (List Nat))
 | [],_,_=>some []
 | o::rest,done,ms =>
  bif iL done.length o.after.toList&&eL ops done o (gk (cr ms o.after.toList) done.length) then
   (match ir ops rest (done++ [o]) (ms++ [cr ms o.after.toList]) with
    | some l=>some (gk (cr ms o.after.toList) done.length::l)
    | Option.none=>Option.none)
  else Option.none
noncomputable def ay (rs:List Rec):List Nat→List Rec
 | []=>[]
 | k::l=>(match nth rs k with | some r=>r::ay rs l | Option.none=>ay rs l)
noncomputable def Rec.has (r:Rec) (i:Nat):Bool:=r.ms.contains i||(Nat.ble r.lo i&&Nat.blt i r.hi)
noncomputable def hide (H:T):List Nat→T
 | []=>H
 | i::l=>(hide H l).set i Option.none
noncomputable def bring (H0:T) (H:T):List Nat→T
 | []=>H
 | i::l=>(bring H0 H l).set i (H0.get i)
noncomputable def aL:List Rec→List Nat
 | []=>[]
 | r::rs=>bif Nat.blt r.lo r.hi then r.lo::aL rs else aL rs
noncomputable def okRd (P:Program) (H':T) (ms':List Nat) (r:Rec):Option Nat→Bool
 | some i=> !ms'.contains i||gj P r (H'.get i)
 | Option.none=>true
noncomputable def dc (P:Program) (H':T) (ms':List Nat) (r:Rec):Bool:=okRd P H' ms' r r.rd&&(Nat.ble r.hi r.lo|| !ms'.contains r.lo)
noncomputable def ep (o:Oper) (un:List Rec) (E:Env) (s:St):Option R→Option (St×Rec)
 | some (v,H',nx',ms') =>
  bif un.all (dc E.P H' ms') then
   some (⟨bz s.fr o.dst v,bring s.H H' (aL un),nx',ck ms' s.ms⟩,⟨Option.none,ms',s.nx,nx',true,Option.none⟩)
  else Option.none
 | Option.none=>Option.none
noncomputable def eq (E:Env) (call:am) (o:Oper) (s:St) (un:List Rec):Option (St×Rec) :=
 bif un.all (fun r=> !r.call&&r.ms.isEmpty) then ep o un E s (bj o.op E call (opv E.NG s.fr) (hide s.H (aL un)) s.nx) else Option.none
noncomputable def dh (P:Program) (id:Option Nat) (eff:Eff) (r:Rec):Bool :=
 match id with
 | some i=> !r.has i&&(match eff with | .upd b=> !r.call&&(r.rd != some i||gj P r (some b)) | _=>true)
 | Option.none=>true
noncomputable def dv (o:Oper) (un:List Rec) (E:Env) (s:St) (ρ:Operand→Value) (id:Option Nat):Option (Value×Eff)→Option (St×Rec)
 | some (v,eff) =>
  bif un.all (dh E.P id eff) then
   some (⟨bz s.fr o.dst v,kY s.H s.nx id eff,bS s.nx eff,ck (bT id eff) s.ms⟩,⟨id,bT id eff,s.nx,bS s.nx eff,false,fu ρ o v⟩)
  else Option.none
 | Option.none=>Option.none
noncomputable def et (E:Env) (o:Oper) (s:St) (un:List Rec) (ρ:Operand→Value) (id:Option Nat):Option (St×Rec) :=
 dv o un E s ρ id (ai o.op E.P s.nx o.type ρ (id.bind s.H.get))
noncomputable def bN (E:Env) (call:am) (o:Oper) (s:St) (un:List Rec):Option (St×Rec) :=
 bif aw o.op then eq E call o s un else et E o s un (opv E.NG s.fr) (aq o.op (opv E.NG s.fr))
noncomputable def di (E:Env) (call:am) (o:Oper) (s:St) (un:List Rec):Option Bool→Option (St×Rec)
 | Option.none=>Option.none
 | some false=>some ({ s with fr:=bz s.fr o.dst undef },⟨Option.none,[],s.nx,s.nx,false,Option.none⟩)
 | some true=>bN E call o s un
abbrev nS:=List (List Nat)→Array Oper→Env→am→List Rec→St→Option St
noncomputable def bU (f:nS) (inf:List (List Nat)) (ops:Array Oper) (E:Env) (call:am) (rs:List Rec):Option (St×Rec)→Option St
 | some (s,r)=>f inf ops E call (rs++ [r]) s
 | Option.none=>Option.none
noncomputable def fX (f:nS) (o:Oper) (ops:Array Oper) (E:Env) (call:am) (rs:List Rec) (s:St):List (List Nat)→Option St
 | un::inf=>bU f inf ops E call rs (di E call o s (ay rs un) (ae ops s.fr o))
 | []=>Option.none
noncomputable def cH (l:List Oper):nS:=List.rec (fun _ _ _ _ _ s=>some s) (fun o _ f inf ops E call rs s=>fX f o ops E call rs s inf) l
noncomputable def lY (ops:Array Oper) (E:Env) (call:am) (s:St):Option (List (List Nat))→Option St
 | some inf=>cH ops.toList inf ops E call [] s
 | Option.none=>Option.none
noncomputable def jh (draw:Bool) (ops:Array Oper) (E:Env) (call:am) (s:St):Option St :=
 bif draw then lY ops E call s (ir ops ops.toList [] []) else cG ops.toList ops E call s
abbrev K:=Exit→St→Option R
abbrev cm:=Env→am→Nat→St→K→Option R
noncomputable def nT (n:St→Option R) (k:K) (e:Exit) (s:St):Option R :=
 match e with
 | .normal=>n s
 | .exit i=>k (.exit i) s
 | .ret=>k .ret s
 | _=>Option.none
noncomputable def nU (id:Nat) (k:K) (e:Exit) (s:St):Option R :=
 match e with
 | .normal=>k .normal s
 | .exit j=>bif Nat.beq j id then k .normal s else k (.exit j) s
 | .ret=>k .ret s
 | _=>Option.none
noncomputable def loopS (body:St→K→Option R) (f:St→K→Option R) (s:St) (k:K):Option R:=body s (nT (fun s'=>f s' k) k)
noncomputable def gl (body:St→K→Option R) (n:Nat):St→K→Option R:=Nat.rec (fun _ _=>Option.none) (fun _ f=>loopS body f) n
noncomputable def gm (a b:cm) (E:Env) (call:am) (lf:Nat) (s:St) (k:K):Option Bool→Option R
 | some t=>bif t then a E call lf s k else b E call lf s k
 | Option.none=>Option.none
noncomputable def bI (k:K):Option St→Option R
 | some s=>k .normal s
 | Option.none=>Option.none
noncomputable def lZ:cm:=fun _ _ _ s k=>k .normal s
noncomputable def cSeq (a b:cm):cm:=fun E call lf s k=>a E call lf s (nT (fun s'=>b E call lf s' k) k)
noncomputable def l3 (c:Operand) (a b:cm):cm:=fun E call lf s k=>gm a b E call lf s k (asB (opv E.NG s.fr c))
noncomputable def ji (id:Nat) (b:cm):cm:=fun E call lf s k=>b E call lf s (nU id k)
noncomputable def l4 (b:cm):cm:=fun E call lf s k=>gl (b E call lf) lf s k
noncomputable def cExit (id:Nat):cm:=fun _ _ _ s k=>k (.exit id) s
noncomputable def cRet:cm:=fun _ _ _ s k=>k .ret s
noncomputable def cRegion (ops:Array Oper) (draw:Bool):cm:=fun E call _ s k=>bI k (jh draw ops E call s)
noncomputable def cNo:cm:=fun _ _ _ _ _=>Option.none
noncomputable def evC (c:Code):cm:=Code.rec lZ (fun _ ops draw=>cRegion ops draw) (fun _ _ f g=>cSeq f g) (fun c _ _ f g=>l3 c f g) (fun id _ f=>ji id f)
 (fun _ f=>l4 f) (fun _ _ _ _ _ _=>cNo) cExit (fun _ f=>f) (fun _=>lZ) (fun _=>cNo) cRet (fun _=>cNo) c
noncomputable def kZ (P:Program) (s:St):ResultVar→Option Value
 | .tmp t=>some (Fr.get s.fr t)
 | .cell a t=>(match asP (Fr.get s.fr a) with | some (some ad)=>(s.H.get ad.block).bind (dD P t ad) | _=>Option.none)
noncomputable def gn (P:Program) (s:St):List ResultVar→Option (List Value)
 | []=>some []
 | r::rs=>(match kZ P s r,gn P s rs with | some v,some l=>some (v::l) | _,_=>Option.none)
noncomputable def fv (P:Program) (fn:Func) (s:St):Option Value :=
 match gn P s fn.results.toList with
 | some [v]=>some v
 | some l=>some (.tuple l.toArray)
 | Option.none=>Option.none
noncomputable def eu (P:Program) (fn:Func) (nx:Nat):K:=fun e s =>
 match e with
 | .normal | .ret=>(fv P fn s).map fun v=>(v,s.H,s.nx,s.ms.filter fun i=>Nat.blt i nx)
 | _=>Option.none
noncomputable def de:Nat→List Value→Fr
 | _,[]=> .e
 | k,v::l=>Fr.set (de (k+1) l) k v
def dj (n:Nat) (o:Oper):Bool:=match o.dst with | some d=>Nat.blt d n | Option.none=>true
noncomputable def bG (n:Nat):Code→Bool
 | .region _ ops _=>ops.toList.all (dj n)
 | .seq a b=>bG n a&&bG n b
 | .cond _ a b=>bG n a&&bG n b
 | .block _ b=>bG n b
 | .loop b=>bG n b
 | .scope b=>bG n b
 | _=>true
noncomputable def nV (fn:Func):Bool:=match fn.body with | some c=>bG fn.ntmps c | Option.none=>false
noncomputable def mI (E:Env) (call:am) (n:Nat) (args:List Value) (H:T) (nx:Nat) (fn:Func):Option Code→Option R
 | some c=>bif nV fn&&Nat.ble args.length fn.ntmps then evC c E call n ⟨de 0 args,H,nx,[]⟩ (eu E.P fn nx) else Option.none
 | Option.none=>Option.none
noncomputable def kc (E:Env) (call:am) (n:Nat) (args:List Value) (H:T) (nx:Nat):Option Func→Option R
 | some fn=>mI E call n args H nx fn fn.body
 | Option.none=>Option.none
noncomputable def run (E:Env) (n:Nat):am:=Nat.rec (fun _ _ _ _=>Option.none) (fun n call f args H nx=>kc E call n args H nx (E.P.funcs[f]?)) n
end Go.Proofs.YtjcbhbncncbdjaaGreatDoorAi
namespace Go.Proofs.YtjcbhbncncbdjaaGreatDoorAi
open Go Go.RowKit
set_option linter.unusedVariables false
structure Loc where
 blk:Nat
 off:Nat
 lim:Nat
 esz:Nat
abbrev Mu:=Nat→Option Loc
inductive VR (μ:Mu):Value→Value→Prop
 | plain {v:Value}:plain v=true→VR μ v v
 | some1 {n:Nat} {v:Value}:v.oneCell'=true→VR μ (.chan (some n)) v
 | any {n:Nat} {v:Value}:VR μ (.map (some n)) v
 | ptr {i o:Nat} {L:Loc}:μ i=some L→VR μ (.pointer (some ⟨i,o,none⟩)) (.pointer (some ⟨L.blk,L.off+o,none⟩))
 | slice {i o n z c':Nat} {L:Loc}:μ i=some L→n≤c'→(z=0∨(z=L.esz∧L.off+o+c'*z≤L.lim))→VR μ (.slice (some ⟨i,o,none⟩) n z) (.slice (some ⟨L.blk,L.off+o,none⟩) n c')
 | slice0 {i o c:Nat} {a:Addr}:VR μ (.slice (some ⟨i,o,none⟩) 0 c) (.slice (some a) 0 0)
 | agg {xs ys:Array Value}:xs.size=ys.size→(∀(k:Nat) (x y:Value),xs[k]? = some x→ys[k]? = some y→VR μ x y)→VR μ (.agg xs) (.agg ys)
 | tuple {xs ys:Array Value}:xs.size=ys.size→(∀(k:Nat) (x y:Value),xs[k]? = some x→ys[k]? = some y→VR μ x y)→VR μ (.tuple xs) (.tuple ys)
 | func {f:Fn} {a b c d:Array Value}:a.size=c.size→(∀(k:Nat) (x y:Value),a[k]? = some x→c[k]? = some y→VR μ x y)→b.size=d.size→(∀(k:Nat) (x y:Value),b[k]? = some x→d[k]? = some y→VR μ x y)→VR μ (.func f a b) (.func f c d)
 | iface {t:TypeId} {v v':Value}:VR μ v v'→VR μ (.iface t v) (.iface t v')
def aX (μ μ':Mu):Prop:= ∀i L,μ i=some L→μ' i=some L
theorem aX.refl (μ:Mu):aX μ μ:=fun _ _ h=>h
theorem aX.trans {a b c:Mu} (h:aX a b) (k:aX b c):aX a c:=fun i L e=>k i L (h i L e)
theorem VR.mono {μ μ':Mu} (hm:aX μ μ') {v v':Value} (h:VR μ v v'):VR μ' v v':=by
 induction h with
 | plain h=>exact .plain h
 | some1 h=>exact .some1 h
 | any=>exact .any
 | ptr h=>exact .ptr (hm _ _ h)
 | slice h a b=>exact .slice (hm _ _ h) a b
 | slice0=>exact .slice0
 | agg h _ ih=>exact .agg h fun k x y a b=>ih k x y a b
 | tuple h _ ih=>exact .tuple h fun k x y a b=>ih k x y a b
 | func h _ k _ ih1 ih2=>exact .func h (fun i x y a b=>ih1 i x y a b) k fun i x y a b=>ih2 i x y a b
 | iface _ ih=>exact .iface ih
theorem bt {v:Value} (h:flat v=true):plain v=true:=by
 cases v<;>first | exact h | (simp[flat] at h)
section inv
variable {μ:Mu} {v:Value}
theorem VR.int {k:IntKind} {n:Int} (h:VR μ (.int k n) v):v= .int k n:=by cases h; rfl
theorem VR.bool {b:Bool} (h:VR μ (.bool b) v):v= .bool b:=by cases h; rfl
theorem VR.string {s:ByteArray} (h:VR μ (.string s) v):v= .string s:=by cases h; rfl
theorem VR.ptrN (h:VR μ (.pointer none) v):v= .pointer none:=by cases h; rfl
theorem VR.ptrS {a:Addr} (h:VR μ (.pointer (some a)) v):a.spot=none∧ ∃L,μ a.block=some L∧v= .pointer (some ⟨L.blk,L.off+a.off,none⟩):=by
 cases h with
 | plain h=>simp[Go.Proofs.YtjcbhbncncbdjaaGreatDoorAi.plain,flat] at h
 | ptr h=>exact⟨rfl,_,h,rfl⟩
theorem VR.sliceN {n c:Nat} (h:VR μ (.slice none n c) v):v= .slice none n c:=by cases h; rfl
theorem VR.sliceS {a:Addr} {n c:Nat} (h:VR μ (.slice (some a) n c) v):a.spot=none ∧
  ((∃L c',μ a.block=some L∧n≤c'∧(c=0∨(c=L.esz∧L.off+a.off+c'*c≤L.lim))∧v= .slice (some ⟨L.blk,L.off+a.off,none⟩) n c')∨(n=0∧ ∃b,v= .slice (some b) 0 0)):=by
 cases h with
 | plain h=>simp[Go.Proofs.YtjcbhbncncbdjaaGreatDoorAi.plain,flat] at h
 | slice h k l=>exact⟨rfl,.inl ⟨_,_,h,k,l,rfl⟩⟩
 | slice0=>exact⟨rfl,.inr ⟨rfl,_,rfl⟩⟩
theorem VR.aggI {xs:Array Value} (h:VR μ (.agg xs) v): ∃ys,v= .agg ys∧xs.size=ys.size∧ ∀(k:Nat) (x y:Value),xs[k]? = some x→ys[k]? = some y→VR μ x y:=by
 cases h with
 | plain h =>
  refine⟨xs,rfl,rfl,fun k x y a b=>?_⟩
  rw[a] at b
  obtain rfl:=Option.some.inj b
  simp only[Go.Proofs.YtjcbhbncncbdjaaGreatDoorAi.plain,List.all_eq_true] at h
  exact .plain (bt (h x (Array.mem_toList_iff.2 (Array.mem_of_getElem? a))))
 | agg h k=>exact⟨_,rfl,h,k⟩
theorem VR.tupleI {xs:Array Value} (h:VR μ (.tuple xs) v): ∃ys,v= .tuple ys∧xs.size=ys.size∧ ∀(k:Nat) (x y:Value),xs[k]? = some x→ys[k]? = some y→VR μ x y:=by
 cases h with
 | plain h =>
  refine⟨xs,rfl,rfl,fun k x y a b=>?_⟩
  rw[a] at b
  obtain rfl:=Option.some.inj b
  simp only[Go.Proofs.YtjcbhbncncbdjaaGreatDoorAi.plain,List.all_eq_true] at h
  exact .plain (bt (h x (Array.mem_toList_iff.2 (Array.mem_of_getElem? a))))
 | tuple h k=>exact⟨_,rfl,h,k⟩
theorem VR.funcI {f:Fn} {a b:Array Value} (h:VR μ (.func f a b) v): ∃c d,v= .func f c d∧a.size=c.size∧(∀(k:Nat) (x y:Value),a[k]? = some x→c[k]? = some y→VR μ x y)∧b.size=d.size∧ ∀(k:Nat) (x y:Value),b[k]? = some x→d[k]? = some y→VR μ x y:=by
 cases h with
 | plain h =>
  simp only[Go.Proofs.YtjcbhbncncbdjaaGreatDoorAi.plain,Bool.and_eq_true,Array.isEmpty_iff] at h
  obtain⟨rfl,rfl⟩:=h
  exact⟨#[],#[],rfl,rfl,by simp,rfl,by simp⟩
 | func h1 h2 h3 h4=>exact⟨_,_,rfl,h1,h2,h3,h4⟩
theorem VR.ifaceI {t:TypeId} {u:Value} (h:VR μ (.iface t u) v): ∃u',v= .iface t u'∧VR μ u u':=by
 cases h with
 | plain h =>
  refine⟨u,rfl,.plain ?_⟩
  simp only[Go.Proofs.YtjcbhbncncbdjaaGreatDoorAi.plain,Bool.or_eq_true] at h
  rcases h with h | h
  ·exact bt h
  ·cases u<;>simp_all [Go.Proofs.YtjcbhbncncbdjaaGreatDoorAi.plain]
 | iface h=>exact⟨_,rfl,h⟩
theorem VR.plainI {u:Value} (h:VR μ u v) (hp:Go.Proofs.YtjcbhbncncbdjaaGreatDoorAi.plain u=true):v=u:=by
 induction h with
 | plain _=>rfl
 | some1 _=>simp[Go.Proofs.YtjcbhbncncbdjaaGreatDoorAi.plain,flat] at hp
 | any=>simp[Go.Proofs.YtjcbhbncncbdjaaGreatDoorAi.plain,flat] at hp
 | ptr _=>simp[Go.Proofs.YtjcbhbncncbdjaaGreatDoorAi.plain,flat] at hp
 | slice _ _ _=>simp[Go.Proofs.YtjcbhbncncbdjaaGreatDoorAi.plain,flat] at hp
 | slice0=>simp[Go.Proofs.YtjcbhbncncbdjaaGreatDoorAi.plain,flat] at hp
 | agg h _ ih =>
  rename_i xs ys
  simp only[Go.Proofs.YtjcbhbncncbdjaaGreatDoorAi.plain,List.all_eq_true] at hp
  congr 1
  refine(Array.ext h fun i h1 h2=>?_).symm
  exact(ih i _ _ (Array.getElem?_eq_getElem h1) (Array.getElem?_eq_getElem h2) (bt (hp _ (by simp)))).symm
 | tuple h _ ih =>
  simp only[Go.Proofs.YtjcbhbncncbdjaaGreatDoorAi.plain,List.all_eq_true] at hp
  congr 1
  refine(Array.ext h fun i h1 h2=>?_).symm
  exact(ih i _ _ (Array.getElem?_eq_getElem h1) (Array.getElem?_eq_getElem h2) (bt (hp _ (by simp)))).symm
 | func h1 _ h2 _ ih1 ih2 =>
  simp only[Go.Proofs.YtjcbhbncncbdjaaGreatDoorAi.plain,Bool.and_eq_true,Array.isEmpty_iff] at hp
  obtain⟨rfl,rfl⟩:=hp
  congr 1
  ·exact Array.eq_empty_of_size_eq_zero h1.symm
  ·exact Array.eq_empty_of_size_eq_zero h2.symm
 | iface _ ih =>
  simp only[Go.Proofs.YtjcbhbncncbdjaaGreatDoorAi.plain,Bool.or_eq_true] at hp
  rw[ih]
  rcases hp with hp | hp
  ·exact bt hp
  ·rename_i a b c d
   cases b<;>simp_all [Go.Proofs.YtjcbhbncncbdjaaGreatDoorAi.plain]
theorem VR.oneI {u:Value} (h:VR μ u v) (hp:one u=true):v.oneCell'=true:=by
 cases h<;>first | rfl | assumption | (simp[one] at hp; done) | skip
 cases v<;>simp_all [one,Value.oneCell']
end inv
theorem VR.cells {μ:Mu} {v v':Value} (h:VR μ v v') (h1:v.cells.toList.all one=true) :
  v'.cells.size=v.cells.size∧ ∀(k:Nat) (x y:Value),v.cells[k]? = some x→v'.cells[k]? = some y→VR μ x y∧y.oneCell'=true:=by
 by_cases ha: ∃xs,v= .agg xs
 ·obtain⟨xs,rfl⟩:=ha
  obtain⟨ys,rfl,hs,hk⟩:=h.aggI
  refine⟨hs.symm,fun k x y a b=>⟨hk k x y a b,(hk k x y a b).oneI ?_⟩⟩
  simp only[List.all_eq_true] at h1
  exact h1 x (Array.mem_toList_iff.2 (Array.mem_of_getElem? a))
 ·have hc:v.cells= #[v]:=by cases v<;>first | rfl | exact absurd ⟨_,rfl⟩ ha
  rw[hc] at h1 ⊢
  have ho:one v=true:=by simpa using h1
  have ho':=h.oneI ho
  have hc':v'.cells= #[v']:=by cases v'<;>first | rfl | (simp[Value.oneCell'] at ho')
  rw[hc']
  refine⟨rfl,fun k x y a b=>?_⟩
  cases k with
  | zero=>simp at a b; subst a; subst b; exact⟨h,ho'⟩
  | succ k=>simp at a
def upd (h:Nat→Option Blk) (i:Nat) (b:Option Blk):Nat→Option Blk:=fun j=>if j=i then b else h j
def bA (μ:Mu) (i:Nat) (L:Loc):Mu:=fun j=>if j=i then some L else μ j
theorem bn {μ:Mu} {i:Nat} {L:Loc} (h:μ i=none):aX μ (bA μ i L):=by
 intro j M e
 unfold bA
 split
 ·rename_i hj; subst hj; rw[h] at e; cases e
 ·exact e
theorem aM (μ:Mu) (i:Nat) (L:Loc):bA μ i L i=some L:=by simp[bA]
def l5:Blk→Bool
 | .row _ _ _ own=>own
 | .iter _ _=>true
def BR (μ:Mu) (B:Nat) (L:Loc) (hp:Array Obj):Blk→Prop
 | .row cs e z own=> ∃cc fz e',hp[L.blk]? = some (.cells cc e' fz)∧cc.size=L.lim∧L.esz=z∧L.off+cs.length≤L.lim ∧
   (∀(k:Nat) (x:Value),cs[k]? = some x→ ∃y,cc[L.off+k]? = some y∧VR μ x y∧y.oneCell'=true) ∧
   (own=true→B≤L.blk∧ ∀o,o<L.lim→ ¬ (fz.1≤o∧o<fz.2))∧(z=0→L.off=0∧cs.length=L.lim)∧(own=true→e'=e)
 | .iter s p=>hp[L.blk]? = some (.stringIter s p)∧B≤L.blk∧L.off=0
theorem BR.mono {μ μ':Mu} {B:Nat} {L:Loc} {hp hp':Array Obj} {b:Blk} (hm:aX μ μ') (hh:hp'[L.blk]? = hp[L.blk]?) (h:BR μ B L hp b):BR μ' B L hp' b:=by
 cases b with
 | row cs e z own =>
  obtain⟨cc,fz,e',h1,h2,h3,h4,h5,h6,h7⟩:=h
  refine⟨cc,fz,e',hh.trans h1,h2,h3,h4,fun k x e=>?_,h6,h7⟩
  obtain⟨y,a,b,c⟩:=h5 k x e
  exact⟨y,a,b.mono hm,c⟩
 | iter s p=>exact⟨hh.trans h.1,h.2⟩
theorem BR.lt {μ:Mu} {B:Nat} {L:Loc} {hp:Array Obj} {b:Blk} (h:BR μ B L hp b):L.blk<hp.size:=by
 cases b with
 | row cs e z own=>obtain⟨cc,fz,e',h1,_⟩:=h; exact(Array.getElem?_eq_some_iff.1 h1).1
 | iter s p=>exact(Array.getElem?_eq_some_iff.1 h.1).1
structure HR (μ:Mu) (B:Nat) (h:Nat→Option Blk) (hp:Array Obj):Prop where
 blk: ∀i b,h i=some b→ ∃L,μ i=some L∧BR μ B L hp b
 apart: ∀i j b c L M,i≠j→h i=some b→l5 b=true→h j=some c→μ i=some L→μ j=some M→L.blk≠M.blk
theorem HR.none_of {μ:Mu} {B:Nat} {h:Nat→Option Blk} {hp:Array Obj} (hr:HR μ B h hp) {i:Nat} (e:μ i=none):h i=none:=by
 cases hb:h i with
 | none=>rfl
 | some b=>obtain⟨L,hl,_⟩:=hr.blk i b hb; rw[e] at hl; cases hl
theorem HR.kill {μ:Mu} {B:Nat} {h:Nat→Option Blk} {hp:Array Obj} (hr:HR μ B h hp) (i:Nat):HR μ B (upd h i none) hp:=by
 refine⟨fun j b e=>?_,fun j k b c L M n e o f l m=>?_⟩
 ·unfold upd at e
  split at e
  ·cases e
  ·exact hr.blk j b e
 ·unfold upd at e f
  split at e
  ·cases e
  ·split at f
   ·cases f
   ·exact hr.apart j k b c L M n e o f l m
theorem HR.new {μ:Mu} {B:Nat} {h:Nat→Option Blk} {hp:Array Obj} (hr:HR μ B h hp) {i:Nat} (hi:μ i=none) {L:Loc} (o:Obj) {b:Blk}
  (hl:L.blk=hp.size) (hb:BR (bA μ i L) B L (hp.push o) b):HR (bA μ i L) B (upd h i (some b)) (hp.push o):=by
 have hle:=bn (L:=L) hi
 refine⟨fun j c e=>?_,fun j k c d M N n e ho f m l=>?_⟩
 ·unfold upd at e
  split at e
  ·rename_i hj; subst hj
   obtain rfl:=Option.some.inj e
   exact⟨L,aM _ _ _,hb⟩
  ·obtain⟨M,hm,hM⟩:=hr.blk j c e
   refine⟨M,hle _ _ hm,hM.mono hle ?_⟩
   have:=hM.lt
   rw[Array.getElem?_push,if_neg (by omega)]
 ·unfold upd at e f
  have old: ∀j c M,j≠i→h j=some c→bA μ i L j=some M→M.blk<hp.size:=by
   intro j c M hj hc hM
   obtain⟨M',hm',hM'⟩:=hr.blk j c hc
   have:bA μ i L j=some M':=hle _ _ hm'
   rw[this] at hM
   obtain rfl:=Option.some.inj hM
   exact hM'.lt
  split at e
  ·rename_i hj
   subst hj
   rw[aM] at m
   obtain rfl:=Option.some.inj m
   split at f
   ·rename_i hk; exact absurd hk.symm n
   ·rename_i hk; have:=old k d N hk f l; omega
  ·rename_i hj
   split at f
   ·rename_i hk
    subst hk
    rw[aM] at l
    obtain rfl:=Option.some.inj l
    have:=old j c M hj e m; omega
   ·rename_i hk
    have em:bA μ i L j=μ j:=by simp[bA,hj]
    have en:bA μ i L k=μ k:=by simp[bA,hk]
    exact hr.apart j k c d M N n e ho f (em▸m) (en▸l)
theorem HR.put {μ:Mu} {B:Nat} {h:Nat→Option Blk} {hp hp':Array Obj} (hr:HR μ B h hp) {i:Nat} {b c:Blk} {L:Loc} (hi:h i=some b) (hl:μ i=some L) (ho:l5 b=true)
  (hh: ∀k,k≠L.blk→hp'[k]? = hp[k]?) (hc:BR μ B L hp' c):HR μ B (upd h i (some c)) hp':=by
 have hne: ∀j d M,j≠i→h j=some d→μ j=some M→M.blk≠L.blk:=fun j d M hj hd hm e=>hr.apart i j b d L M (Ne.symm hj) hi ho hd hl hm e.symm
 refine⟨fun j d e=>?_,fun j k d f M N n e hod g m l=>?_⟩
 ·unfold upd at e
  split at e
  ·rename_i hj; subst hj
   obtain rfl:=Option.some.inj e
   exact⟨L,hl,hc⟩
  ·rename_i hj
   obtain⟨M,hm,hM⟩:=hr.blk j d e
   exact⟨M,hm,hM.mono (aX.refl _) (hh _ (hne j d M hj e hm))⟩
 ·unfold upd at e g
  split at e
  ·rename_i hj; subst hj
   split at g
   ·rename_i hk; exact absurd hk.symm n
   ·rename_i hk
    rw[hl] at m
    obtain rfl:=Option.some.inj m
    exact fun q=>hne k f N hk g l q.symm
  ·rename_i hj
   split at g
   ·rename_i hk; subst hk
    rw[hl] at l
    obtain rfl:=Option.some.inj l
    exact hne j d M hj e m
   ·exact hr.apart j k d f M N n e hod g m l
end Go.Proofs.YtjcbhbncncbdjaaGreatDoorAi
