/-
ApL
-/
import Derived.Test.YtcafgoomipkljaaGreatDoorApG
import Derived.Test.YtcafgoomipkljaaGreatDoorRows
import Derived.Stop.LaidErr
namespace Go.Proofs.YtcafgoomipkljaaGreatDoorAi
open Go Go.RowKit
set_option linter.unusedVariables false
def Gd (w:World):Prop:= ∃p t fz,w.heap[2]? = some (.cells #[.iface 172 p] t fz)∧p.oneCell'=true
noncomputable def ks0:List nt:=[⟨2,2,[.iface 172 (.chan (some 0))],1⟩]
noncomputable def F0:FZ:=fun i=>if i=2 then some (.row [.iface 172 (.chan (some 0))] 0 1 false) else none
theorem gl0:Gl F0:=rfl
theorem s8 (i:Nat):(cD ks0).get i=F0 i:=by
 show(Tr.set .e 2 _).get i=_
 rw[Tr.get_set,Tr.get_e]; rfl
theorem f0_lt {i:Nat} {b:Blk} (e:F0 i=some b):i<8:=by
 unfold F0 at e
 split at e
 ·omega
 ·cases e
theorem mem0:Mem (cD ks0) 8 [] F0 :=
 ⟨fun p hp=>by simp at hp,List.nodup_nil,fun i b e=>⟨(s8 i).trans e,f0_lt e,fun h=>by simp[ar] at h⟩,fun i hi=>by rw[s8]; unfold F0; rw[if_neg (by omega)]⟩
def mu0:Mu:=fun i=>if i<8 then some ⟨i,0,1,1⟩ else none
theorem s9 {g:FuncId} {fn:Func} {args:List Value} (hf:Tryz.prog.funcs[g]? = some fn) (hb:fn.body.isSome=true) (ho: ∀H nx,g0 g args H nx=none) (hp:bJ args=true) {v:Value} (hv:plain v=true)
  (h:Cl EV g args [] F0 fun v' S' F'=>v'=v) (w:World) (hG:Gd w):Calls Tryz.prog g args.toArray w fun e w'=>e= .returned v∧Below w.heap.size w w':=by
 obtain⟨v',S',F',H',nx',ms,⟨n0,hr⟩,_,_,_,_,rfl⟩:=h (cD ks0) 8 [] mem0
 have hrun:run EV n0 g args (cD ks0) 8=some (v',H',nx',ms):=by
  have:=hr n0 (Nat.le_refl _)
  rw[show EV.P.funcs[g]? = some fn from hf] at this
  obtain⟨b,hb'⟩:=Option.isSome_iff_exists.1 hb
  have h2:cO EV (run EV n0) g args (cD ks0) 8 fn=some (v',H',nx',ms):=this
  unfold cO at h2
  rw[hb'] at h2
  have h3:ga (g0 g args (cD ks0) 8) (run EV n0 g args (cD ks0) 8)=some (v',H',nx',ms):=h2
  rw[ho] at h3
  exact h3
 have hA:gM mu0 args args.toArray:=⟨by simp,fun k x y p q=>by
  have q':args[k]? = some y:=by simpa using q
  rw[p] at q'
  obtain rfl:=Option.some.inj q'
  rw[bJ,List.all_eq_true] at hp
  exact .plain (hp x (List.mem_of_getElem? p))⟩
 obtain⟨p,t,fz,hc,h1⟩:=hG
 have hr0:HR mu0 w.heap.size (cm (cD ks0) (fun _=>none)) w.heap:=by
  refine oQ fun k hk=>?_
  obtain rfl:=List.mem_singleton.1 hk
  refine⟨⟨2,0,1,1⟩,_,_,_,rfl,rfl,hc,rfl,Nat.le_refl _,by decide,fun i x hx=>?_⟩
  match i,hx with
  | 0,hx =>
   obtain rfl:=Option.some.inj hx
   exact⟨.iface 172 p,rfl,.iface (.some1 h1),rfl⟩
  | i+1,hx=>simp at hx
 refine Calls.mono ((run_ok ev n0).1 g args (cD ks0) 8 _ hrun mu0 w.heap.size (fun _=>none) w args.toArray mem0.wf hA hr0 (fun i hi=>absurd rfl hi) (fun i hi _=>by unfold mu0; rw[if_neg (by omega)]) (fun g hg=>⟨⟨g,0,1,1⟩,if_pos hg,rfl,rfl⟩) (Nat.le_refl _)) fun e w' hR=>?_
 obtain⟨v2,rfl,μ',h1,_,_,_,_,h6⟩:=hR
 have:=h1.plainI hv
 subst this
 exact⟨rfl,h6⟩
theorem nH {P:Program} {w:World} {n:String} {g:Nat} {cs:Array Value} (hg:P.globalNamed n=some g) (h:w.var? P n=some cs): ∃t fz,w.heap[g]? = some (.cells cs t fz):=by
 simp only[World.var?,hg,Option.bind_some] at h
 split at h
 ·rename_i c t fz e
  obtain rfl:=Option.some.inj h
  exact⟨_,_,e⟩
 ·cases h
open Go.ChangeShapes in
theorem row_ei (u:TypeId) (h:Tryz.prog.typeName? 3 u=some "*errors.errorString"):u=172 :=
 typeName_ptr_named (nm:= "errors.errorString") (by rw[show "*" ++ "errors.errorString" = "*errors.errorString" by decide]; kernel_rfl) (by kernel_rfl) (by decide) u (by rw[show "*" ++ "errors.errorString" = "*errors.errorString" by decide]; exact h)
theorem gd_at {t:List UInt8} {r:List (String×DataW Unit)} {W:World} (h:laidMet Tryz.prog (("strconv.ErrRange",.iface "*errors.errorString" (.ptr (.agg [.lit (.string t)])))::r) W):Gd W:=by
 obtain⟨a0,s0,hv,_⟩:=laid_sentinel h (g:=2) (by kernel_rfl) (by kernel_rfl) Tryz.underlying83 row_ei Tryz.underlying172 Tryz.underlying174 rfl rfl Tryz.underlying9 (by kernel_rfl) (by kernel_rfl)
 obtain⟨t,fz,e⟩:=nH (g:=2) (by kernel_rfl) hv
 exact⟨_,t,fz,e,rfl⟩
theorem gd_10 {W:World} (h:laidMet Tryz.prog YtcafgoomipkljaaGreatDoor.Rows.classifyNamesRow.laid W):Gd W:=gd_at h.tail.tail.tail.tail
end Go.Proofs.YtcafgoomipkljaaGreatDoorAi
