/-
ApL, ApJ
-/
import Derived.Test.YtjcbhbncncbdjaaGreatDoorApG
import Derived.Test.YtjcbhbncncbdjaaGreatDoorRows
import Derived.Stop.LaidErr
import Derived.Test.YtjcbhbncncbdjaaGreatDoorApMb
import Derived.WideShapes
namespace Go.Proofs.YtjcbhbncncbdjaaGreatDoorAi
open Go Go.RowKit
set_option linter.unusedVariables false
def Gd (w:World):Prop:= ∃p t fz,w.heap[8]? = some (.cells #[.iface 249 p] t fz)∧p.oneCell'=true
noncomputable def ks0:List cS:=[⟨8,8,[.iface 249 (.chan (some 0))],1⟩]
noncomputable def F0:FZ:=fun i=>if i=8 then some (.row [.iface 249 (.chan (some 0))] 0 1 false) else none
def mu0:Mu:=fun i=>if i<11 then some ⟨i,0,1,1⟩ else none
theorem mM {P:Program} {w:World} {n:String} {g:Nat} {cs:Array Value} (hg:P.globalNamed n=some g) (h:w.var? P n=some cs): ∃t fz,w.heap[g]? = some (.cells cs t fz):=by
 simp only[World.var?,hg,Option.bind_some] at h
 split at h
 ·rename_i c t fz e
  obtain rfl:=Option.some.inj h
  exact⟨_,_,e⟩
 ·cases h
open Go.ChangeShapes in
theorem row_ei (u:TypeId) (h:Tryz.prog.typeName? 3 u=some "*errors.errorString"):u=249 :=
 typeName_ptr_named (nm:= "errors.errorString") (by rw[show "*" ++ "errors.errorString" = "*errors.errorString" by decide]; kernel_rfl) (by kernel_rfl) (by decide) u (by rw[show "*" ++ "errors.errorString" = "*errors.errorString" by decide]; exact h)
theorem gd_at {t:List UInt8} {r:List (String×DataW Unit)} {W:World} (h:laidMet Tryz.prog (("strconv.ErrRange",.iface "*errors.errorString" (.ptr (.agg [.lit (.string t)])))::r) W):Gd W:=by
 obtain⟨a0,s0,hv,_⟩:=laid_sentinel h (g:=8) (by kernel_rfl) (by kernel_rfl) Tryz.underlying156 row_ei Tryz.underlying249 Tryz.underlying251 rfl rfl Tryz.underlying9 (by kernel_rfl) (by kernel_rfl)
 obtain⟨t,fz,e⟩:=mM (g:=8) (by kernel_rfl) hv
 exact⟨_,t,fz,e,rfl⟩
theorem gd_6 {W:World} (h:laidMet Tryz.prog YtjcbhbncncbdjaaGreatDoor.Rows.sourceTextsRow.laid W):Gd W:=gd_at h.tail.tail.tail.tail
end Go.Proofs.YtjcbhbncncbdjaaGreatDoorAi
namespace Go.Proofs.YtjcbhbncncbdjaaGreatDoorAi
open Go Go.RowKit
set_option linter.unusedVariables false
section
variable {H:Type} {enc:TypeId×Value→H} {P:Program} {w:World} {NG:Nat}
theorem rT {t:TypeId} (ht:P.underlying t=some .bool):GOk enc P w NG t (fun _ (y:Bool) g=>g= [.bool y]) (fun _=>True):=by
 intro fuel cs x h _ μ nx ks g
 obtain⟨n,rfl,_⟩:=DataW.trod_bool ht h
 exact⟨μ,nx,ks,n,_,g,Nat.le_refl _,bD.refl μ,FLe.refl _,rfl,trivial,rL (.plain rfl) rfl⟩
theorem vr_agg {μ:Mu} {g:List Value} {cs:Array Value} (h:Cov μ g cs.toList):VR μ (.agg g.toArray) (.agg cs):= .agg (by have:=h.1; simpa using this) fun k x y hx hy=>by
 obtain⟨v,a,b,_⟩:=h.2 k x (by simpa using hx)
 have a':cs[k]? = some v:=by simpa using a
 rw[a'] at hy
 obtain rfl:=Option.some.inj hy
 exact b
theorem arg_agg {α:Type} {t:TypeId} {fs:Array Field} {R:FZ→α→List Value→Prop} {B:α→Prop} {v:Value} {d:DataW H} {p:List MemPlace} {r:Reach} {b0:Nat} (hu:P.underlying t=some (.struct fs)) (hv:Value.okWide P w r b0 t v) (h:DataW.Trod enc P w 0 (fun _=>true) true t v d p)
  (hw:Wok P t d) (hg:GOk enc P w NG t R B) {μ:Mu} {nx:Nat} {ks:List cS} (gs:GS NG w μ nx ks): ∃μ' nx' ks' y g,GS NG w μ' nx' ks'∧nx≤nx'∧bD μ μ'∧FLe (Fk ks) (Fk ks')∧R (Fk ks') y g∧B y∧VR μ' (.agg g.toArray) v:=by
 obtain⟨cs,rfl,_⟩:=Go.WideShapes.okWide_struct hu hv
 obtain⟨fuel,hf⟩:=h
 have hf':DataW.trod enc P w 0 (fun _=>true) true fuel t cs.toList=some (d,p):=by simpa[Value.cells] using hf
 obtain⟨μ',nx',ks',y,g,a1,a2,a3,a4,a5,a6,a7⟩:=hg fuel _ _ hf' hw μ nx ks gs
 exact⟨μ',nx',ks',y,g,a1,a2,a3,a4,a5,a6,vr_agg a7⟩
end
theorem gs0 {w:World} (hG:Gd w):GS 11 w mu0 11 ks0:=by
 obtain⟨p,t,fz,hc,h1⟩:=hG
 refine⟨fun k hk=>?_,fun k hk=>?_,fun i hi=>by unfold mu0; rw[if_neg (by omega)],fun g hg=>⟨⟨g,0,1,1⟩,if_pos hg,rfl,rfl⟩,Nat.le_refl _,8,_,_,(iN _ _ _).trans (if_pos rfl)⟩
 ·obtain rfl:=List.mem_singleton.1 hk
  refine⟨⟨8,0,1,1⟩,_,_,_,rfl,rfl,hc,rfl,Nat.le_refl _,by decide,fun i x hx=>?_⟩
  match i,hx with
  | 0,hx =>
   obtain rfl:=Option.some.inj hx
   exact⟨.iface 249 p,rfl,.iface (.some1 h1),rfl⟩
  | i+1,hx=>simp at hx
 ·obtain rfl:=List.mem_singleton.1 hk
  show 8<11
  decide
theorem calls_M {w:World} {μ:Mu} {nx:Nat} {ks:List cS} (gs:GS 11 w μ nx ks) {g:FuncId} {fn:Func} {args:List Value} {wargs:Array Value} (hA:eA μ args wargs) (hf:Tryz.prog.funcs[g]? = some fn) (hb:fn.body.isSome=true) (ho: ∀H nx,gL g args H nx=none) {v:Value} (hv:plain v=true)
  (h:Cl EV g args [] (Fk ks) fun v' S' F'=>v'=v):Calls Tryz.prog g wargs w fun e w'=>e= .returned v∧Below w.heap.size w w':=by
 have hM:=mem_k gs
 obtain⟨v',S',F',H',nx',ms,⟨n0,hr⟩,_,_,_,_,rfl⟩:=h (bH ks) nx [] hM
 have hrun:run EV n0 g args (bH ks) nx=some (v',H',nx',ms):=by
  have:=hr n0 (Nat.le_refl _)
  rw[show EV.P.funcs[g]? = some fn from hf] at this
  obtain⟨b,hb'⟩:=Option.isSome_iff_exists.1 hb
  have h2:cF EV (run EV n0) g args (bH ks) nx fn=some (v',H',nx',ms):=this
  unfold cF at h2
  rw[hb'] at h2
  have h3:fQ (gL g args (bH ks) nx) (run EV n0 g args (bH ks) nx)=some (v',H',nx',ms):=h2
  rw[ho] at h3
  exact h3
 have hr0:HR μ w.heap.size (cj (bH ks) (fun _=>none)) w.heap:=jy gs.lies
 refine Calls.mono ((rr ev n0).1 g args (bH ks) nx _ hrun μ w.heap.size (fun _=>none) w wargs hM.wf hA hr0 (fun i hi=>absurd rfl hi) (fun i hi _=>gs.fresh i hi) gs.glob (Nat.le_refl _)) fun e w' hR=>?_
 obtain⟨v2,rfl,μ',h1,_,_,_,_,h6⟩:=hR
 have:=h1.plainI hv
 subst this
 exact⟨rfl,h6⟩
theorem rU (μ:Mu):eA μ [] #[]:=⟨rfl,fun k x y h _=>by simp at h⟩
theorem qq {μ:Mu} {u v:Value} {us vs:List Value} (h:VR μ u v) (r:eA μ us vs.toArray):eA μ (u::us) (v::vs).toArray:=⟨by have:=r.1; simpa using this,fun k x y hx hy=>by
 match k,hx,hy with
 | 0,hx,hy =>
  obtain rfl:=Option.some.inj hx
  have hy':some v=some y:=by simpa using hy
  obtain rfl:=Option.some.inj hy'
  exact h
 | k+1,hx,hy=>exact r.2 k x y (by simpa using hx) (by simpa using hy)⟩
set_option maxRecDepth 100000 in
theorem gok_text {H:Type} {enc:TypeId×Value→H} {w:World} {NG:Nat}:GOk enc Tryz.prog w NG 38 (fun F (y:List UInt8×Bool×List (List UInt8)) g=> ∃a z,g= [aa y.1,.bool y.2.1,.slice a y.2.2.length z]∧Frz (elS 9) F a z y.2.2) (fun y=>y.2.2.length*16≤reachBytes) :=
 (mK Tryz.underlying38 rfl rfl rfl (by kernel_rfl) (by kernel_rfl) (by kernel_rfl) (by kernel_rfl) (fun _ h=>h) (fun _ h=>h)
  (oV Tryz.underlying9) (rT Tryz.underlying4) (qm (d:=elS 9) Tryz.underlying36 (oV Tryz.underlying9) (by kernel_rfl))).as
  (fun {F y g} h=>by
   obtain⟨a,b,c,rfl,h0,h1,p,z,h2,h3⟩:=h
   obtain rfl:=(List.cons.inj h0).1
   obtain rfl:=(List.cons.inj h1).1
   obtain rfl:=(List.cons.inj h2).1
   exact⟨p,z,rfl,h3⟩)
  (fun y h=>h.2.2.2)
end Go.Proofs.YtjcbhbncncbdjaaGreatDoorAi
