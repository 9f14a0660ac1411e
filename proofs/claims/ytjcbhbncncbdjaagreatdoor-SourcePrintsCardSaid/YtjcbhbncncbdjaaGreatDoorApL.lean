/-
ApL, ApJ
-/
import Derived.Test.YtjcbhbncncbdjaaGreatDoorApG
import Derived.Test.YtjcbhbncncbdjaaGreatDoorRows
import Derived.Stop.LaidErr
import Derived.Test.YtjcbhbncncbdjaaGreatDoorApMb
import Derived.WideShapes
namespace Go.Proofs.YtjcbhbncncbdjaaGreatDoorAi
open Go Go.RowKit
set_option linter.unusedVariables false
def Gd (w:World):Prop:=(∃p t fz,w.heap[8]? = some (.cells #[.iface 249 p] t fz)∧p.oneCell'=true)∧Lib.TabIs Tryz.prog w "internal/strconv.uint64pow10" .u64 Lib.pow10Tab
noncomputable def ks0:List b9:=[⟨8,8,[.iface 249 (.chan (some 0))],1⟩,⟨6,6,jN,1⟩]
def mu0:Mu:=fun i=>if i<11 then some ⟨i,0,if i=6 then 20 else 1,1⟩ else none
theorem fN {P:Program} {w:World} {n:String} {g:Nat} {cs:Array Value} (hg:P.globalNamed n=some g) (h:w.var? P n=some cs): ∃t fz,w.heap[g]? = some (.cells cs t fz):=by
 simp only[World.var?,hg,Option.bind_some] at h
 split at h
 ·rename_i c t fz e
  obtain rfl:=Option.some.inj h
  exact⟨_,_,e⟩
 ·cases h
open Go.ChangeShapes in
theorem row_ei (u:TypeId) (h:Tryz.prog.typeName? 3 u=some "*errors.errorString"):u=249 :=
 typeName_ptr_named (nm:= "errors.errorString") (by rw[show "*" ++ "errors.errorString" = "*errors.errorString" by decide]; kernel_rfl) (by kernel_rfl) (by decide) u (by rw[show "*" ++ "errors.errorString" = "*errors.errorString" by decide]; exact h)
theorem gd_at {t:List UInt8} {r:List (String×DataW Unit)} {W:World} (h:laidMet Tryz.prog (("strconv.ErrRange",.iface "*errors.errorString" (.ptr (.agg [.lit (.string t)])))::r) W): ∃p t fz,W.heap[8]? = some (.cells #[.iface 249 p] t fz)∧p.oneCell'=true:=by
 obtain⟨a0,s0,hv,_⟩:=laid_sentinel h (g:=8) (by kernel_rfl) (by kernel_rfl) Tryz.underlying156 row_ei Tryz.underlying249 Tryz.underlying251 rfl rfl Tryz.underlying9 (by kernel_rfl) (by kernel_rfl)
 obtain⟨t,fz,e⟩:=fN (g:=8) (by kernel_rfl) hv
 exact⟨_,t,fz,e,rfl⟩
theorem gd_tab {r:List (String×DataW Unit)} {W:World} (h:laidMet Tryz.prog (("internal/strconv.uint64pow10",YtjcbhbncncbdjaaGreatDoor.Rows.laid_internal_strconv_uint64pow10)::r) W):Lib.TabIs Tryz.prog W "internal/strconv.uint64pow10" .u64 Lib.pow10Tab :=
 Lib.tabIs_of_head (g:=6) (t:=239) (e:=187) (n:=20) (by kernel_rfl) (by kernel_rfl) (by kernel_rfl) (by kernel_rfl) (by kernel_rfl) (by kernel_rfl) h
theorem gd_8 {W:World} (h:laidMet Tryz.prog YtjcbhbncncbdjaaGreatDoor.Rows.sourcePrintsRow.laid W):Gd W:=⟨gd_at h.tail.tail.tail.tail,gd_tab h.tail.tail⟩
end Go.Proofs.YtjcbhbncncbdjaaGreatDoorAi
namespace Go.Proofs.YtjcbhbncncbdjaaGreatDoorAi
open Go Go.RowKit
set_option linter.unusedVariables false
section
variable {H:Type} {enc:TypeId×Value→H} {P:Program} {w:World} {NG:Nat}
theorem arg_one {α:Type} {t:TypeId} {R:FZ→α→List Value→Prop} {B:α→Prop} {v:Value} {d:DataW H} {p:List MemPlace} (hv: ∀cs,v≠ .agg cs) (h:DataW.Trod enc P w 0 (fun _=>true) true t v d p)
  (hw:Wok P t d) (hg:GOk enc P w NG t R B) {μ:Mu} {nx:Nat} {ks:List b9} (gs:GS NG w μ nx ks): ∃μ' nx' ks' y u,GS NG w μ' nx' ks'∧nx≤nx'∧aX μ μ'∧FLe (Fk ks) (Fk ks')∧R (Fk ks') y [u]∧B y∧VR μ' u v:=by
 obtain⟨fuel,hf⟩:=h
 have hf':DataW.trod enc P w 0 (fun _=>true) true fuel t [v]=some (d,p):=by
  have e:v.cells.toList= [v]:=by
   cases v<;>first | rfl | exact absurd rfl (hv _)
  rw[← e]; exact hf
 obtain⟨μ',nx',ks',y,g,a1,a2,a3,a4,a5,a6,a7⟩:=hg fuel _ _ hf' hw μ nx ks gs
 obtain⟨u,rfl⟩: ∃u,g= [u]:=by
  have:=a7.1
  match g,this with
  | [u],_=>exact⟨u,rfl⟩
 obtain⟨v',q1,q2,_⟩:=a7.2 0 u rfl
 obtain rfl:=Option.some.inj q1
 exact⟨μ',nx',ks',y,u,a1,a2,a3,a4,a5,a6,q2⟩
end
theorem kI {w:World} {name:String} {g:Nat} (hg:Tryz.prog.globalNamed name=some g) {zs:List Int} (h:Lib.TabIs Tryz.prog w name .u64 zs): ∃t fz,w.heap[g]? = some (.cells (zs.map fun z=>Value.int .u64 z).toArray t fz):=fN hg h
theorem gs0 {w:World} (hG:Gd w):GS 11 w mu0 11 ks0:=by
 obtain⟨⟨p,t,fz,hc,h1⟩,htab⟩:=hG
 obtain⟨t2,fz2,hc2⟩:=kI (g:=6) (by kernel_rfl) htab
 have hpl:(Lib.pow10Tab.map fun z=>Value.int .u64 z).length=20:=by rw[List.length_map,Lib.pow10Tab_length]
 refine⟨fun k hk=>?_,fun k hk=>?_,fun i hi=>by unfold mu0; rw[if_neg (by omega)],fun g hg=>⟨⟨g,0,if g=6 then 20 else 1,1⟩,if_pos hg,rfl,rfl,fun e=>if_pos e⟩,Nat.le_refl _,8,_,_,(dA _ _ _).trans (if_pos rfl)⟩
 ·rcases List.mem_cons.1 hk with rfl | hk
  ·refine⟨⟨8,0,1,1⟩,_,_,_,rfl,rfl,hc,rfl,Nat.le_refl _,by decide,fun i x hx=>?_⟩
   match i,hx with
   | 0,hx =>
    obtain rfl:=Option.some.inj hx
    exact⟨.iface 249 p,rfl,.iface (.some1 h1),rfl⟩
   | i+1,hx=>simp at hx
  ·obtain rfl:=List.mem_singleton.1 hk
   refine⟨⟨6,0,20,1⟩,_,_,_,rfl,rfl,hc2,by simp[Lib.pow10Tab_length],by show 0+jN.length≤20; unfold jN; rw[hpl]; decide,by decide,fun i x hx=>?_⟩
   have hx':(Lib.pow10Tab.map fun z=>Value.int .u64 z)[i]? = some x:=hx
   refine⟨x,by simpa using hx',?_⟩
   rw[List.getElem?_map,Option.map_eq_some_iff] at hx'
   obtain⟨z,_,rfl⟩:=hx'
   exact⟨.plain rfl,rfl⟩
 ·rcases List.mem_cons.1 hk with rfl | hk
  ·show 8<11
   decide
  ·obtain rfl:=List.mem_singleton.1 hk
   show 6<11
   decide
theorem gl0:Gl (Fk ks0):=⟨(dA _ _ _).trans (if_pos rfl),(dA _ _ _).trans ((if_neg (by decide)).trans ((dA _ _ _).trans (if_pos rfl)))⟩
theorem calls_M {w:World} {μ:Mu} {nx:Nat} {ks:List b9} (gs:GS 11 w μ nx ks) {g:FuncId} {fn:Func} {args:List Value} {wargs:Array Value} (hA:dk μ args wargs) (hf:Tryz.prog.funcs[g]? = some fn) (hb:fn.body.isSome=true) (ho: ∀H nx,fi g args H nx=none) {v:Value} (hv:plain v=true)
  (h:Cl EV g args [] (Fk ks) fun v' S' F'=>v'=v):Calls Tryz.prog g wargs w fun e w'=>e= .returned v∧Below w.heap.size w w':=by
 have hM:=mem_k gs
 obtain⟨v',S',F',H',nx',ms,⟨n0,hr⟩,_,_,_,_,rfl⟩:=h (ba ks) nx [] hM
 have hrun:run EV n0 g args (ba ks) nx=some (v',H',nx',ms):=by
  have:=hr n0 (Nat.le_refl _)
  rw[show EV.P.funcs[g]? = some fn from hf] at this
  obtain⟨b,hb'⟩:=Option.isSome_iff_exists.1 hb
  have h2:bR EV (run EV n0) g args (ba ks) nx fn=some (v',H',nx',ms):=this
  unfold bR at h2
  rw[hb'] at h2
  have h3:dH (fi g args (ba ks) nx) (run EV n0 g args (ba ks) nx)=some (v',H',nx',ms):=h2
  rw[ho] at h3
  exact h3
 have hr0:HR μ w.heap.size (bd (ba ks) (fun _=>none)) w.heap:=gS gs.lies
 refine Calls.mono ((ox ev n0).1 g args (ba ks) nx _ hrun μ w.heap.size (fun _=>none) w wargs hM.wf hA hr0 (fun i hi=>absurd rfl hi) (fun i hi _=>gs.fresh i hi) gs.glob (Nat.le_refl _)) fun e w' hR=>?_
 obtain⟨v2,rfl,μ',h1,_,_,_,_,h6⟩:=hR
 have:=h1.plainI hv
 subst this
 exact⟨rfl,h6⟩
theorem o5 (μ:Mu):dk μ [] #[]:=⟨rfl,fun k x y h _=>by simp at h⟩
theorem nl {μ:Mu} {u v:Value} {us vs:List Value} (h:VR μ u v) (r:dk μ us vs.toArray):dk μ (u::us) (v::vs).toArray:=⟨by have:=r.1; simpa using this,fun k x y hx hy=>by
 match k,hx,hy with
 | 0,hx,hy =>
  obtain rfl:=Option.some.inj hx
  have hy':some v=some y:=by simpa using hy
  obtain rfl:=Option.some.inj hy'
  exact h
 | k+1,hx,hy=>exact r.2 k x y (by simpa using hx) (by simpa using hy)⟩
end Go.Proofs.YtjcbhbncncbdjaaGreatDoorAi
