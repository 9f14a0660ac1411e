/-
ApA, ApQ, ApR
-/
import Derived.Test.YtjcbhbncncbdjaaGreatDoorApMa
namespace Go.Proofs.YtjcbhbncncbdjaaGreatDoorAi
open Go Go.RowKit
set_option linter.unusedVariables false
set_option linter.unusedSimpArgs false
set_option linter.unusedSectionVars false

section
variable {P : Program} {nx : Nat} {ty : TypeId} {ρ : Operand → Value} {b : Option Blk} {x y : Operand} {v : Value} {k : IntKind} {m n : Int}
theorem toL (l : List UInt8) : (⟨l.toArray⟩ : ByteArray).data.toList = l := rfl
theorem sizeL (l : List UInt8) : (⟨l.toArray⟩ : ByteArray).size = l.length := rfl
theorem aop_lenS {args : Array Operand} {ats : Array TypeId} {t : TypeId} {l : List UInt8} (ha : args.toList = [x]) (ht : ats[0]? = some t) (hu : P.underlying t = some .string) (hx : ρ x = strV l) : aopOf (.call ⟨.builtin .len, args, ats⟩) P nx ty ρ b = some (.int .i64 (l.length : Nat), .none) := by
  show bLen P ats ty (args.toList.map ρ) b = _
  rw [ha]
  show bLenP P ats (ρ x) = _
  unfold bLenP
  rw [ht, hx, Option.bind_some, hu]; rfl
theorem aop_lenSl {args : Array Operand} {ats : Array TypeId} {t e : TypeId} {a : Option Addr} {j z : Nat} (ha : args.toList = [x]) (ht : ats[0]? = some t) (hu : P.underlying t = some (.slice e)) (hx : ρ x = .slice a j z) : aopOf (.call ⟨.builtin .len, args, ats⟩) P nx ty ρ b = some (.int .i64 (j : Nat), .none) := by
  show bLen P ats ty (args.toList.map ρ) b = _
  rw [ha]
  show bLenP P ats (ρ x) = _
  unfold bLenP
  rw [ht, hx, Option.bind_some, hu]; rfl
theorem aop_idxS {t : TypeId} {l : List UInt8} {i : Int} (hu : P.underlying t = some .string) (hx : ρ x = strV l) (hy : ρ y = .int k i) (hc : 0 ≤ i ∧ i < (l.length : Int)) : aopOf (.index t x y) P nx ty ρ b = some (vB (gt l i), .none) := by
  show noEff (indexV P t (ρ x) (ρ y)) = _
  rw [hx, hy]
  show noEff (bif isStrT P t then indexS ⟨l.toArray⟩ i else none) = _
  unfold isStrT
  rw [hu]
  show noEff (indexS ⟨l.toArray⟩ i) = _
  unfold indexS
  rw [if_pos hc.1, nth_eq]
  show noEff (match l[i.toNat]? with | some b => some (Value.int .u8 b.toNat) | none => none) = _
  have : i.toNat < l.length := by omega
  rw [List.getElem?_eq_getElem this]
  show some (Value.int .u8 ((l[i.toNat]).toNat : Int), Eff.none) = _
  unfold gt
  rw [List.getD_eq_getElem?_getD, List.getElem?_eq_getElem this]; rfl
theorem aop_pickT {c : Operand} (hc : ρ c = .bool true) (hx : ρ x = v) : aopOf (.pick c x y) P nx ty ρ b = some (v, .none) := aop_pick hc hx rfl
theorem aop_pickF {c : Operand} (hc : ρ c = .bool false) (hy : ρ y = v) : aopOf (.pick c x y) P nx ty ρ b = some (v, .none) := aop_pick hc rfl hy
/-- A piece of a list. -/
def mid {α : Type} (l : List α) (i j : Int) : List α := (l.take j.toNat).drop i.toNat
theorem slB_eq {l : List UInt8} {i j : Int} (hc : 0 ≤ i ∧ i ≤ j ∧ j ≤ (l.length : Int)) : slB i j ⟨l.toArray⟩ = some (strV (mid l i j)) := by
  unfold slB
  rw [if_pos ⟨hc.1, hc.2.1, by rw [sizeL]; exact hc.2.2⟩]
  congr 2
  apply ByteArray.ext
  rw [ByteArray.data_extract]
  simp [mid, List.extract_eq_take_drop, List.drop_take]
theorem aop_slS {t : TypeId} {l : List UInt8} {lo hi : Option Operand} {i j : Int} (hu : P.underlying t = some .string) (hx : ρ x = strV l) (hl : bound (lo.map ρ) 0 = some i) (hh : bound (hi.map ρ) l.length = some j) (hc : 0 ≤ i ∧ i ≤ j ∧ j ≤ (l.length : Int)) :
    aopOf (.slice t x lo hi none) P nx ty ρ b = some (strV (mid l i j), .none) := by
  show noEff (aSlice P t (ρ x) (lo.map ρ) (hi.map ρ)) = _
  rw [hx]
  show noEff (bif isStrT P t then slStr ⟨l.toArray⟩ (bound (lo.map ρ) 0) (bound (hi.map ρ) (⟨l.toArray⟩ : ByteArray).size) else none) = _
  unfold isStrT
  rw [hu, sizeL, hl, hh]
  show noEff (slB i j ⟨l.toArray⟩) = _
  rw [slB_eq hc]; rfl
theorem aop_u8sub {t u : TypeId} {a c : UInt8} (hx : ρ x = vB a) (hy : ρ y = vB c) : aopOf (.binOp .sub t x y u) P nx ty ρ b = some (vB (a - c), .none) := by
  refine aop_int hx hy ?_
  show some (Value.int .u8 (IntKind.u8.wrap (Int.sub a.toNat c.toNat))) = some (vB (a - c))
  have h1 := a.toNat_lt
  have h2 := c.toNat_lt
  have : IntKind.u8.wrap (Int.sub a.toNat c.toNat) = ((a - c).toNat : Int) := by
    rw [UInt8.toNat_sub]
    show ((a.toNat : Int) - c.toNat) % 256 = _
    omega
  rw [this]
theorem aop_fa {s : TypeId} {f i off sz ad ad' : Nat} {ft : Nat} (hx : ρ x = .pointer (some ⟨i, ad, none⟩)) (hf : fieldAt P s f = some (off, sz, ft)) (hz : Nat.beq sz 0 = false) (had : ad + off = ad') : aopOf (.fieldAddr s x f) P nx ty ρ b = some (.pointer (some ⟨i, ad', none⟩), .none) := by
  subst had
  exact aop_fieldAddr hx hf (fun e => by subst e; cases hz)
theorem aop_ext {i : Nat} {vs : Array Value} (hx : ρ x = .tuple vs) (hi : nth vs.toList i = some v) : aopOf (.extract x i) P nx ty ρ b = some (v, .none) := by
  show noEff (extractV i (ρ x)) = _
  rw [hx]
  show noEff (nth vs.toList i) = _
  rw [hi]; rfl
theorem aop_nilp {i ad : Nat} (h : ρ x = .pointer (some ⟨i, ad, none⟩)) : aopOf (.nilCheck x) P nx ty ρ b = some (.pointer (some ⟨i, ad, none⟩), .none) := aop_nil h
/-- Where the fields of a struct begin, and how many cells they have. -/
noncomputable def plOf (P : Program) (t : TypeId) : Option (List (Nat × Nat)) := match P.underlying t with | some (.struct fs) => placesOf P fs.toList | _ => none
/-- A struct of its parts. -/
theorem aop_bld {t : TypeId} {ps : Array (Nat × Operand)} {z cs : List Value} {pl : List (Nat × Nat)} (hz : zeroOf P t = some z) (hp : plOf P t = some pl) (parts : List (Nat × Value)) (hps : ps.toList.map (fun p => (p.1, ρ p.2)) = parts) (hf : fillL (nth pl) z parts = some cs) : aopOf (.build t ps) P nx ty ρ b = some (.agg cs.toArray, .none) := by
  show noEff (aBuild P t (ps.toList.map fun p => (p.1, ρ p.2))) = _
  rw [hps]
  unfold aBuild
  rw [hz]
  show noEff (bldU P z parts (P.underlying t)) = _
  unfold plOf at hp
  split at hp
  · rename_i fs hu
    rw [hu]
    show noEff (bldS z parts (placesOf P fs.toList)) = _
    rw [hp]
    show noEff (aggOf (fillL (nth pl) z parts)) = _
    rw [hf]; rfl
  · cases hp
theorem aop_bldA {t e : TypeId} {ps : Array (Nat × Operand)} {z cs : List Value} {len n : Nat} (hz : zeroOf P t = some z) (hu : P.underlying t = some (.array len e)) (hp : szOf P e = some n) (parts : List (Nat × Value)) (hps : ps.toList.map (fun p => (p.1, ρ p.2)) = parts) (hf : fillL (fun i => some (i * n, n)) z parts = some cs) : aopOf (.build t ps) P nx ty ρ b = some (.agg cs.toArray, .none) := by
  show noEff (aBuild P t (ps.toList.map fun p => (p.1, ρ p.2))) = _
  rw [hps]
  unfold aBuild
  rw [hz]
  show noEff (bldU P z parts (P.underlying t)) = _
  rw [hu]
  show noEff (bldA z parts (szOf P e)) = _
  rw [hp]
  show noEff (aggOf (fillL (fun i => some (i * n, n)) z parts)) = _
  rw [hf]; rfl
theorem aop_bsl {t e : TypeId} {len sz : Nat} {ps : Array (Nat × Operand)} {z cs : List Value} (hu : P.underlying t = some (.slice e)) (hs : szOf P e = some sz) (hz : zeroOf P e = some z) (hok : (Nat.ble 1 sz && Nat.beq z.length sz && Nat.ble (len * sz) 16777216) = true) (parts : List (Nat × Value)) (hps : ps.toList.map (fun p => (p.1, ρ p.2)) = parts) (hf : fillL (fun i => some (i * sz, sz)) (repL z len) parts = some cs) :
    aopOf (.buildSlice t len ps) P nx ty ρ b = some (.slice (some ⟨nx, 0, none⟩) len sz, .new (.row cs e sz true)) := by
  show aBuildSlice P nx t len (ps.toList.map fun p => (p.1, ρ p.2)) = _
  rw [hps]
  unfold aBuildSlice
  simp only [hu, hs, hz, hok, cond_true, hf, Option.map_some]
theorem aop_box {t : TypeId} {u : Value} (hx : ρ x = u) (ho : u.cells.toList.all one = true) (cs : List Value) (hc : u.cells.toList = cs) : aopOf (.box t x) P nx ty ρ b = some (.pointer (some ⟨nx, 0, none⟩), .new (.row cs t 0 true)) := by
  show boxV nx t (ρ x) = _
  rw [hx]
  unfold boxV
  rw [cond_t ho, hc]
theorem aop_alloc {t : TypeId} {z : List Value} (hz : zeroOf P t = some z) : aopOf (.alloc t) P nx ty ρ b = some (.pointer (some ⟨nx, 0, none⟩), .new (.row z t 0 true)) := by
  show oAlloc t P nx ty ρ b = _
  unfold oAlloc
  rw [hz]
theorem aop_ia {t : TypeId} {i ad len c sz : Nat} {j : Int} (hx : ρ x = .slice (some ⟨i, ad, none⟩) len c) (hy : ρ y = .int k j) (hn : elemS P t = some sz) (hc : 0 ≤ j ∧ j < (len : Int)) : aopOf (.indexAddr t x y) P nx ty ρ b = some (.pointer (some ⟨i, ad + j.toNat * sz, none⟩), .none) := aop_indexAddr hx hy hn hc.1 hc.2
theorem aop_cvi {s t : TypeId} {k2 : IntKind} (hx : ρ x = .int k n) (hs : P.underlying s = some (.int k)) (ht : P.underlying t = some (.int k2)) : aopOf (.convert s t x) P nx ty ρ b = some (.int k2 (k2.wrap n), .none) := by
  show aConvert P nx s t (ρ x) b = _
  rw [hx]
  unfold aConvert
  show (match cvI P s t n with | some r => some r | none => cvG P s t (.int k n)) = _
  unfold cvI
  rw [hs, ht]
/-- string(row of bytes). -/
theorem bytesOf_cells {e : TypeId} {F : FZ} : ∀ {l : List UInt8} {cs : List Value}, Cells (elB e) F l cs → bytesOf? cs = some l
  | [], cs, h => by rw [h]; rfl
  | x :: l, cs, ⟨c, r, e, h1, h2⟩ => by
    have h1 : c = [vB x] := h1
    subst h1
    rw [e]
    show (match byteV (vB x), bytesOf? r with | some b, some l => some (b :: l) | _, _ => none) = _
    rw [bytesOf_cells h2]
    show some (UInt8.ofNat (x.toNat : Int).toNat :: l) = _
    simp
theorem aop_cvstr {s t e e2 : TypeId} {i off len z : Nat} {l : List UInt8} {cs cs2 : List Value} {e3 : TypeId} {z3 : Nat} {own : Bool} {F : FZ} (hx : ρ x = .slice (some ⟨i, off, none⟩) len z) (hs : P.underlying s = some (.slice e)) (hb : isByteT P e = true) (ht : P.underlying t = some .string) (hc : Cells (elB e2) F l cs2) (htk : take? cs off len = some cs2) :
    aopOf (.convert s t x) P nx ty ρ (some (.row cs e3 z3 own)) = some (strV l, .none) := by
  show aConvert P nx s t (ρ x) (some (.row cs e3 z3 own)) = _
  rw [hx]
  unfold aConvert
  show (match cvSl P s t (some ⟨i, off, none⟩) len (some (.row cs e3 z3 own)) with | some r => some r | none => cvG P s t _) = _
  unfold cvSl
  rw [hs, ht]
  simp only [hb, cond_true, htk]
  unfold toStr
  simp only [bytesOf_cells hc]
theorem aop_cvstr0 {s t e : TypeId} (hx : ρ x = .slice none 0 0) (hs : P.underlying s = some (.slice e)) (hb : isByteT P e = true) (ht : P.underlying t = some .string) : aopOf (.convert s t x) P nx ty ρ none = some (strV [], .none) := by
  show aConvert P nx s t (ρ x) none = _
  rw [hx]
  unfold aConvert
  show (match cvSl P s t none 0 none with | some r => some r | none => cvG P s t _) = _
  unfold cvSl
  rw [hs, ht]
  simp only [hb, cond_true]; rfl
theorem aop_seq {t u : TypeId} {l r : List UInt8} (hx : ρ x = strV l) (hy : ρ y = strV r) : aopOf (.binOp .eql t x y u) P nx ty ρ b = some (.bool (decide (l = r)), .none) := by
  refine aop_str hx hy ?_
  show some (Value.bool (eqB l r)) = _
  rw [eqB_eq]
  by_cases h : l = r <;> simp [h]
theorem aop_sne {t u : TypeId} {l r : List UInt8} (hx : ρ x = strV l) (hy : ρ y = strV r) : aopOf (.binOp .neq t x y u) P nx ty ρ b = some (.bool (!decide (l = r)), .none) := by
  refine aop_str hx hy ?_
  show some (Value.bool (!eqB l r)) = _
  rw [eqB_eq]
  by_cases h : l = r <;> simp [h]
theorem aop_sadd {t u : TypeId} {l r : List UInt8} (hx : ρ x = strV l) (hy : ρ y = strV r) (hb : l.length + r.length < 1000000000) : aopOf (.binOp .add t x y u) P nx ty ρ b = some (strV (l ++ r), .none) := by
  refine aop_str hx hy ?_
  show (if l.length + r.length ≤ 9223372036854775807 then some (Value.string (⟨l.toArray⟩ ++ ⟨r.toArray⟩)) else none) = _
  rw [if_pos (by omega)]
  congr 2
end
end Go.Proofs.YtjcbhbncncbdjaaGreatDoorAi

namespace Go.Proofs.YtjcbhbncncbdjaaGreatDoorAi
open Go Go.RowKit
set_option linter.unusedVariables false
set_option linter.unusedSimpArgs false
set_option linter.unusedSectionVars false

section
variable {E : Env} {s : St} {kn : Kn} {S : List Seg} {F : FZ} {L : List Seg} {F0 : FZ} {nx0 : Nat} {l : List Oper} {ops : Array Oper} {o : Oper} {Q : St → Prop} {d : Nat} {v : Value}
abbrev QW (E : Env) (l : List Oper) (ops : Array Oper) (s : St) (Q : St → Prop) : Prop := KW E l ops none [] s Q
theorem KW.seq {rs : List Rec} (h : QW E l ops s Q) : KW E l ops none rs s Q := h
theorem q_pu (hS : Stt E s kn S F L F0 nx0) (hw : wantedL ops s.fr o = some true) (hc : callish o.op = false) (hd : o.dst = some d) (ht : tgtOf o.op (opv E.NG s.fr) = none) (hv : aopOf o.op E.P s.nx o.type (opv E.NG s.fr) none = some (v, .none))
    (k : ∀ s', Stt E s' ((d, v) :: kn) S F L F0 nx0 → QW E l ops s' Q) : QW E (o :: l) ops s Q := K.pu hS (RS.start []) rfl hw hc hd ht hv fun s' _ h _ => k s' h
theorem q_no (hS : Stt E s kn S F L F0 nx0) (hw : wantedL ops s.fr o = some false) (hd : o.dst = some d)
    (k : ∀ s', Stt E s' ((d, undef) :: kn) S F L F0 nx0 → QW E l ops s' Q) : QW E (o :: l) ops s Q := K.no hS (RS.start []) rfl hw hd fun s' _ h _ => k s' h
theorem q_rd {i : Nat} {b : Blk} (hS : Stt E s kn S F L F0 nx0) (hw : wantedL ops s.fr o = some true) (hc : callish o.op = false) (hd : o.dst = some d) (ht : tgtOf o.op (opv E.NG s.fr) = some i) (hb : s.H.get i = some b) (hv : aopOf o.op E.P s.nx o.type (opv E.NG s.fr) (some b) = some (v, .none))
    (k : ∀ s', Stt E s' ((d, v) :: kn) S F L F0 nx0 → QW E l ops s' Q) : QW E (o :: l) ops s Q := K.rd hS (RS.start [i]) rfl hw hc hd ht hb hv 0 rfl rfl fun s' _ h _ => k s' h
theorem q_ld {t : TypeId} {x : Operand} {i ad : Nat} {cs : List Value} {e : TypeId} {z : Nat} {own : Bool} (hS : Stt E s kn S F L F0 nx0) (hw : wantedL ops s.fr o = some true) (ho : o.op = .load t x) (hd : o.dst = some d)
    (hx : lkO E.NG kn x = some (.pointer (some ⟨i, ad, none⟩))) (hb : s.H.get i = some (.row cs e z own)) (hg : (E.P.underlying t).map aggD = some false) (hv : nth cs ad = some v)
    (k : ∀ s', Stt E s' ((d, v) :: kn) S F L F0 nx0 → QW E l ops s' Q) : QW E (o :: l) ops s Q := K.ld hS (RS.start [i]) rfl hw ho hd hx hb hg hv 0 rfl rfl fun s' _ h _ => k s' h
theorem q_ldA {t : TypeId} {x : Operand} {i ad m : Nat} {cs vs : List Value} {e : TypeId} {z : Nat} {own : Bool} (hS : Stt E s kn S F L F0 nx0) (hw : wantedL ops s.fr o = some true) (ho : o.op = .load t x) (hd : o.dst = some d)
    (hx : lkO E.NG kn x = some (.pointer (some ⟨i, ad, none⟩))) (hb : s.H.get i = some (.row cs e z own)) (hg : (E.P.underlying t).map aggD = some true) (hz : szOf E.P t = some m) (hv : take? cs ad m = some vs)
    (k : ∀ s', Stt E s' ((d, .agg vs.toArray) :: kn) S F L F0 nx0 → QW E l ops s' Q) : QW E (o :: l) ops s Q := K.ldA hS (RS.start [i]) rfl hw ho hd hx hb hg hz hv 0 rfl rfl fun s' _ h _ => k s' h
theorem q_sto {t : TypeId} {x y : Operand} {i ad m p : Nat} {cs : List Value} {e : TypeId} {z : Nat} {u : Value} (hS : Stt E s kn S F L F0 nx0) (hw : wantedL ops s.fr o = some true) (ho : o.op = .store t x y) (hd : o.dst = none)
    (hx : lkO E.NG kn x = some (.pointer (some ⟨i, ad, none⟩))) (hy : lkO E.NG kn y = some u) (hp : nthS S p = [(i, .row cs e z true)]) (hz : szOf E.P t = some m) (hok : (Nat.beq u.cells.size m && Nat.ble (ad + m) cs.length && u.cells.toList.all one) = true) (cs' : List Value) (hcs : setCells cs ad u.cells.toList = cs')
    (k : ∀ s', Stt E s' kn (putS S p [(i, .row cs' e z true)]) F L F0 nx0 → QW E l ops s' Q) : QW E (o :: l) ops s Q := K.sto hS (RS.start []) rfl hw ho hd hx hy hp hz hok cs' hcs [] rfl (fun j hj => by cases hj) fun s' _ h _ => k s' h
theorem q_nw {v : Nat → Value} {b : Blk} (hS : Stt E s kn S F L F0 nx0) (hw : wantedL ops s.fr o = some true) (hc : callish o.op = false) (hd : o.dst = some d) (ht : tgtOf o.op (opv E.NG s.fr) = none) (hv : aopOf o.op E.P s.nx o.type (opv E.NG s.fr) none = some (v s.nx, .new b))
    (k : ∀ s' i, Stt E s' ((d, v i) :: kn) ([(i, b)] :: S) F L F0 nx0 → QW E l ops s' Q) : QW E (o :: l) ops s Q := K.nw hS (RS.start []) rfl hw hc hd ht hv [] (fun j hj => by cases hj) rfl rfl rfl fun s' _ i h _ => k s' i h
theorem q_app {α : Type} {dd : El α} {ats : Array TypeId} {x y : Operand} {a : Option Addr} {z z2 : Nat} {lst m : List α} {B : Seg} {j : Nat} {news : List Value} (hS : Stt E s kn ([(j, .row news dd.e dd.sz true)] :: B :: S) F L F0 nx0) (hw : wantedL ops s.fr o = some true)
    (ho : o.op = .call ⟨.builtin .append, #[x, y], ats⟩) (hd : o.dst = some d) (ht : ApT E.P ats dd.e dd.sz) (hx : lkO E.NG kn x = some (.slice a lst.length z)) (hy : lkO E.NG kn y = some (.slice (some ⟨j, 0, none⟩) m.length z2)) (hO : Own dd F a z lst B) (hm : 0 < m.length) (hC : Cells dd F m news) (hb : lst.length + m.length < 1000000000)
    (k : ∀ s' i cs, Cells dd F (lst ++ m) cs → Stt E s' ((d, .slice (some ⟨i, 0, none⟩) (lst ++ m).length dd.sz) :: kn) ([(i, .row cs dd.e dd.sz true)] :: S) F L F0 nx0 → QW E l ops s' Q) : QW E (o :: l) ops s Q := K.app [] hS (RS.start []) rfl hw ho hd ht hx hy hO hm hC hb [] rfl rfl (fun j hj => by cases hj) fun s' _ i cs hc h _ => k s' i cs hc h
theorem q_cl {g : FuncId} {x : Operand} {fs cs : Array Value} {args : Array Operand} {ats : Array TypeId} {vs ws : List Value} {Sc : List Seg} {Φ : Value → List Seg → FZ → Prop} (hS : Stt E s kn S F L F0 nx0) (hw : wantedL ops s.fr o = some true)
    (ho : o.op = .call ⟨.value x, args, ats⟩) (hd : o.dst = some d) (hx : lkO E.NG kn x = some (.func (.func g) fs cs)) (ha : args.toList.map (lkO E.NG kn) = vs.map some) (hws : fs.toList ++ (vs ++ cs.toList) = ws) (c : Nat) (hc : takeN c S = Sc) (hT : Cl E g ws Sc F Φ)
    (k : ∀ s' v S' F', Φ v S' F' → FLe F F' → Stt E s' ((d, v) :: kn) (S' ++ dropN c S) F' L F0 nx0 → QW E l ops s' Q) : QW E (o :: l) ops s Q := K.cl hS (RS.start []) rfl hw ho hd hx ha hws c hc hT [] rfl rfl (fun j hj => by cases hj) fun s' _ v S' F' hp hf h _ => k s' v S' F' hp hf h
theorem q_cvO {t u e2 : TypeId} {x : Operand} {a : Option Addr} {z p : Nat} {lst : List UInt8} {B : Seg} (hS : Stt E s kn S F L F0 nx0) (hw : wantedL ops s.fr o = some true) (ho : o.op = .convert t u x) (hd : o.dst = some d)
    (hx : lkO E.NG kn x = some (.slice a lst.length z)) (hO : Own (elB e2) F a z lst B) (hp : nthS S p = B)
    (h0 : ∀ ρ : Operand → Value, ρ x = .slice none 0 0 → aopOf (.convert t u x) E.P s.nx o.type ρ none = some (strV [], .none))
    (h1 : ∀ (ρ : Operand → Value) i cs ex, ρ x = .slice (some ⟨i, 0, none⟩) lst.length z → Cells (elB e2) F lst cs → aopOf (.convert t u x) E.P s.nx o.type ρ (some (.row (cs ++ ex) e2 1 true)) = some (strV lst, .none))
    (k : ∀ s', Stt E s' ((d, strV lst) :: kn) S F L F0 nx0 → QW E l ops s' Q) : QW E (o :: l) ops s Q := K.cvO (e := 0) hS (RS.start []) rfl hw ho hd hx hO hp h0 h1 rfl fun s' _ h _ => k s' h
theorem cv1c {P : Program} {nx : Nat} {ty : TypeId} {ρ : Operand → Value} {x : Operand} {t u e e2 e3 z3 : TypeId} {lst : List UInt8} {z i : Nat} {cs : List Value} {own : Bool} (hs : P.underlying t = some (.slice e)) (hb : isByteT P e = true) (hu : P.underlying u = some .string) (hx : ρ x = .slice (some ⟨i, 0, none⟩) lst.length z) (hC : Cells (elB e2) F lst cs) : aopOf (.convert t u x) P nx ty ρ (some (.row cs e3 z3 own)) = some (strV lst, .none) := aop_cvstr hx hs hb hu hC (by
  have hl := hC.len
  rw [show (elB e2).sz = 1 from rfl, Nat.mul_one] at hl
  unfold take?
  rw [cond_t (Nat.ble_eq_true_of_le (by omega)), List.drop_zero, ← hl, List.take_length])
theorem tgt_cvr {E : Env} {s : St} {kn : Kn} {S : List Seg} {L : List Seg} {F0 : FZ} {nx0 : Nat} (hS : Stt E s kn S F L F0 nx0) {a b : TypeId} {x : Operand} {i off n z : Nat} (hx : lkO E.NG kn x = some (.slice (some ⟨i, off, none⟩) n z)) : tgtOf (.convert a b x) (opv E.NG s.fr) = some i := by
  show tgtV (opv E.NG s.fr x) = _
  rw [hS.lk hx]; rfl
theorem cv0 {P : Program} {nx : Nat} {ty : TypeId} {x : Operand} {t u e : TypeId} (hs : P.underlying t = some (.slice e)) (hb : isByteT P e = true) (hu : P.underlying u = some .string) : ∀ ρ : Operand → Value, ρ x = .slice none 0 0 → aopOf (.convert t u x) P nx ty ρ none = some (strV [], .none) := fun ρ h => aop_cvstr0 h hs hb hu
theorem cv1 {P : Program} {nx : Nat} {ty : TypeId} {x : Operand} {t u e e2 : TypeId} {lst : List UInt8} {z : Nat} (hs : P.underlying t = some (.slice e)) (hb : isByteT P e = true) (hu : P.underlying u = some .string) :
    ∀ (ρ : Operand → Value) i cs ex, ρ x = .slice (some ⟨i, 0, none⟩) lst.length z → Cells (elB e2) F lst cs → aopOf (.convert t u x) P nx ty ρ (some (.row (cs ++ ex) e2 1 true)) = some (strV lst, .none) := fun ρ i cs ex h hC => aop_cvstr h hs hb hu hC (by
  have hl := hC.len
  rw [show (elB e2).sz = 1 from rfl, Nat.mul_one] at hl
  unfold take?
  rw [cond_t (Nat.ble_eq_true_of_le (by rw [List.length_append]; omega)), List.drop_zero, ← hl, List.take_left])
theorem Stt.know {t : Nat} {u u' : Value} (hS : Stt E s kn S F L F0 nx0) (hk : lkT kn t = some u) (e : u = u') : Stt E s ((t, u') :: kn) S F L F0 nx0 :=
  ⟨fun j w h => by
    unfold lkT at h
    by_cases hj : t = j
    · subst hj
      rw [Nat.beq_refl, cond_true] at h
      obtain rfl := Option.some.inj h
      subst e
      exact hS.fx t u hk
    · rw [nbF hj, cond_false] at h
      exact hS.fx j w h, hS.mem, hS.le, hS.nx, hS.ms⟩
theorem WW.condK {c : Operand} {a b : Code} {t : Bool} {Qe : Exit → St → Prop} (hS : Stt E s kn S F L F0 nx0) (hk : lkO E.NG kn c = some (.bool t)) (ht : t = true) (h : WW E a s Qe) : WW E (.cond c a b) s Qe :=
  WW.condB (t := true) (by rw [hS.lk hk, ht]; rfl) h
theorem WW.condF {c : Operand} {a b : Code} {t : Bool} {Qe : Exit → St → Prop} (hS : Stt E s kn S F L F0 nx0) (hk : lkO E.NG kn c = some (.bool t)) (ht : t = false) (h : WW E b s Qe) : WW E (.cond c a b) s Qe :=
  WW.condB (t := false) (by rw [hS.lk hk, ht]; rfl) h
end
theorem bool_cases (c : Bool) : c = true ∨ c = false := by cases c <;> simp
theorem ite_t {α : Type} {c : Bool} {a b : α} (h : c = true) : (if c = true then a else b) = a := if_pos h
theorem ite_f {α : Type} {c : Bool} {a b : α} (h : c = false) : (if c = true then a else b) = b := if_neg (by rw [h]; exact Bool.false_ne_true)
/-- Whole numbers of 64 bits, as Go wraps them around. -/
def w64 (x : Int) : Int := IntKind.i64.wrap x
theorem app_t {P : Program} {ats : Array TypeId} {t t2 e sz : Nat} (h0 : ats[0]? = some t) (h1 : ats[1]? = some t2) (h2 : P.underlying t = some (.slice e)) {u : TypeDesc} (h3 : P.underlying t2 = some u) (h4 : srcT u = true) (h5 : (P.info? e).map (fun i => (i.size, Nat.ble i.bytes 140000)) = some (sz, true)) (h6 : (zeroOf P e).map List.length = some sz) (hp : 1 ≤ sz) : ApT P ats e sz := by
  obtain ⟨i, hi, h7⟩ := Option.map_eq_some_iff.1 h5
  obtain ⟨z, hz, h8⟩ := Option.map_eq_some_iff.1 h6
  simp only [Prod.mk.injEq] at h7
  exact ⟨t, t2, u, i, z, h0, h1, h2, h3, h4, hi, hz, by rw [h8, h7.1], h7.1, hp, Nat.le_of_ble_eq_true h7.2⟩
section
variable {E : Env} {s : St} {kn : Kn} {S : List Seg} {F : FZ} {L : List Seg} {F0 : FZ} {nx0 : Nat}
theorem Sub.c {l r : Kn} {k : Nat} {v : Value} (h : lkT l k = some v) (hr : Sub l r) : Sub l ((k, v) :: r) := ⟨h, hr⟩
theorem Sub.n {l : Kn} : Sub l [] := True.intro
theorem Stt.gap0 (hS : Stt E s kn S F L F0 nx0) : Stt E s kn ([] :: S) F L F0 nx0 := ⟨hS.fx, hS.mem.perm (by simp), hS.le, hS.nx, hS.ms⟩
theorem Stt.gap {a : Seg} (hS : Stt E s kn (a :: S) F L F0 nx0) : Stt E s kn (a :: [] :: S) F L F0 nx0 := ⟨hS.fx, hS.mem.perm (by simp), hS.le, hS.nx, hS.ms⟩
theorem parts_eq (hS : Stt E s kn S F L F0 nx0) {ps : Array (Nat × Operand)} {parts : List (Nat × Value)} (h : ps.toList.map (fun p => (p.1, lkO E.NG kn p.2)) = parts.map fun p => (p.1, some p.2)) : ps.toList.map (fun p => (p.1, opv E.NG s.fr p.2)) = parts := by
  have key : ∀ (l : List (Nat × Operand)) (m : List (Nat × Value)), l.map (fun p => (p.1, lkO E.NG kn p.2)) = m.map (fun p => (p.1, some p.2)) → l.map (fun p => (p.1, opv E.NG s.fr p.2)) = m := by
    intro l
    induction l with
    | nil => intro m h; cases m with | nil => rfl | cons _ _ => cases h
    | cons a l ih =>
      intro m h
      cases m with
      | nil => cases h
      | cons b m =>
        simp only [List.map_cons, List.cons.injEq, Prod.mk.injEq] at h ⊢
        exact ⟨Prod.ext h.1.1 (hS.lk h.1.2), ih m h.2⟩
  exact key _ _ h
theorem bnd_eq (hS : Stt E s kn S F L F0 nx0) {x : Operand} {k : IntKind} {i : Int} {d : Nat} (h : lkO E.NG kn x = some (.int k i)) : bound ((some x).map (opv E.NG s.fr)) d = some i := by
  show (match asI (opv E.NG s.fr x) with | some (_, i) => some i | none => none) = _
  rw [hS.lk h]; rfl
end
/-- A record that made another name leaves this one alone. -/
theorem RS.apart {zs : List Nat} {rs : List Rec} {n : Nat} {qs ls : List Nat} {as ns ds : List (Nat × Nat)} (h : RS zs rs n qs ls as ns ds) (k j' j : Nat) {i' i : Nat} (hk : ns.contains (k, j') = true) (h1 : nth zs j' = some i') (h2 : nth zs j = some i) (hne : i' ≠ i) : RS zs rs n qs ls ((k, j) :: as) ns ds :=
  ⟨h.len, h.q, h.l, fun p hp => by
    rcases List.mem_cons.1 hp with rfl | hp
    · have hm : (k, j') ∈ ns := by simpa using hk
      refine ⟨(h.nw _ hm).1, fun r x e hx => ?_⟩
      obtain ⟨q1, q2, q3, _, _⟩ := (h.nw _ hm).2 r i' e h1
      rw [h2] at hx
      obtain rfl := Option.some.inj hx
      unfold Rec.has
      rw [q1, q2, q3]
      have : (Nat.ble i' i && Nat.blt i (i' + 1)) = false := by
        cases hb : Nat.ble i' i && Nat.blt i (i' + 1) with
        | false => rfl
        | true => rw [Bool.and_eq_true, Nat.blt_eq] at hb; have := Nat.le_of_ble_eq_true hb.1; omega
      simp [this]
    · exact h.a p hp, h.nw, h.rd⟩
theorem Mem.ne {H : T} {nx : Nat} {S : List Seg} {F : FZ} : ∀ {S : List Seg} {p q i j : Nat} {b c : Blk}, (segNames S).Nodup → nthS S p = [(i, b)] → nthS S q = [(j, c)] → Nat.beq p q = false → i ≠ j
  | a :: S, 0, 0, _, _, _, _, _, _, _, hpq => by simp at hpq
  | a :: S, 0, q + 1, i, j, b, c, hn, hp, hq, _ => by
    have hp' : a = [(i, b)] := hp
    subst hp'
    have hm : j ∈ segNames S := List.mem_map.2 ⟨(j, c), nthS_sub S q _ (by rw [show nthS S q = [(j, c)] from hq]; exact List.mem_singleton.2 rfl), rfl⟩
    simp only [segNames, List.flatten_cons, List.map_append, List.map_cons, List.map_nil, List.cons_append, List.nil_append, List.nodup_cons] at hn
    intro e
    subst e
    exact hn.1 hm
  | a :: S, p + 1, 0, i, j, b, c, hn, hp, hq, _ => by
    have hq' : a = [(j, c)] := hq
    subst hq'
    have hm : i ∈ segNames S := List.mem_map.2 ⟨(i, b), nthS_sub S p _ (by rw [show nthS S p = [(i, b)] from hp]; exact List.mem_singleton.2 rfl), rfl⟩
    simp only [segNames, List.flatten_cons, List.map_append, List.map_cons, List.map_nil, List.cons_append, List.nil_append, List.nodup_cons] at hn
    intro e
    subst e
    exact hn.1 hm
  | a :: S, p + 1, q + 1, i, j, b, c, hn, hp, hq, hpq => by
    simp only [segNames, List.flatten_cons, List.map_append] at hn
    exact Mem.ne (H := H) (nx := nx) (S := S) (F := F) (List.nodup_append.1 hn).2.1 (show nthS S p = _ from hp) (show nthS S q = _ from hq) hpq
  | [], p, q, _, _, _, _, _, hp, _, _ => by cases hp
theorem Stt.ne {E : Env} {s : St} {kn : Kn} {S : List Seg} {F : FZ} {L : List Seg} {F0 : FZ} {nx0 : Nat} (hS : Stt E s kn S F L F0 nx0) {p q i j : Nat} {b c : Blk} (hp : nthS (S ++ L) p = [(i, b)]) (hq : nthS (S ++ L) q = [(j, c)]) (hpq : Nat.beq p q = false) : i ≠ j := Mem.ne (H := s.H) (nx := s.nx) (S := S) (F := F) hS.mem.nd hp hq hpq
theorem aw_n {F : FZ} {zs : List Nat} {S : List Seg} : Aw F S zs [] := fun j hj => by cases hj
theorem aw_c {F : FZ} {zs : List Nat} {S : List Seg} {j i : Nat} {js : List Nat} (h0 : nth zs j = some i) (h1 : i ∈ segNames S) (hr : Aw F S zs js) : Aw F S zs (j :: js) := fun j' hj i' e => by
  rcases List.mem_cons.1 hj with rfl | hj
  · rw [h0] at e; obtain rfl := Option.some.inj e; exact .inl h1
  · exact hr j' hj i' e
theorem aw_f {F : FZ} {zs : List Nat} {S : List Seg} {j i : Nat} {b : Blk} {js : List Nat} (h0 : nth zs j = some i) (h1 : F i = some b) (hr : Aw F S zs js) : Aw F S zs (j :: js) := fun j' hj i' e => by
  rcases List.mem_cons.1 hj with rfl | hj
  · rw [h0] at e; obtain rfl := Option.some.inj e; exact .inr (by rw [h1]; simp)
  · exact hr j' hj i' e
theorem mm0 {i : Nat} {b : Blk} {S : List Seg} : i ∈ segNames ([(i, b)] :: S) := by simp [segNames]
theorem mm1 {i : Nat} {a : Seg} {S : List Seg} (h : i ∈ segNames S) : i ∈ segNames (a :: S) := by simp only [segNames, List.flatten_cons, List.map_append, List.mem_append]; exact .inr h
section
variable {α : Type} [Inhabited α] {d : El α} {F : FZ} {l : List α} {cs : List Value}
theorem Cells.load1 (h : Cells d F l cs) (ex : List Value) {j : Int} (hj : 0 ≤ j ∧ j < (l.length : Int)) (hs : d.sz = 1) : ∃ v, d.R F (gt l j) [v] ∧ nth (cs ++ ex) (0 + j.toNat * 1) = some v := by
  obtain ⟨c, k1, k2, k3⟩ := h.elem ex hj.1 hj.2
  have hl := d.len k1
  rw [hs] at hl
  match c, hl with
  | [v], _ =>
    refine ⟨v, k1, ?_⟩
    have := k3 0 (by omega)
    rw [hs] at this
    simpa using this
theorem Cells.load1_ (h : Cells d F l cs) {j : Int} (hj : 0 ≤ j ∧ j < (l.length : Int)) (hs : d.sz = 1) : ∃ v, d.R F (gt l j) [v] ∧ nth cs (0 + j.toNat * 1) = some v := by
  have := h.load1 [] hj hs
  rwa [List.append_nil] at this
/-- A field of an element. -/
theorem Cells.loadF (h : Cells d F l cs) (ex : List Value) {j : Int} (hj : 0 ≤ j ∧ j < (l.length : Int)) {z : Nat} (hs : d.sz = z) : ∃ c, d.R F (gt l j) c ∧ (∀ k, k < z → nth (cs ++ ex) (0 + j.toNat * z + k) = nth c k) ∧ nth (cs ++ ex) (0 + j.toNat * z) = nth c 0 ∧ take? (cs ++ ex) (0 + j.toNat * z) z = some c := by
  obtain ⟨c, k1, k2, k3⟩ := h.elem ex hj.1 hj.2
  subst hs
  have key : ∀ k, k < d.sz → nth (cs ++ ex) (0 + j.toNat * d.sz + k) = nth c k := fun k hk => by rw [nth_eq c, ← k3 k hk, Nat.zero_add]
  exact ⟨c, k1, key, by have := key 0 d.pos; rwa [Nat.add_zero] at this, by simpa using k2⟩
theorem Cells.loadF_ (h : Cells d F l cs) {j : Int} (hj : 0 ≤ j ∧ j < (l.length : Int)) {z : Nat} (hs : d.sz = z) : ∃ c, d.R F (gt l j) c ∧ (∀ k, k < z → nth cs (0 + j.toNat * z + k) = nth c k) ∧ nth cs (0 + j.toNat * z) = nth c 0 ∧ take? cs (0 + j.toNat * z) z = some c := by
  have := h.loadF [] hj hs
  rwa [List.append_nil] at this
theorem tgt_cv {E : Env} {s : St} {kn : Kn} {S : List Seg} {F : FZ} {L : List Seg} {F0 : FZ} {nx0 : Nat} (hS : Stt E s kn S F L F0 nx0) {a b : TypeId} {x : Operand} {v : Value} (hx : lkO E.NG kn x = some v) (hv : tgtV v = none) : tgtOf (.convert a b x) (opv E.NG s.fr) = none := by
  show tgtV (opv E.NG s.fr x) = _
  rw [hS.lk hx, hv]
end
end Go.Proofs.YtjcbhbncncbdjaaGreatDoorAi

namespace Go.Proofs.YtjcbhbncncbdjaaGreatDoorAi
open Go Go.RowKit
set_option linter.unusedVariables false
set_option linter.unusedSimpArgs false
set_option linter.unusedSectionVars false

section
variable {α : Type} {d : El α} {F : FZ} {a : Option Addr} {z : Nat} {l : List α}
theorem Stt.frzO {E : Env} {s : St} {kn : Kn} {S : List Seg} {L : List Seg} {F0 : FZ} {nx0 : Nat} {B : Seg} (hS : Stt E s kn (B :: S) F L F0 nx0) (hO : Own d F a z l B) : ∃ F', FLe F F' ∧ Stt E s kn S F' L F0 nx0 ∧ Frz d F' a z l := by
  rcases hO with ⟨rfl, rfl, rfl, rfl⟩ | ⟨i, cs, ex, rfl, rfl, rfl, hC⟩
  · exact ⟨F, FLe.refl F, hS.drop, Frz.nil⟩
  · obtain ⟨h1, h2⟩ := hS.frz
    refine ⟨_, h2, h1, .inr ⟨i, 0, cs ++ ex, d.e, d.sz, true, rfl, .inr rfl, if_pos rfl, ?_, ?_⟩⟩
    · rw [List.drop_zero, ← hC.len, List.take_left]; exact hC.mono h2
    · rw [List.length_append, ← hC.len]; omega
theorem Frz.addr (h : Frz d F a z l) (hl : 0 < l.length) : ∃ i off, a = some ⟨i, off, none⟩ := by
  obtain ⟨i, off, cs, e, ez, own, h1, _⟩ := h.some_ hl
  exact ⟨i, off, h1⟩
theorem Frz.at [Inhabited α] {i off : Nat} {j : Int} (h : Frz d F (some ⟨i, off, none⟩) z l) (hj : 0 ≤ j ∧ j < (l.length : Int)) {m : Nat} (hs : d.sz = m) :
    ∃ cs e ez own c, F i = some (.row cs e ez own) ∧ d.R F (gt l j) c ∧ nth cs (off + j.toNat * m) = nth c 0 ∧ (∀ k, k < m → nth cs (off + j.toNat * m + k) = nth c k) ∧ take? cs (off + j.toNat * m) m = some c := by
  subst hs
  obtain ⟨i', off', cs, e, ez, own, h1, h2, h3, h4, h5⟩ := h.some_ (by omega)
  obtain ⟨rfl, rfl⟩ : i = i' ∧ off = off' := by simpa using h1
  obtain ⟨c, k1, k2, k3⟩ := h4.get (j := j.toNat) (by omega)
  have hlen := d.len k1
  have hp := d.pos
  have hm : j.toNat * d.sz + d.sz ≤ l.length * d.sz := by
    have : (j.toNat + 1) * d.sz ≤ l.length * d.sz := Nat.mul_le_mul_right _ (by omega)
    rwa [Nat.succ_mul] at this
  have key : ∀ k, k < d.sz → nth cs (off + j.toNat * d.sz + k) = nth c k := fun k hk => by
    rw [nth_eq, nth_eq, ← k2, List.getElem?_take_of_lt hk, List.getElem?_drop, List.getElem?_take_of_lt (by omega), List.getElem?_drop, Nat.add_assoc]
  refine ⟨cs, e, ez, own, c, h3, k1, by have := key 0 hp; rwa [Nat.add_zero] at this, key, ?_⟩
  unfold take?
  rw [cond_t (Nat.ble_eq_true_of_le (by omega)), ← k2, List.drop_take, List.drop_drop, List.take_take]
  congr 2
  omega
theorem Frz.slice (h : Frz d F a z l) {lo hi : Int} (hc : 0 ≤ lo ∧ lo ≤ hi ∧ hi ≤ (l.length : Int)) {m : Nat} (hs : d.sz = m) : ∃ a', slSl a l.length z (some lo) (some hi) (some m) = some (.slice a' (mid l lo hi).length z) ∧ Frz d F a' z (mid l lo hi) := by
  subst hs
  have hml : (mid l lo hi).length = (hi - lo).toNat := by unfold mid; rw [List.length_drop, List.length_take]; omega
  rcases h with ⟨rfl, rfl, rfl⟩ | ⟨i, off, cs, e, ez, own, rfl, h2, h3, h4, h5⟩
  · simp only [List.length_nil] at hc
    refine ⟨none, ?_, .inl ⟨rfl, rfl, by simp [mid]⟩⟩
    show slA lo hi 0 d.sz 0 none = _
    show (if lo = 0 ∧ hi = 0 ∧ 0 = 0 ∧ 0 = 0 then some (Value.slice none 0 0) else none) = _
    rw [if_pos ⟨by omega, by omega, rfl, rfl⟩, hml]
    have : (hi - lo).toNat = 0 := by omega
    rw [this]
  · refine ⟨some ⟨i, off + lo.toNat * d.sz, none⟩, ?_, .inr ⟨i, off + lo.toNat * d.sz, cs, e, ez, own, rfl, h2, h3, ?_, ?_⟩⟩
    · show slA lo hi l.length d.sz z (some ⟨i, off, none⟩) = _
      show (if 0 ≤ lo ∧ lo ≤ hi ∧ hi ≤ (l.length : Int) ∧ (z = 0 ∨ z = d.sz) then some (Value.slice (some ⟨i, off + lo.toNat * d.sz, none⟩) (hi - lo).toNat z) else none) = _
      rw [if_pos ⟨hc.1, hc.2.1, hc.2.2, h2⟩, hml]
    · have := (h4.take hi.toNat).drop lo.toNat
      rw [show (l.take hi.toNat).drop lo.toNat = mid l lo hi from rfl] at this
      rw [hml, List.take_take, List.drop_take, List.drop_drop] at *
      have e1 : min (hi.toNat * d.sz) (l.length * d.sz) = hi.toNat * d.sz := Nat.min_eq_left (Nat.mul_le_mul_right _ (by omega))
      rw [e1, ← Nat.sub_mul] at this
      rw [show (hi - lo).toNat = hi.toNat - lo.toNat by omega]
      exact this
    · rw [hml]
      have : off + (lo.toNat * d.sz + (hi - lo).toNat * d.sz) ≤ cs.length := by
        rw [← Nat.add_mul]
        exact Nat.le_trans (Nat.add_le_add_left (Nat.mul_le_mul_right _ (by omega)) _) h5
      omega
end
section
variable {P : Program} {nx : Nat} {ty : TypeId} {ρ : Operand → Value} {b : Option Blk} {x y : Operand} {v : Value} {k : IntKind} {m n : Int}
theorem aop_slSl {t : TypeId} {a : Option Addr} {j z sz : Nat} {lo hi : Option Operand} {i h : Int} (hn : elemS P t = some sz) (hx : ρ x = .slice a j z) (hl : bound (lo.map ρ) 0 = some i) (hh : bound (hi.map ρ) j = some h) (he : slSl a j z (some i) (some h) (some sz) = some v) :
    aopOf (.slice t x lo hi none) P nx ty ρ b = some (v, .none) := by
  show noEff (aSlice P t (ρ x) (lo.map ρ) (hi.map ρ)) = _
  rw [hx]
  show noEff (slSl a j z (bound (lo.map ρ) 0) (bound (hi.map ρ) j) (elemS P t)) = _
  rw [hl, hh, hn, he]; rfl
theorem aop_rng {t : TypeId} {l : List UInt8} (hu : P.underlying t = some .string) (hx : ρ x = strV l) : aopOf (.range t x) P nx ty ρ b = some (.pointer (some ⟨nx, 0, none⟩), .new (.iter ⟨l.toArray⟩ 0)) := by
  show rangeV P nx t (ρ x) = _
  rw [hx]
  show (bif isStrT P t then _ else _) = _
  unfold isStrT
  rw [hu]; rfl
/-- The character of a string that begins at a place, and how many bytes it has. -/
def dec (l : List UInt8) (p : Nat) : Nat × Nat := Utf8.decode ⟨l.toArray⟩ p
theorem aop_nx1 {i : Nat} {l : List UInt8} {p : Nat} (hx : ρ x = .pointer (some ⟨i, 0, none⟩)) (hp : p < l.length) : aopOf (.next x true) P nx ty ρ (some (.iter ⟨l.toArray⟩ p)) = some (.tuple #[.bool true, .int .i64 (p : Nat), .int .i32 ((dec l p).1 : Nat)], .upd (.iter ⟨l.toArray⟩ (p + (dec l p).2))) := by
  show nextV (ρ x) (some (.iter ⟨l.toArray⟩ p)) = _
  rw [hx]
  show nextI ⟨l.toArray⟩ p = _
  unfold nextI
  rw [sizeL, if_pos hp]; rfl
theorem aop_nx0 {i : Nat} {l : List UInt8} {p : Nat} (hx : ρ x = .pointer (some ⟨i, 0, none⟩)) (hp : ¬ p < l.length) : aopOf (.next x true) P nx ty ρ (some (.iter ⟨l.toArray⟩ p)) = some (.tuple #[.bool false], .none) := by
  show nextV (ρ x) (some (.iter ⟨l.toArray⟩ p)) = _
  rw [hx]
  show nextI ⟨l.toArray⟩ p = _
  unfold nextI
  rw [sizeL, if_neg hp]
end
section
variable {E : Env} {s : St} {kn : Kn} {S : List Seg} {F : FZ} {L : List Seg} {F0 : FZ} {nx0 : Nat} {l : List Oper} {ops : Array Oper} {o : Oper} {inf : Option (List (List Nat))} {zs : List Nat} {rs : List Rec} {n : Nat} {qs ls : List Nat} {as ns ds : List (Nat × Nat)} {Q : St → Prop} {d : Nat} {v : Value}
/-- Another content for one of the pieces, and a value. -/
theorem q_up {i p : Nat} {b b' : Blk} (hS : Stt E s kn S F L F0 nx0) (hw : wantedL ops s.fr o = some true) (hc : callish o.op = false) (hd : o.dst = some d) (ht : tgtOf o.op (opv E.NG s.fr) = some i) (hp : nthS S p = [(i, b)]) (hv : aopOf o.op E.P s.nx o.type (opv E.NG s.fr) (some b) = some (v, .upd b'))
    (k : ∀ s', Stt E s' ((d, v) :: kn) (putS S p [(i, b')]) F L F0 nx0 → QW E l ops s' Q) : QW E (o :: l) ops s Q := by
  have hpl : p < S.length := nthS_lt (by rw [hp]; simp)
  have hpA : nthS (S ++ L) p = [(i, b)] := by rw [nthS_app S L p hpl, hp]
  have hb := hS.mem.at hpA
  have hfr := hS.mem.front hpA
  rw [dropS_app S L p hpl] at hfr
  have hno := notL hfr hS.le
  refine KW.upd (inf := none) rfl hw hc (RS.start []) ht (by rw [hb]; exact hv) [] rfl (fun j hj => by cases hj) fun rs' hr => k _ ⟨by rw [hd]; exact hS.fx.put d _, ?_, hS.le, hS.nx, fun j hj => ?_⟩
  · refine (hfr.setH (b' := b')).perm ?_
    have := putS_perm (S ++ L) p [(i, b')] (by rw [hpA]; simp)
    rw [dropS_app S L p hpl, putS_app S L p _ hpl] at this
    simpa using this
  · rcases mem_addM hj with hj | hj
    · rw [List.mem_singleton] at hj; subst hj; exact hno
    · exact hS.ms j hj
theorem tgt_nx (hS : Stt E s kn S F L F0 nx0) {i : Nat} {x : Operand} {b : Bool} (hx : lkO E.NG kn x = some (.pointer (some ⟨i, 0, none⟩))) : tgtOf (.next x b) (opv E.NG s.fr) = some i := by
  show tgtV (opv E.NG s.fr x) = _
  rw [hS.lk hx]; rfl
end
/-- An error of the library, or none: nothing is known of it but whether it is one. -/
def errV (t : Nat) (b : Bool) : Value := bif b then .iface t (.chan (some 0)) else .nilIface
def onOpt {α β : Type} (o : Option α) (a : Option β) (f : α → Option β) : Option β := match o with | none => a | some x => f x
def onSum {α β : Type} (o : α ⊕ β) (f : α → Option β) : Option β := match o with | .inl x => f x | .inr r => some r
def onSum2 {α β ρ : Type} (o : α ⊕ ρ) (g : ρ → Option β) (f : α → Option β) : Option β := match o with | .inl x => f x | .inr r => g r
theorem match2_inl {α β ρ : Type} {x : α} {g : ρ → Option β} {f : α → Option β} {r : β} (h : onSum2 (.inl x) g f = some r) : f x = some r := h
theorem match2_inr {α β ρ : Type} {x : ρ} {g : ρ → Option β} {f : α → Option β} {r : β} (h : onSum2 (.inr x) g f = some r) : g x = some r := h
theorem match_none {α β : Type} {a : Option β} {f : α → Option β} {r : β} (h : onOpt none a f = some r) : a = some r := h
theorem match_some {α β : Type} {x : α} {a : Option β} {f : α → Option β} {r : β} (h : onOpt (some x) a f = some r) : f x = some r := h
theorem match_inl {α β : Type} {x : α} {f : α → Option β} {r : β} (h : onSum (.inl x) f = some r) : f x = some r := h
theorem match_inr {α β : Type} {x : β} {f : α → Option β} {r : β} (h : onSum (.inr x) f = some r) : some x = some r := h
section
variable {P : Program} {nx : Nat} {ty : TypeId} {ρ : Operand → Value} {b : Option Blk} {x y : Operand} {v : Value} {k : IntKind} {m n : Int}
theorem aop_notT {u : TypeId} (h : ρ x = .bool true) : aopOf (.unOp .not u x) P nx ty ρ b = some (.bool false, .none) := aop_not h
theorem aop_notF {u : TypeId} (h : ρ x = .bool false) : aopOf (.unOp .not u x) P nx ty ρ b = some (.bool true, .none) := aop_not h
theorem aop_min {args : Array Operand} {ats : Array TypeId} (ha : args.toList = [x, y]) (hx : ρ x = .int k m) (hy : ρ y = .int k n) : aopOf (.call ⟨.builtin .min, args, ats⟩) P nx ty ρ b = some (.int k (if n < m then n else m), .none) := by
  show bMin P ats ty (args.toList.map ρ) b = _
  rw [ha]
  show (bif allPlain [ρ x, ρ y] then noEff (onlyPlain (pureRun P (Builtin.min_ ats ty [ρ x, ρ y].toArray))) else none) = _
  rw [hx, hy]
  show noEff (onlyPlain (pureRun P (Builtin.min2 (.int k m) (.int k n)))) = _
  unfold Builtin.min2
  simp
  split <;> rfl
theorem aop_max {args : Array Operand} {ats : Array TypeId} (ha : args.toList = [x, y]) (hx : ρ x = .int k m) (hy : ρ y = .int k n) : aopOf (.call ⟨.builtin .max, args, ats⟩) P nx ty ρ b = some (.int k (if m < n then n else m), .none) := by
  show bMax P ats ty (args.toList.map ρ) b = _
  rw [ha]
  show (bif allPlain [ρ x, ρ y] then noEff (onlyPlain (pureRun P (Builtin.max_ ats ty [ρ x, ρ y].toArray))) else none) = _
  rw [hx, hy]
  show noEff (onlyPlain (pureRun P (Builtin.max2 (.int k m) (.int k n)))) = _
  unfold Builtin.max2
  simp
  split <;> rfl
theorem aop_mf {f : Fn} {fs cs : Array Operand} {vs ws : List Value} (h1 : fs.toList.map ρ = vs) (h2 : cs.toList.map ρ = ws) : aopOf (.makeFunc f fs cs) P nx ty ρ b = some (.func f vs.toArray ws.toArray, .none) := by
  show some (Value.func f (fs.toList.map ρ).toArray (cs.toList.map ρ).toArray, Eff.none) = _
  rw [h1, h2]
theorem aop_fd {t ft : TypeId} {f off sz : Nat} {cs : Array Value} (hx : ρ x = .agg cs) (hf : fieldAt P t f = some (off, sz, ft)) (hg : (P.underlying ft).map aggD = some false) (hv : nth cs.toList off = some v) : aopOf (.field t x f) P nx ty ρ b = some (v, .none) := by
  obtain ⟨u, hu, ha⟩ := Option.map_eq_some_iff.1 hg
  show noEff (aField P t f (ρ x)) = _
  rw [hx]
  show noEff (fdA P cs.toList (fieldAt P t f)) = _
  rw [hf]
  unfold fdA
  simp only [hu, ha, hv, cond_false]; rfl
theorem aop_cvss {s t : TypeId} {l : List UInt8} (hx : ρ x = strV l) (hs : P.underlying s = some .string) (ht : P.underlying t = some .string) : aopOf (.convert s t x) P nx ty ρ b = some (strV l, .none) := by
  show aConvert P nx s t (ρ x) b = _
  rw [hx]
  unfold aConvert
  show (match cvS P nx s t ⟨l.toArray⟩ with | some r => some r | none => cvG P s t _) = _
  unfold cvS
  rw [hs, ht]
end
section
variable {E : Env} {s : St} {kn : Kn} {S : List Seg} {F : FZ} {L : List Seg} {F0 : FZ} {nx0 : Nat} {l : List Oper} {ops : Array Oper} {o : Oper} {inf : Option (List (List Nat))} {zs : List Nat} {rs : List Rec} {n : Nat} {qs ls : List Nat} {as ns ds : List (Nat × Nat)} {Q : St → Prop} {d : Nat} {v : Value}
/-- string(row) of bytes that never change. -/
theorem K.cvF {t u e2 : TypeId} {x : Operand} {a : Option Addr} {z : Nat} {lst : List UInt8} (hS : Stt E s kn S F L F0 nx0) (hq : RS zs rs n qs ls as ns ds) (hi : okI inf = true) (hw : wantedL ops s.fr o = some true) (ho : o.op = .convert t u x) (hd : o.dst = some d)
    (hx : lkO E.NG kn x = some (.slice a lst.length z)) (hO : Frz (elB e2) F a z lst)
    (h0 : ∀ ρ : Operand → Value, ρ x = .slice none 0 0 → aopOf (.convert t u x) E.P s.nx o.type ρ none = some (strV [], .none))
    (h1 : ∀ (ρ : Operand → Value) i off cs e3 z3 own, ρ x = .slice (some ⟨i, off, none⟩) lst.length z → Cells (elB e2) F lst ((cs.drop off).take lst.length) → off + lst.length ≤ cs.length → aopOf (.convert t u x) E.P s.nx o.type ρ (some (.row cs e3 z3 own)) = some (strV lst, .none))
    (hu : subN (headI inf) (qs ++ ls) = true) (k : ∀ s' rs', Stt E s' ((d, strV lst) :: kn) S F L F0 nx0 → RS zs rs' (n + 1) qs (n :: ls) as ns ds → KW E l ops (tailI inf) rs' s' Q) : KW E (o :: l) ops inf rs s Q := by
  rcases hO with ⟨rfl, rfl, rfl⟩ | ⟨i, off, cs, e, ez, own, rfl, hz, hF, hC, hlen⟩
  · refine KW.op hi hw (by rw [ho]; rfl) hq none (by rw [ho]; show tgtV (opv E.NG s.fr x) = _; rw [hS.lk hx]; rfl) (v := strV []) (by rw [ho]; exact h0 _ (hS.lk hx)) (fun i h => (by cases h)) fun rs' _ hr _ => k _ rs' ?_ hr
    rw [hd]; exact hS.put d _
  · have hb := hS.fat hF
    have hs1 : (elB e2).sz = 1 := rfl
    rw [hs1, Nat.mul_one] at hC hlen
    refine KW.op hi hw (by rw [ho]; rfl) hq (some i) (by rw [ho]; show tgtV (opv E.NG s.fr x) = _; rw [hS.lk hx]; rfl) (v := strV lst) (by rw [ho]; show aopOf (.convert t u x) E.P s.nx o.type (opv E.NG s.fr) (s.H.get i) = _; rw [hb]; exact h1 _ i off cs e ez own (hS.lk hx) hC hlen) (fun i' h => by obtain rfl := Option.some.inj h; exact hq.has0 hu) fun rs' _ hr _ => k _ rs' ?_ hr
    rw [hd]; exact hS.put d _
theorem q_cvF {t u e2 : TypeId} {x : Operand} {a : Option Addr} {z : Nat} {lst : List UInt8} (hS : Stt E s kn S F L F0 nx0) (hw : wantedL ops s.fr o = some true) (ho : o.op = .convert t u x) (hd : o.dst = some d)
    (hx : lkO E.NG kn x = some (.slice a lst.length z)) (hO : Frz (elB e2) F a z lst)
    (h0 : ∀ ρ : Operand → Value, ρ x = .slice none 0 0 → aopOf (.convert t u x) E.P s.nx o.type ρ none = some (strV [], .none))
    (h1 : ∀ (ρ : Operand → Value) i off cs e3 z3 own, ρ x = .slice (some ⟨i, off, none⟩) lst.length z → Cells (elB e2) F lst ((cs.drop off).take lst.length) → off + lst.length ≤ cs.length → aopOf (.convert t u x) E.P s.nx o.type ρ (some (.row cs e3 z3 own)) = some (strV lst, .none))
    (k : ∀ s', Stt E s' ((d, strV lst) :: kn) S F L F0 nx0 → QW E l ops s' Q) : QW E (o :: l) ops s Q := K.cvF hS (RS.start []) rfl hw ho hd hx hO h0 h1 rfl fun s' _ h _ => k s' h
theorem cf0 {P : Program} {nx : Nat} {ty : TypeId} {x : Operand} {t u e : TypeId} (hs : P.underlying t = some (.slice e)) (hb : isByteT P e = true) (hu : P.underlying u = some .string) : ∀ ρ : Operand → Value, ρ x = .slice none 0 0 → aopOf (.convert t u x) P nx ty ρ none = some (strV [], .none) := fun ρ h => aop_cvstr0 h hs hb hu
theorem cf1 {P : Program} {nx : Nat} {ty : TypeId} {x : Operand} {t u e e2 : TypeId} {lst : List UInt8} {z : Nat} (hs : P.underlying t = some (.slice e)) (hb : isByteT P e = true) (hu : P.underlying u = some .string) :
    ∀ (ρ : Operand → Value) i off cs e3 z3 own, ρ x = .slice (some ⟨i, off, none⟩) lst.length z → Cells (elB e2) F lst ((cs.drop off).take lst.length) → off + lst.length ≤ cs.length → aopOf (.convert t u x) P nx ty ρ (some (.row cs e3 z3 own)) = some (strV lst, .none) := fun ρ i off cs e3 z3 own h hC hl => aop_cvstr h hs hb hu hC (by
  unfold take?
  rw [cond_t (Nat.ble_eq_true_of_le hl)])
/-- append(row, other...), the other one a row that never changes. -/
theorem app_nil {P : Program} {ats : Array TypeId} {e sz : Nat} {a : Option Addr} {j z : Nat} {y : Value} {H : T} {nx : Nat} (ht : ApT P ats e sz) (hlen : lenV y = some 0) (hj : a = none → j = 0) : aAppend P ats [.slice a j z, y] H nx = some (.slice a j z, H, nx, []) := by
  obtain ⟨t, t2, u, i, zz, h0, h1, h2, h3, h4, h5, h6, h7, h8, h9, h10⟩ := ht.ok
  rw [aAppend_eq h0 h1 h2 h3 h4 h5 h6 h7 (by omega), hlen]
  show apLen H nx i e (.slice a j z) y a j z 0 = _
  unfold apLen
  rw [show Nat.beq 0 0 = true from rfl, cond_true]
  unfold apSame
  cases a with
  | none => simp only; rw [hj rfl]; rfl
  | some a => rfl
theorem K.apF {α : Type} {dd : El α} {ats : Array TypeId} {x y : Operand} {a a2 : Option Addr} {z z2 : Nat} {lst m : List α} {B : Seg} (hS : Stt E s kn (B :: S) F L F0 nx0) (hq : RS zs rs n qs ls as ns ds) (hi : okI inf = true) (hw : wantedL ops s.fr o = some true)
    (ho : o.op = .call ⟨.builtin .append, #[x, y], ats⟩) (hd : o.dst = some d) (ht : ApT E.P ats dd.e dd.sz) (hx : lkO E.NG kn x = some (.slice a lst.length z)) (hy : lkO E.NG kn y = some (.slice a2 m.length z2)) (hO : Own dd F a z lst B) (hz : Frz dd F a2 z2 m) (hb : lst.length + m.length < 1000000000) (js : List Nat) (hun : okU zs qs ls ds ns js (headI inf) = true) (hmb : mbN ns zs (headI inf) = []) (hj : Aw F S zs js)
    (k : ∀ s' rs' a' z' B', Own dd F a' z' (lst ++ m) B' → Stt E s' ((d, .slice a' (lst ++ m).length z') :: kn) (B' :: S) F L F0 nx0 → RS zs rs' (n + 1) qs ls (js.map (fun j => (n, j)) ++ as) ns ds → KW E l ops (tailI inf) rs' s' Q) : KW E (o :: l) ops inf rs s Q := by
  have hM : Mem s.H s.nx (B :: (S ++ L)) F := hS.mem
  by_cases hm : m.length = 0
  · obtain rfl : m = [] := List.eq_nil_of_length_eq_zero hm
    have hj0 : a = none → lst.length = 0 := fun e => by
      rcases hO with ⟨_, _, rfl, _⟩ | ⟨i, cs, ex, h, _⟩
      · rfl
      · rw [e] at h; cases h
    refine KW.call (v := .slice a lst.length z) (H := s.H) (nx := s.nx) (ms := []) [] hi hw (by rw [ho]; rfl) hq ⟨0, fun n _ => ?_⟩ js hun hmb (fun q hq' i' e => ⟨hM.drop1.alt (hj q hq' i' e), by simp⟩) fun rs' hr => k _ rs' a z B (by rw [List.append_nil]; exact hO) ⟨by rw [hd, List.append_nil]; exact hS.fx.put d _, hM, hS.le, hS.nx, hS.ms⟩ hr
    rw [ho]
    show aAppend E.P ats [opv E.NG s.fr x, opv E.NG s.fr y] s.H s.nx = _
    rw [hS.lk hx, hS.lk hy]
    exact app_nil ht rfl hj0
  · obtain ⟨i2, off, cs2, e2, ez, own, rfl, hz2, hF, hC, hlen⟩ := hz.some_ (by omega)
    have hget := hS.fat hF
    have hsrc : srcCells s.H dd.sz m.length (.slice (some ⟨i2, off, none⟩) m.length z2) = some ((cs2.drop off).take (m.length * dd.sz)) := by
      unfold srcCells
      simp only [hget]
      unfold take?
      rw [cond_t (Nat.ble_eq_true_of_le hlen)]
    obtain ⟨cs, H', ms, h1, h2, h3, h4⟩ := app_own ht hM hO (y := .slice (some ⟨i2, off, none⟩) m.length z2) rfl (by omega) hsrc hC hb
    refine KW.call (v := .slice (some ⟨s.nx, 0, none⟩) (lst ++ m).length dd.sz) (H := H') (nx := s.nx + 1) (ms := ms) [] hi hw (by rw [ho]; rfl) hq ⟨0, fun n _ => ?_⟩ js hun hmb (fun q hq' i' e => ⟨hM.drop1.alt (hj q hq' i' e), fun hm' => by
      obtain ⟨b, rfl⟩ := h4 i' hm'
      exact hM.alt2 (hj q hq' i' e) rfl⟩) fun rs' hr => k _ rs' _ _ _ (Own.blk0 h3) ⟨by rw [hd]; exact hS.fx.put d _, h2, hS.le, Nat.le_succ_of_le hS.nx, fun i hi => ?_⟩ hr
    · rw [ho]
      show aAppend E.P ats [opv E.NG s.fr x, opv E.NG s.fr y] s.H s.nx = _
      rw [hS.lk hx, hS.lk hy]
      exact h1
    · rcases mem_addM hi with hi | hi
      · obtain ⟨b, rfl⟩ := h4 i hi
        exact notL hM hS.le
      · exact hS.ms i hi
theorem q_apF {α : Type} {dd : El α} {ats : Array TypeId} {x y : Operand} {a a2 : Option Addr} {z z2 : Nat} {lst m : List α} {B : Seg} (hS : Stt E s kn (B :: S) F L F0 nx0) (hw : wantedL ops s.fr o = some true)
    (ho : o.op = .call ⟨.builtin .append, #[x, y], ats⟩) (hd : o.dst = some d) (ht : ApT E.P ats dd.e dd.sz) (hx : lkO E.NG kn x = some (.slice a lst.length z)) (hy : lkO E.NG kn y = some (.slice a2 m.length z2)) (hO : Own dd F a z lst B) (hz : Frz dd F a2 z2 m) (hb : lst.length + m.length < 1000000000)
    (k : ∀ s' a' z' B', Own dd F a' z' (lst ++ m) B' → Stt E s' ((d, .slice a' (lst ++ m).length z') :: kn) (B' :: S) F L F0 nx0 → QW E l ops s' Q) : QW E (o :: l) ops s Q := K.apF hS (RS.start []) rfl hw ho hd ht hx hy hO hz hb [] rfl rfl (fun j hj => by cases hj) fun s' _ a' z' B' hc h _ => k s' a' z' B' hc h
end
/-! ### A piece of a row of one's own, looked at -/
def OwnV {α : Type} (d : El α) (F : FZ) (a : Option Addr) (z : Nat) (m : List α) (B : Seg) : Prop :=
  (a = none ∧ z = 0 ∧ m = []) ∨ ∃ i off cs e ez own, a = some ⟨i, off, none⟩ ∧ B = [(i, .row cs e ez own)] ∧ Cells d F m ((cs.drop off).take (m.length * d.sz)) ∧ off + m.length * d.sz ≤ cs.length
theorem Cells.mid {α : Type} {d : El α} {F : FZ} {l : List α} {cs : List Value} (h : Cells d F l cs) {lo hi : Int} (hc : 0 ≤ lo ∧ lo ≤ hi ∧ hi ≤ (l.length : Int)) (ex : List Value) :
    Cells d F (mid l lo hi) (((cs ++ ex).drop (lo.toNat * d.sz)).take ((mid l lo hi).length * d.sz)) ∧ lo.toNat * d.sz + (mid l lo hi).length * d.sz ≤ (cs ++ ex).length := by
  have hml : (_root_.Go.Proofs.YtjcbhbncncbdjaaGreatDoorAi.mid l lo hi).length = hi.toNat - lo.toNat := by unfold _root_.Go.Proofs.YtjcbhbncncbdjaaGreatDoorAi.mid; rw [List.length_drop, List.length_take]; omega
  have hlen := h.len
  have h1 : lo.toNat * d.sz + (hi.toNat - lo.toNat) * d.sz = hi.toNat * d.sz := by rw [← Nat.add_mul]; congr 1; omega
  have h2 : hi.toNat * d.sz ≤ l.length * d.sz := Nat.mul_le_mul_right _ (by omega)
  rw [hml]
  refine ⟨?_, by rw [List.length_append, h1, hlen]; omega⟩
  have := (h.take hi.toNat).drop lo.toNat
  rw [show (l.take hi.toNat).drop lo.toNat = _root_.Go.Proofs.YtjcbhbncncbdjaaGreatDoorAi.mid l lo hi from rfl] at this
  have e : ((cs ++ ex).drop (lo.toNat * d.sz)).take ((hi.toNat - lo.toNat) * d.sz) = (cs.take (hi.toNat * d.sz)).drop (lo.toNat * d.sz) := by
    rw [List.drop_take, List.drop_append, List.take_append]
    have e1 : hi.toNat * d.sz - lo.toNat * d.sz = (hi.toNat - lo.toNat) * d.sz := by rw [← Nat.sub_mul]
    rw [e1, List.length_drop]
    have e2 : (hi.toNat - lo.toNat) * d.sz - (cs.length - lo.toNat * d.sz) = 0 := by omega
    rw [e2, List.take_zero, List.append_nil]
  rw [e]; exact this
theorem Own.view {α : Type} {d : El α} {F : FZ} {a : Option Addr} {z : Nat} {l : List α} {B : Seg} (h : Own d F a z l B) {lo hi : Int} (hc : 0 ≤ lo ∧ lo ≤ hi ∧ hi ≤ (l.length : Int)) {m : Nat} (hs : d.sz = m) :
    ∃ a', slSl a l.length z (some lo) (some hi) (some m) = some (.slice a' (mid l lo hi).length z) ∧ OwnV d F a' z (mid l lo hi) B := by
  subst hs
  have hml : (mid l lo hi).length = (hi - lo).toNat := by unfold mid; rw [List.length_drop, List.length_take]; omega
  rcases h with ⟨rfl, rfl, rfl, rfl⟩ | ⟨i, cs, ex, rfl, rfl, rfl, hC⟩
  · simp only [List.length_nil] at hc
    refine ⟨none, ?_, .inl ⟨rfl, rfl, by simp [mid]⟩⟩
    show (if lo = 0 ∧ hi = 0 ∧ 0 = 0 ∧ 0 = 0 then some (Value.slice none 0 0) else none) = _
    rw [if_pos ⟨by omega, by omega, rfl, rfl⟩, hml]
    have : (hi - lo).toNat = 0 := by omega
    rw [this]
  · obtain ⟨h1, h2⟩ := hC.mid hc ex
    refine ⟨some ⟨i, 0 + lo.toNat * d.sz, none⟩, ?_, .inr ⟨i, 0 + lo.toNat * d.sz, cs ++ ex, d.e, d.sz, true, rfl, rfl, by rw [Nat.zero_add]; exact h1, by rw [Nat.zero_add]; exact h2⟩⟩
    show (if 0 ≤ lo ∧ lo ≤ hi ∧ hi ≤ (l.length : Int) ∧ (d.sz = 0 ∨ d.sz = d.sz) then some (Value.slice (some ⟨i, 0 + lo.toNat * d.sz, none⟩) (hi - lo).toNat d.sz) else none) = _
    rw [if_pos ⟨hc.1, hc.2.1, hc.2.2, .inr rfl⟩, hml]
/-- The beginning of a row of one's own is one's own. -/
theorem Own.pre {α : Type} {d : El α} {F : FZ} {a : Option Addr} {z : Nat} {l : List α} {B : Seg} (h : Own d F a z l B) {hi : Int} (hc : 0 ≤ (0 : Int) ∧ 0 ≤ hi ∧ hi ≤ (l.length : Int)) {m : Nat} (hs : d.sz = m) :
    slSl a l.length z (some 0) (some hi) (some m) = some (.slice a (mid l 0 hi).length z) ∧ Own d F a z (mid l 0 hi) B := by
  subst hs
  have hml : (mid l 0 hi).length = (hi - 0).toNat := by unfold mid; rw [List.length_drop, List.length_take]; omega
  rcases h with ⟨rfl, rfl, rfl, rfl⟩ | ⟨i, cs, ex, rfl, rfl, rfl, hC⟩
  · simp only [List.length_nil] at hc
    refine ⟨?_, .inl ⟨rfl, rfl, by simp [mid], rfl⟩⟩
    show (if (0 : Int) = 0 ∧ hi = 0 ∧ 0 = 0 ∧ 0 = 0 then some (Value.slice none 0 0) else none) = _
    rw [if_pos ⟨rfl, by omega, rfl, rfl⟩, hml]
    have : (hi - 0).toNat = 0 := by omega
    rw [this]
  · refine ⟨?_, .inr ⟨i, cs.take (hi.toNat * d.sz), cs.drop (hi.toNat * d.sz) ++ ex, rfl, rfl, by rw [← List.append_assoc, List.take_append_drop], by simpa [mid] using hC.take hi.toNat⟩⟩
    show (if (0 : Int) ≤ 0 ∧ 0 ≤ hi ∧ hi ≤ (l.length : Int) ∧ (d.sz = 0 ∨ d.sz = d.sz) then some (Value.slice (some ⟨i, 0 + (0 : Int).toNat * d.sz, none⟩) (hi - 0).toNat d.sz) else none) = _
    rw [if_pos ⟨hc.1, hc.2.1, hc.2.2, .inr rfl⟩, hml]
    simp
section
variable {E : Env} {s : St} {kn : Kn} {S : List Seg} {F : FZ} {L : List Seg} {F0 : FZ} {nx0 : Nat} {l : List Oper} {ops : Array Oper} {o : Oper} {inf : Option (List (List Nat))} {zs : List Nat} {rs : List Rec} {n : Nat} {qs ls : List Nat} {as ns ds : List (Nat × Nat)} {Q : St → Prop} {d : Nat} {v : Value}
theorem K.cvV {t u e2 : TypeId} {x : Operand} {a : Option Addr} {z p : Nat} {lst : List UInt8} {B : Seg} (hS : Stt E s kn S F L F0 nx0) (hq : RS zs rs n qs ls as ns ds) (hi : okI inf = true) (hw : wantedL ops s.fr o = some true) (ho : o.op = .convert t u x) (hd : o.dst = some d)
    (hx : lkO E.NG kn x = some (.slice a lst.length z)) (hO : OwnV (elB e2) F a z lst B) (hp : nthS S p = B)
    (h0 : ∀ ρ : Operand → Value, ρ x = .slice none 0 0 → aopOf (.convert t u x) E.P s.nx o.type ρ none = some (strV [], .none))
    (h1 : ∀ (ρ : Operand → Value) i off cs e3 z3 own, ρ x = .slice (some ⟨i, off, none⟩) lst.length z → Cells (elB e2) F lst ((cs.drop off).take lst.length) → off + lst.length ≤ cs.length → aopOf (.convert t u x) E.P s.nx o.type ρ (some (.row cs e3 z3 own)) = some (strV lst, .none))
    (hu : subN (headI inf) (qs ++ ls) = true) (k : ∀ s' rs', Stt E s' ((d, strV lst) :: kn) S F L F0 nx0 → RS zs rs' (n + 1) qs (n :: ls) as ns ds → KW E l ops (tailI inf) rs' s' Q) : KW E (o :: l) ops inf rs s Q := by
  rcases hO with ⟨rfl, rfl, rfl⟩ | ⟨i, off, cs, e, ez, own, rfl, rfl, hC, hlen⟩
  · refine KW.op hi hw (by rw [ho]; rfl) hq none (by rw [ho]; show tgtV (opv E.NG s.fr x) = _; rw [hS.lk hx]; rfl) (v := strV []) (by rw [ho]; exact h0 _ (hS.lk hx)) (fun i h => (by cases h)) fun rs' _ hr _ => k _ rs' ?_ hr
    rw [hd]; exact hS.put d _
  · have hpl : p < S.length := nthS_lt (by rw [hp]; simp)
    have hb : s.H.get i = some (.row cs e ez own) := hS.mem.at (k := p) (by rw [nthS_app S L p hpl, hp])
    have hs1 : (elB e2).sz = 1 := rfl
    rw [hs1, Nat.mul_one] at hC hlen
    refine KW.op hi hw (by rw [ho]; rfl) hq (some i) (by rw [ho]; show tgtV (opv E.NG s.fr x) = _; rw [hS.lk hx]; rfl) (v := strV lst) (by rw [ho]; show aopOf (.convert t u x) E.P s.nx o.type (opv E.NG s.fr) (s.H.get i) = _; rw [hb]; exact h1 _ i off cs e ez own (hS.lk hx) hC hlen) (fun i' h => by obtain rfl := Option.some.inj h; exact hq.has0 hu) fun rs' _ hr _ => k _ rs' ?_ hr
    rw [hd]; exact hS.put d _
theorem q_cvV {t u e2 : TypeId} {x : Operand} {a : Option Addr} {z p : Nat} {lst : List UInt8} {B : Seg} (hS : Stt E s kn S F L F0 nx0) (hw : wantedL ops s.fr o = some true) (ho : o.op = .convert t u x) (hd : o.dst = some d)
    (hx : lkO E.NG kn x = some (.slice a lst.length z)) (hO : OwnV (elB e2) F a z lst B) (hp : nthS S p = B)
    (h0 : ∀ ρ : Operand → Value, ρ x = .slice none 0 0 → aopOf (.convert t u x) E.P s.nx o.type ρ none = some (strV [], .none))
    (h1 : ∀ (ρ : Operand → Value) i off cs e3 z3 own, ρ x = .slice (some ⟨i, off, none⟩) lst.length z → Cells (elB e2) F lst ((cs.drop off).take lst.length) → off + lst.length ≤ cs.length → aopOf (.convert t u x) E.P s.nx o.type ρ (some (.row cs e3 z3 own)) = some (strV lst, .none))
    (k : ∀ s', Stt E s' ((d, strV lst) :: kn) S F L F0 nx0 → QW E l ops s' Q) : QW E (o :: l) ops s Q := K.cvV hS (RS.start []) rfl hw ho hd hx hO hp h0 h1 rfl fun s' _ h _ => k s' h
end
theorem thenQ_exit {N : St → Prop} {Q : Exit → St → Prop} {i : Nat} {s : St} (h : Q (.exit i) s) : thenQ N Q (.exit i) s := h
theorem thenQ_ret {N : St → Prop} {Q : Exit → St → Prop} {s : St} (h : Q .ret s) : thenQ N Q .ret s := h
theorem pr_bind {α β : Type} {P : Program} : ∀ {x : Sem α} {f : α → Sem β} {a : α}, pureRun P x = some a → pureRun P (x >>= f) = pureRun P (f a)
  | .pure _, f, a, h => by obtain rfl := Option.some.inj h; rfl
  | .program k, f, a, h => pr_bind (x := k P) h
  | .mark _ k, f, a, h => pr_bind (x := k) h
/-! ### Functions that call themselves -/
def fixN {X R : Type} (body : (X → Option R) → X → Option R) : Nat → X → Option R
  | 0, _ => none
  | n + 1, x => body (fixN body n) x
open Classical in
noncomputable def fixO {X R : Type} (body : (X → Option R) → X → Option R) (x : X) : Option R := if h : ∃ r n, fixN body n x = some r then some h.choose else none
theorem fixO_some {X R : Type} {body : (X → Option R) → X → Option R} {x : X} {r : R} (h : fixO body x = some r) : ∃ n, fixN body n x = some r := by
  unfold fixO at h
  split at h
  · rename_i hx
    obtain rfl := Option.some.inj h
    exact hx.choose_spec
  · cases h
/-- With enough rounds it answers so: then it answers so. -/
theorem fixO_of {X R : Type} {body : (X → Option R) → X → Option R} {x : X} {r : R} (m : Nat) (h : ∀ n, m ≤ n → fixN body n x = some r) (hd : ∀ n r', fixN body n x = some r' → ∀ k, fixN body (n + k) x = some r') : fixO body x = some r := by
  unfold fixO
  have hx : ∃ r n, fixN body n x = some r := ⟨r, m, h m (Nat.le_refl _)⟩
  rw [dif_pos hx]
  obtain ⟨n, hn⟩ := hx.choose_spec
  have := hd n _ hn m
  rw [h (n + m) (by omega)] at this
  exact this.symm
theorem fixN_le {X R : Type} {body : (X → Option R) → X → Option R} (hm : ∀ f g : X → Option R, (∀ x r, f x = some r → g x = some r) → ∀ x r, body f x = some r → body g x = some r) : ∀ (n k : Nat) (x : X) (r : R), fixN body n x = some r → fixN body (n + k) x = some r
  | 0, k, x, r, h => by cases h
  | n + 1, k, x, r, h => by
    rw [show n + 1 + k = (n + k) + 1 by omega]
    exact hm _ _ (fun y q hy => fixN_le hm n k y q hy) x r h
theorem jn_and_t {c a : Bool} (h : c = true) : Value.bool a = .bool (c && a) := by rw [h]; rfl
theorem jn_and_f {c a : Bool} (h : c = false) : Value.bool false = .bool (c && a) := by rw [h]; rfl
theorem jn_or_t {c a : Bool} (h : c = true) : Value.bool true = .bool (c || a) := by rw [h]; rfl
theorem jn_or_f {c a : Bool} (h : c = false) : Value.bool a = .bool (c || a) := by rw [h]; rfl
theorem jn_cd_t {c a b : Bool} (h : c = true) : Value.bool a = .bool (bif c then a else b) := by rw [h]; rfl
theorem jn_cd_f {c a b : Bool} (h : c = false) : Value.bool b = .bool (bif c then a else b) := by rw [h]; rfl
/-! ### Parts of a region -/
theorem seqO_app (ops : Array Oper) (E : Env) (call : CallF) : ∀ (l m : List Oper) (s : St), seqO (l ++ m) ops E call s = (match seqO l ops E call s with | some s' => seqO m ops E call s' | Option.none => Option.none)
  | [], m, s => rfl
  | o :: l, m, s => by
    rw [List.cons_append, seqO_cons, seqO_cons]
    cases wantedL ops s.fr o with
    | none => rfl
    | some b =>
      cases b with
      | false => exact seqO_app ops E call l m _
      | true =>
        show seqNext (seqO (l ++ m)) ops E call (stepO E call o s) = (match seqNext (seqO l) ops E call (stepO E call o s) with | some s' => seqO m ops E call s' | Option.none => Option.none)
        cases stepO E call o s with
        | none => rfl
        | some s' => exact seqO_app ops E call l m s'
def takeL : Nat → List Oper → List Oper
  | 0, _ => []
  | n + 1, a :: l => a :: takeL n l
  | _ + 1, [] => []
def dropL : Nat → List Oper → List Oper
  | 0, l => l
  | n + 1, _ :: l => dropL n l
  | _ + 1, [] => []
theorem take_dropL : ∀ (n : Nat) (l : List Oper), takeL n l ++ dropL n l = l
  | 0, l => rfl
  | n + 1, a :: l => by simp [takeL, dropL, take_dropL n l]
  | _ + 1, [] => rfl
theorem q_cut {E : Env} {l : List Oper} {ops : Array Oper} {s : St} {Q : St → Prop} (m : Nat) (J : St → Prop) (h : QW E (takeL m l) ops s J) (hk : ∀ s', J s' → QW E (dropL m l) ops s' Q) : QW E l ops s Q := by
  obtain ⟨s1, n1, h1, hj⟩ := h
  obtain ⟨s2, n2, h2, hq⟩ := hk s1 hj
  refine ⟨s2, max n1 n2, fun n hn => ?_, hq⟩
  rw [← take_dropL m l, seqO_app, h1 n (by omega)]
  exact h2 n (by omega)
end Go.Proofs.YtjcbhbncncbdjaaGreatDoorAi
