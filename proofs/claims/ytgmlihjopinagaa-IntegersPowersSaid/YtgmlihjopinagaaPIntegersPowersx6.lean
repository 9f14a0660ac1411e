-- Written by myprint.py of this session over the kit's print program; contracts by hand where it does not serve.
import Derived.Test.YtgmlihjopinagaaPIntegersPowersx0
namespace Go.Proofs.Ytgmlihjopinagaa.PIntegersPowers
open Go.RowKit Go.Proofs.YtgmlihjopinagaaW.PrintWords Go.Proofs.YtgmlihjopinagaaW.PrintLast Go.Proofs.YtgmlihjopinagaaW.PrintMore
attribute [local go_sem] max2_int min2_int max_two min_two max_three min_three max_four min_four   -- for this text's walks alone
set_option linter.unusedVariables false
set_option linter.unusedSimpArgs false

/-- A state of type 82 at block g of W; what its slices lead to came in by w0. -/
def IsS82 (w0 W : World) (g : Nat) (f0 : Int) (f1 : Int) : Prop := W.heap[g]? = some (.cells #[.int .i64 f0, .int .i64 f1] 82 (0, 0)) ∧ w0.heap.size ≤ g
theorem IsS82.grown {w0 W : World} {g : Nat} {f0 : Int} {f1 : Int} {W1 : World} {row : Option Nat} (h : IsS82 w0 W g f0 f1) (hw : W.grownBy W1 row) (hne : some g ≠ row) : IsS82 w0 W1 g f0 f1 := by
  obtain ⟨hb, hg⟩ := h
  exact ⟨blk_grown hb hw hne, hg⟩
theorem IsS82.own_neN {w0 W : World} {g : Nat} {f0 : Int} {f1 : Int} {α : Type} {d : Kd α} {e : Nat} {base : Nat} {ok : Nat → Prop} {v : Value} {xs : List α} (h : IsS82 w0 W g f0 f1) (ho : Kd.N d e W base ok v xs) (ht : e ≠ 82) : some g ≠ v.ownBlock := by
  obtain ⟨hb, hg⟩ := h
  exact Kd.N_ne ho hb ht
theorem IsS82.fresh {w0 W : World} {g : Nat} {f0 : Int} {f1 : Int} (h : IsS82 w0 W g f0 f1) : ∀ k, W.heap.size ≤ k → k ≠ g := by
  obtain ⟨hb, hg⟩ := h
  exact Kd.freshB hb
theorem IsS82.kept {w0 W : World} {g : Nat} {f0 : Int} {f1 : Int} {W1 : World} {S : Nat → Prop} (h : IsS82 w0 W g f0 f1) (hk : Kept W W1 S) (hne : ¬ S g) : IsS82 w0 W1 g f0 f1 := by
  obtain ⟨hb, hg⟩ := h
  exact ⟨blk_kept hb hk hne, hg⟩
theorem IsS82.below {w0 W : World} {g : Nat} {f0 : Int} {f1 : Int} {W1 : World} (h : IsS82 w0 W g f0 f1) (hw : Below W.heap.size W W1) : IsS82 w0 W1 g f0 f1 := h.grown (grown_of_below hw none) (by simp)
theorem IsS82.alloc {w0 W : World} {g : Nat} {f0 : Int} {f1 : Int} (h : IsS82 w0 W g f0 f1) (o : Obj) : IsS82 w0 (W.alloc o) g f0 f1 := h.below (below_alloc (Below.refl _ _) o)
theorem IsS82.drewN {w0 W : World} {g : Nat} {f0 : Int} {f1 : Int} (h : IsS82 w0 W g f0 f1) (m : Nat) : IsS82 w0 (W.drewN m) g f0 f1 := h
theorem IsS82.drew {w0 W : World} {g : Nat} {f0 : Int} {f1 : Int} (h : IsS82 w0 W g f0 f1) : IsS82 w0 W.drew g f0 f1 := h
theorem IsS82.at_ {w0 W : World} {g : Nat} {f0 : Int} {f1 : Int} {w' : World} {m : Nat} (hq : W.drewN m = w') (h : IsS82 w0 W g f0 f1) : IsS82 w0 w' g f0 f1 := by subst hq; exact IsS82.drewN h m
theorem IsS82.apart {w0 W : World} {g : Nat} {f0 : Int} {f1 : Int} {α : Type} {d : Kd α} {e : Nat} {base : Nat} {ok : Nat → Prop} {v : Value} {xs : List α} (h : IsS82 w0 W g f0 f1) (ho : d.R e W base ok v xs) (ht : ∀ q, q ∈ e :: d.E → q ≠ 82) : d.R e W base (fun k => ok k ∧ k ≠ g) v xs := by
  obtain ⟨hb, hg⟩ := h
  exact Kd.R_types ho hb ht
theorem IsS82.own_ne {w0 W : World} {g : Nat} {f0 : Int} {f1 : Int} {α : Type} {d : Kd α} {e : Nat} {base : Nat} {ok : Nat → Prop} {v : Value} {xs : List α} (h : IsS82 w0 W g f0 f1) (ho : d.R e W base ok v xs) (ht : e ≠ 82) : some g ≠ v.ownBlock := by
  obtain ⟨hb, hg⟩ := h
  exact Kd.R_ne ho hb ht
theorem IsS82.apartQ {w0 W : World} {g : Nat} {f0 : Int} {f1 : Int} {α : Type} {d : Kd α} {e : Nat} {base : Nat} {ok : Nat → Prop} {v : Value} {xs : List α} (h : IsS82 w0 W g f0 f1) (ho : d.Q e W base ok v xs) (ht : ∀ q, q ∈ e :: d.E → q ≠ 82) : d.Q e W base (fun k => ok k ∧ k ≠ g) v xs := by
  obtain ⟨hb, hg⟩ := h
  exact Kd.Q_types ho hb ht
theorem IsS82.own_neQ {w0 W : World} {g : Nat} {f0 : Int} {f1 : Int} {α : Type} {d : Kd α} {e : Nat} {base : Nat} {ok : Nat → Prop} {v : Value} {xs : List α} (h : IsS82 w0 W g f0 f1) (ho : d.Q e W base ok v xs) (ht : e ≠ 82) : some g ≠ v.ownBlock := by
  obtain ⟨hb, hg⟩ := h
  exact Kd.Q_ne ho hb ht
theorem IsS82.apartS {w0 W : World} {g : Nat} {f0 : Int} {f1 : Int} {α : Type} {d : Kd α} {e : Nat} {base : Nat} {ok : Nat → Prop} {v : Value} {xs : List α} (h : IsS82 w0 W g f0 f1) (ho : d.S e W base ok v xs) (ht : ∀ q, q ∈ e :: d.E → q ≠ 82) : d.S e W base (fun k => ok k ∧ k ≠ g) v xs := by
  obtain ⟨hb, hg⟩ := h
  exact Kd.S_types ho hb ht
theorem IsS82.own_neS {w0 W : World} {g : Nat} {f0 : Int} {f1 : Int} {α : Type} {d : Kd α} {e : Nat} {base : Nat} {ok : Nat → Prop} {v : Value} {xs : List α} (h : IsS82 w0 W g f0 f1) (ho : d.S e W base ok v xs) (ht : e ≠ 82) : some g ≠ v.ownBlock := by
  obtain ⟨hb, hg⟩ := h
  exact Kd.S_ne ho hb ht
theorem IsS82.lt {w0 W : World} {g : Nat} {f0 : Int} {f1 : Int} (h : IsS82 w0 W g f0 f1) : g < W.heap.size := by
  obtain ⟨hb, hg⟩ := h
  exact blk_lt hb
theorem IsS82.ge {w0 W : World} {g : Nat} {f0 : Int} {f1 : Int} (h : IsS82 w0 W g f0 f1) : w0.heap.size ≤ g := by
  obtain ⟨hb, hg⟩ := h
  exact hg
theorem IsS82.ne_blk {w0 W : World} {g : Nat} {f0 : Int} {f1 : Int} {a : Nat} {cs : Array Value} {t : TypeId} {fr : Nat × Nat} (h : IsS82 w0 W g f0 f1) (hb2 : W.heap[a]? = some (.cells cs t fr)) (ht : t ≠ 82) : g ≠ a := by
  obtain ⟨hb, hg⟩ := h
  rintro rfl
  rw [hb] at hb2
  injection hb2 with hb2
  injection hb2 with _ ht2
  exact ht ht2.symm
theorem IsS82.far {w0 W : World} {g : Nat} {f0 : Int} {f1 : Int} {p : Addr} (h : IsS82 w0 W g f0 f1) (hne : g ≠ p.block) (u : Value) : IsS82 w0 (W.setCell p u) g f0 f1 := by
  obtain ⟨hb, hg⟩ := h
  exact ⟨blk_far hb hne u, hg⟩
theorem cellS82_0 {W : World} {g : Nat} {f0 : Int} {f1 : Int} (h : W.heap[g]? = some (.cells #[.int .i64 f0, .int .i64 f1] 82 (0, 0))) : W.cell? ⟨g, 0, none⟩ = some (.int .i64 f0) := (blk_cell h 0).trans rfl
theorem IsS82.set_0 {w0 W : World} {g : Nat} {f0 : Int} {f1 : Int} (h : IsS82 w0 W g f0 f1) (x : Int) : IsS82 w0 (W.setCell ⟨g, 0, none⟩ (.int .i64 x)) g x f1 := by
  obtain ⟨hb, hg⟩ := h
  exact ⟨by simpa using blk_set hb 0 (.int .i64 x), hg⟩
theorem cellS82_1 {W : World} {g : Nat} {f0 : Int} {f1 : Int} (h : W.heap[g]? = some (.cells #[.int .i64 f0, .int .i64 f1] 82 (0, 0))) : W.cell? ⟨g, 1, none⟩ = some (.int .i64 f1) := (blk_cell h 1).trans rfl
theorem IsS82.set_1 {w0 W : World} {g : Nat} {f0 : Int} {f1 : Int} (h : IsS82 w0 W g f0 f1) (x : Int) : IsS82 w0 (W.setCell ⟨g, 1, none⟩ (.int .i64 x)) g f0 x := by
  obtain ⟨hb, hg⟩ := h
  exact ⟨by simpa using blk_set hb 1 (.int .i64 x), hg⟩
theorem IsS82.new (w0 W : World) (f0 : Int) (f1 : Int) (hB : Below w0.heap.size w0 W) : IsS82 w0 (W.alloc (.cells #[.int .i64 f0, .int .i64 f1] 82)) W.heap.size f0 f1 := ⟨by simpa using heap_alloc_new W _, hB.size⟩

/-! ### integers_span_has: function 80 -/
def integers_span_has.f (s0_0 : Int) (s0_1 : Int) (a1 : Int) : Option (Int × Int) := some (mn s0_0 a1, mx s0_1 a1)
set_option maxHeartbeats 8000000 in
set_option maxRecDepth 100000 in
theorem integers_span_has.calls (g : Nat) (s0_0 : Int) (s0_1 : Int) (a1 : Int) (r1 : Int) (r2 : Int) (w0 w : World) (hI : IsS82 w0 w g s0_0 s0_1) (hB : Below w0.heap.size w0 w) (h : integers_span_has.f s0_0 s0_1 a1 = some (r1, r2)) :
    Calls Try.prog 80 #[.pointer (some ⟨g, 0, none⟩), .int .i64 a1] w fun e w' => e = .returned (.tuple #[]) ∧ IsS82 w0 w' g r1 r2 ∧ Below w0.heap.size w0 w' ∧ KeepBut w w' g none := by
  have H : (some (mn s0_0 a1, mx s0_1 a1)) = some (r1, r2) := h
  clear h
  simp only [Option.some.injEq, Prod.mk.injEq] at H
  obtain ⟨H1, H2⟩ := H
  have m1 : (if a1 < s0_0 then a1 else s0_0) = r1 := H1
  have m2 : (if s0_1 < a1 then a1 else s0_1) = r2 := H2
  clear H1 H2
  have HI := Aside0.mk hI
  have HB := Aside0.mk hB
  obtain ⟨hb, hg⟩ := hI
  have c0 := cellS82_0 hb
  have c1 := cellS82_1 hb
  have f0 : w.frozen? ⟨g, 0, none⟩ = false := by simp [World.frozen?, hb]
  have f1 : w.frozen? ⟨g, 1, none⟩ = false := by simp [World.frozen?, hb]
  clear hb hg hB
  go_enter Try.func80, Try.ntmps80
  go_wp2
  go_region
  go_end0
  have hg := IsS82.ge HI.out
  exact ⟨rfl, IsS82.drew (IsS82.set_1 (IsS82.set_0 HI.out r1) r2), below_drew (below_set (below_set HB.out hg) hg), keep_drew (KeepBut.set_ (KeepBut.set_ (KeepBut.refl w g none) _ _) _ _)⟩


/-! ### integers_around: function 78 -/
theorem integers_around.take_foldl (f : Int → Int → Int) (l : List Int) (z : Int) (i : Nat) (h : i < l.length) : (l.take (i + 1)).foldl f z = f ((l.take i).foldl f z) (rd l (i : Int)) := by
  rw [List.take_succ_eq_append_getElem h, List.foldl_append]
  simp [rd, List.getD, h]
def integers_around.f (l0 : List Int) : Option (Int × Int) := if l0 = [] then none else some (l0.foldl mn (rd l0 0), l0.foldl mx (rd l0 0))
set_option maxHeartbeats 8000000 in
set_option maxRecDepth 100000 in
theorem integers_around.calls (A0 : Option Addr) (c0 : Nat) (l0 : List Int) (r1 : Int) (r2 : Int) (w : World) (hr0 : Kd.C (Kd.int .i64) w A0 l0.length l0) (hc0 : l0.length ≤ c0) (h : integers_around.f l0 = some (r1, r2)) :
    Calls Try.prog 78 #[.slice A0 l0.length c0] w fun e w' => e = .returned (.agg #[.int .i64 r1, .int .i64 r2]) ∧ Below w.heap.size w w' := by
  have HR0 := Aside0.mk hr0
  have HC0 := Aside0.mk hc0
  clear hr0 hc0
  have HB := Aside0.mk (Below.refl w.heap.size w)
  by_cases hl : l0 = []
  · rw [integers_around.f, if_pos hl] at h; exact absurd h (by simp)
  rw [integers_around.f, if_neg hl] at h
  simp only [Option.some.injEq, Prod.mk.injEq] at h
  obtain ⟨H1, H2⟩ := h
  have hpos : 0 < l0.length := List.length_pos_iff.mpr hl
  clear hl
  have K1 := Aside0.mk H1
  have K2 := Aside0.mk H2
  clear H1 H2
  obtain ⟨ad, e0, hx⟩ := Kd.at_int HR0.out 0 (by omega) (by exact_mod_cast hpos)
  cases e0
  have hx' : w.cell? ad = some (.int .i64 (rd l0 0)) := hx
  have hx1 : ∀ o, (w.alloc o).cell? ad = some (.int .i64 (rd l0 0)) := fun o => by rw [World.cell?_alloc_some w ad o (by rw [hx']; rfl)]; exact hx'
  have hx2 : ∀ o o', ((w.alloc o).alloc o').cell? ad = some (.int .i64 (rd l0 0)) := fun o o' => by rw [World.cell?_alloc_some _ ad o' (by rw [hx1 o]; rfl)]; exact hx1 o
  have hm0 : (l0.take 0).foldl mn (rd l0 0) = rd l0 0 := rfl
  have hM0 : (l0.take 0).foldl mx (rd l0 0) = rd l0 0 := rfl
  have K3 := Aside0.mk hm0
  have K4 := Aside0.mk hM0
  clear hx hx' hm0 hM0
  have hmax := Kd.C_max HR0.out
  go_enter Try.func78, Try.ntmps78
  go_wp2
  go_region
  go_wp2
  clear hx1 hx2
  go_loopw [15] (fun v15 w' => ∃ i : Nat, Aside0 (i ≤ l0.length) ∧ v15 = .int .i64 i ∧ Aside0 (w'.heap[w.heap.size + 1]? = some (.cells #[.int .i64 ((l0.take i).foldl mn (rd l0 0)), .int .i64 ((l0.take i).foldl mx (rd l0 0))] 82 (0, 0))) ∧ Aside0 (w'.heap[w.heap.size]? = some (.cells #[.int .i64 0, .int .i64 0] 82 (0, 0))) ∧ Aside0 (Below w.heap.size w w')) (fun v15 _ => l0.length - (intOf v15).toNat)
  case atStart =>
    refine ⟨0, ⟨by omega⟩, rfl, ⟨?_⟩, ⟨?_⟩, ⟨?_⟩⟩
    · rw [K3.out, K4.out]
      refine blk_drew ?_
      have := blk_new (w.alloc (Obj.cells #[Value.int IntKind.i64 0, Value.int IntKind.i64 0] 82)) (Obj.cells #[Value.int IntKind.i64 (rd l0 0), Value.int IntKind.i64 (rd l0 0)] 82)
      rw [World.size_alloc] at this
      exact this
    · exact blk_drew (blk_alloc (blk_new w _) _)
    · exact below_drew (below_alloc (below_alloc HB.out _) _)
  case round =>
    obtain ⟨i, hi, rfl, HG, HT, HW⟩ := hrel
    by_cases hlt : i < l0.length
    · obtain ⟨ad', e0', hx⟩ := Kd.at_int (Kd.C_below HR0.out HW.out) (i : Int) (by omega) (by exact_mod_cast hlt)
      cases e0'
      rw [Int.toNat_natCast] at hx
      have hs1 : (l0.take (i + 1)).foldl mn (rd l0 0) = mn ((l0.take i).foldl mn (rd l0 0)) (rd l0 (i : Int)) := integers_around.take_foldl mn l0 (rd l0 0) i hlt
      have hs2 : (l0.take (i + 1)).foldl mx (rd l0 0) = mx ((l0.take i).foldl mx (rd l0 0)) (rd l0 (i : Int)) := integers_around.take_foldl mx l0 (rd l0 0) i hlt
      generalize hlo : (l0.take i).foldl mn (rd l0 0) = lo at *
      generalize hhi : (l0.take i).foldl mx (rd l0 0) = hi' at *
      have A1 := Aside0.mk (show integers_span_has.f lo hi' (rd l0 (i : Int)) = some (mn lo (rd l0 (i : Int)), mx hi' (rd l0 (i : Int))) from rfl)
      have S1 := Aside0.mk hs1
      have S2 := Aside0.mk hs2
      clear hs1 hs2 hlo hhi
      have HI := Aside0.mk (show IsS82 w wr (w.heap.size + 1) lo hi' from ⟨HG.out, by omega⟩)
      generalize hM : mn lo (rd l0 (i : Int)) = lo2 at *
      generalize hM2 : mx hi' (rd l0 (i : Int)) = hi2 at *
      have S3 := Aside0.mk hM
      have S4 := Aside0.mk hM2
      clear hM hM2 K3 K4
      go_wp2_with (first | (go_at_call 80; (with_reducible refine (integers_span_has.calls (w.heap.size + 1) lo hi' _ lo2 hi2 w _ HI.out HW.out A1.out).mono ?_); rintro e w' ⟨rfl, hi2, hb2, hk2⟩; have N1 := Aside0.mk hi2; have N2 := Aside0.mk hb2; have N3 := Aside0.mk hk2; clear hi2 hb2 hk2))
      go_roundw
      case rel => exact ⟨i + 1, ⟨by omega⟩, by go_num, ⟨by rw [S1.out, S2.out]; exact N1.out.1⟩, ⟨KeepBut.blk N3.out HT.out (by omega) (by simp)⟩, N2⟩
      case measure => simp [intOf]; omega
    · have hil : i = l0.length := by have := hi.out; omega
      subst hil
      rw [List.take_length, K1.out, K2.out] at HG
      have c0 := blk_cell HG.out 0
      have c1 := blk_cell HG.out 1
      have c2 := blk_cell HT.out 0
      have c3 := blk_cell HT.out 1
      have f2 := blk_frozen HT.out 0
      have f3 := blk_frozen HT.out 1
      simp only [List.getElem?_toArray, List.getElem?_cons_zero, List.getElem?_cons_succ] at c0 c1 c2 c3
      go_wp2
      refine bodyPost_ret (results_single rfl (.cell w.heap.size 82 #[.int .i64 r1, .int .i64 r2] (0, 0) _ rfl (blk_put (cs := #[.int .i64 r1, .int .i64 0]) (blk_put (cs := #[.int .i64 0, .int .i64 0]) HT.out 0 _ rfl) 1 _ rfl) Try.underlying82 rfl (by kernel_rfl) .nil)) rfl ?_
      exact ⟨rfl, below_set (below_set HW.out (Nat.le_refl _)) (Nat.le_refl _)⟩


end Go.Proofs.Ytgmlihjopinagaa.PIntegersPowers
