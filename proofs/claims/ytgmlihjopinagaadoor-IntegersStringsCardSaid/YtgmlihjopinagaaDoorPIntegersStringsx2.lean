-- Written by myprint.py of this session over the kit's print program; contracts by hand where it does not serve.
import Derived.Test.YtgmlihjopinagaaDoorPIntegersStringsx0
namespace Go.Proofs.YtgmlihjopinagaaDoor.PIntegersStrings
open Go.RowKit Go.Proofs.YtgmlihjopinagaaDoorW.PrintWords Go.Proofs.YtgmlihjopinagaaDoorW.PrintLast Go.Proofs.YtgmlihjopinagaaDoorW.PrintMore
attribute [local go_sem] max2_int min2_int max_two min_two max_three min_three max_four min_four   -- for this text's walks alone
set_option linter.unusedVariables false
set_option linter.unusedSimpArgs false

/-! ### integers_check_want: function 23 -/
def integers_check_want.f (a0 : Int) (a1 : Bool) (a2 : Int) : Option (Int) := if a0 = 0 then (if a1 = true then (some a0) else (some a2)) else (some a0)
set_option maxHeartbeats 8000000 in
set_option maxRecDepth 100000 in
theorem integers_check_want.calls (a0 : Int) (a1 : Bool) (a2 : Int) (r : Int) (w : World) (h : integers_check_want.f a0 a1 a2 = some r) :
    Calls Tryd.prog 23 #[.int .i64 a0, .bool a1, .int .i64 a2] w fun e w' => e = .returned (.int .i64 r) ∧ Drawn0 w w' := by
  have H : (if a0 = 0 then (if a1 = true then (some a0) else (some a2)) else (some a0)) = some r := h
  clear h
  by_cases c4 : a0 = 0
  · rw [if_pos c4] at H
    have c4b0 : (a0 == 0) = true := beq_iff_eq.mpr c4
    have c4b1 : (a0 != 0) = false := bne_eq_false_iff_eq.mpr c4
    clear c4
    by_cases c5 : a1 = true
    · subst c5
      have H1 : (some a0) = some r := by rw [if_pos rfl] at H; exact H
      clear H
      have H := H1
      clear H1
      as_aux_lemma =>
        obtain rfl := Option.some.inj H
        go_enter Tryd.func23, Tryd.ntmps23
        go_wp2
        go_ret
        exact ⟨by first | rfl | (simp; done) | (simp [*]; done), by repeat (first | exact Drawn0.refl _ | apply Drawn0.step)⟩
    · replace c5 := Bool.eq_false_iff.mpr c5
      subst c5
      have H1 : (some a2) = some r := by rw [if_neg (show ¬ (false = true) by decide)] at H; exact H
      clear H
      have H := H1
      clear H1
      as_aux_lemma =>
        obtain rfl := Option.some.inj H
        go_enter Tryd.func23, Tryd.ntmps23
        go_wp2
        go_ret
        exact ⟨by first | rfl | (simp; done) | (simp [*]; done), by repeat (first | exact Drawn0.refl _ | apply Drawn0.step)⟩
  · rw [if_neg c4] at H
    have c4b0 : (a0 == 0) = false := beq_eq_false_iff_ne.mpr c4
    have c4b1 : (a0 != 0) = true := bne_iff_ne.mpr c4
    as_aux_lemma =>
      obtain rfl := Option.some.inj H
      go_enter Tryd.func23, Tryd.ntmps23
      go_wp2
      go_ret
      exact ⟨by first | rfl | (simp; done) | (simp [*]; done), by repeat (first | exact Drawn0.refl _ | apply Drawn0.step)⟩

/-! ### integers_check_err: function 24 -/
def integers_check_err.f (a0 : Int) : Option (Int) := some a0
set_option maxHeartbeats 8000000 in
set_option maxRecDepth 100000 in
theorem integers_check_err.calls (a0 : Int) (r : Int) (w : World) (h : integers_check_err.f a0 = some r) :
    Calls Tryd.prog 24 #[.int .i64 a0] w fun e w' => e = .returned (.int .i64 r) ∧ Drawn0 w w' := by
  have H : (some a0) = some r := h
  clear h
  as_aux_lemma =>
    obtain rfl := Option.some.inj H
    go_enter Tryd.func24, Tryd.ntmps24
    go_wp2
    go_ret
    exact ⟨by first | rfl | (simp; done) | (simp [*]; done), by repeat (first | exact Drawn0.refl _ | apply Drawn0.step)⟩

/-! ### integers_number_integer: function 26 -/
def integers_number_integer.f (a0 : Int) : Option (Bool) := if (-2147483648) ≤ a0 then (some (decide (a0 ≤ 2147483647))) else (some false)
set_option maxHeartbeats 8000000 in
set_option maxRecDepth 100000 in
theorem integers_number_integer.calls (a0 : Int) (r : Bool) (w : World) (h : integers_number_integer.f a0 = some r) :
    Calls Tryd.prog 26 #[.int .i64 a0] w fun e w' => e = .returned (.bool r) ∧ Drawn0 w w' := by
  have H : (if (-2147483648) ≤ a0 then (some (decide (a0 ≤ 2147483647))) else (some false)) = some r := h
  clear h
  by_cases c2 : (-2147483648) ≤ a0
  · rw [if_pos c2] at H
    have c2b0 : decide ((-2147483648) ≤ a0) = true := decide_eq_true c2
    clear c2
    as_aux_lemma =>
      obtain rfl := Option.some.inj H
      go_enter Tryd.func26, Tryd.ntmps26
      go_wp2
      go_ret
      exact ⟨by first | rfl | (simp; done) | (simp [*]; done), by repeat (first | exact Drawn0.refl _ | apply Drawn0.step)⟩
  · rw [if_neg c2] at H
    have c2b0 : decide ((-2147483648) ≤ a0) = false := decide_eq_false c2
    clear c2
    as_aux_lemma =>
      obtain rfl := Option.some.inj H
      go_enter Tryd.func26, Tryd.ntmps26
      go_wp2
      go_ret
      exact ⟨by first | rfl | (simp; done) | (simp [*]; done), by repeat (first | exact Drawn0.refl _ | apply Drawn0.step)⟩

/-! ### integers_check_integers: function 29 -/
def integers_check_integers.l0 : Nat → Int → List Int → Int → Int → Option (Int)
  | 0, _, _, _, _ => none
  | k + 1, x0, x7, x8, x9 => if x9 < x8 then (if 0 ≤ x9 then (if x9 < (x7.length : Int) then ((integers_number_integer.f (rd x7 x9)).bind fun t102 => ((integers_check_want.f x0 t102 2).bind fun t103 => (integers_check_integers.l0 k t103 x7 x8 (wrap64 (x9 + 1))))) else (none)) else (none)) else (some x0)
def integers_check_integers.f (k : Nat) (a0 : Int) (l1 : List Int) : Option (Int) := integers_check_integers.l0 k a0 l1 (l1.length : Int) 0
theorem integers_check_integers.mono_l : ∀ k, (∀ y0 y1 y2 y3, LeO (integers_check_integers.l0 k y0 y1 y2 y3) (integers_check_integers.l0 (k + 1) y0 y1 y2 y3))
  | 0 => fun _ _ _ _ r h => by simp [integers_check_integers.l0] at h
  | k + 1 => by
    have ih0 := integers_check_integers.mono_l k
    · intro y0 y1 y2 y3
      unfold integers_check_integers.l0
      repeat' first
      | (with_reducible exact ih0 _ _ _ _)
      | (with_reducible exact LeO.refl _)
      | (with_reducible exact LeO.none _)
      | (with_reducible refine LeO.ite ?_ ?_)
      | (with_reducible refine LeO.bind ?_ (fun _ => ?_))
      | exact ih0 _ _ _ _
      | exact LeO.none _
      | refine LeO.ite ?_ ?_
      | refine LeO.bind ?_ (fun _ => ?_)
theorem integers_check_integers.mono : ∀ a0 a1 k, LeO (integers_check_integers.f k a0 a1) (integers_check_integers.f (k + 1) a0 a1) := by
  intro a0 a1 k
  have ih0 := integers_check_integers.mono_l k
  unfold integers_check_integers.f
  repeat' first
      | (with_reducible exact ih0 _ _ _ _)
      | (with_reducible exact LeO.refl _)
      | (with_reducible exact LeO.none _)
      | (with_reducible refine LeO.ite ?_ ?_)
      | (with_reducible refine LeO.bind ?_ (fun _ => ?_))
      | exact ih0 _ _ _ _
      | exact LeO.none _
      | refine LeO.ite ?_ ?_
      | refine LeO.bind ?_ (fun _ => ?_)
set_option maxHeartbeats 8000000 in
set_option maxRecDepth 100000 in
theorem integers_check_integers.calls (k : Nat) (a0 : Int) (A1 : Option Addr) (c1 : Nat) (l1 : List Int) (r : Int) (w : World) (hr1 : Kd.C (Kd.int .i64) w A1 l1.length l1) (hc1 : l1.length ≤ c1) (h : integers_check_integers.f k a0 l1 = some r) :
    Calls Tryd.prog 29 #[.int .i64 a0, .slice A1 l1.length c1] w fun e w' => e = .returned (.int .i64 r) ∧ Drawn0 w w' := by
  have HR1 := Aside0.mk hr1
  have HC1 := Aside0.mk hc1
  clear hr1 hc1
  have H : (integers_check_integers.l0 k a0 l1 (l1.length : Int) 0) = some r := h
  clear h
  have H' := Aside0.mk H
  clear H
  go_enter Tryd.func29, Tryd.ntmps29
  go_wp2
  go_loopg [0, 9] k (fun kq v0 v9 w' => ∃ (x0_1 : Int) (x9_1 : Int), v0 = .int .i64 x0_1 ∧ v9 = .int .i64 x9_1 ∧ Aside0 (integers_check_integers.l0 kq x0_1 l1 (l1.length : Int) x9_1 = some r) ∧ Aside0 (kq ≤ k) ∧ Drawn0 w w')
  case atStart => exact ⟨(a0), (0), (by first | rfl | (simp; done) | (simp [*]; done)), (by first | rfl | (simp; done) | (simp [*]; done)), H', ⟨Nat.le_refl _⟩, by repeat (first | exact Drawn0.refl _ | apply Drawn0.step)⟩
  case round =>
    clear H'
    try clear c1
    try clear c2
    try clear p2
    obtain ⟨x0_1, x9_1, rfl, rfl, HA, HK1, ⟨m1, rfl⟩⟩ := hrel
    cases gk with
    | zero => exact absurd HA.out (by simp [integers_check_integers.l0])
    | succ k1 =>
      have H := HA.out
      clear HA
      simp only [integers_check_integers.l0] at H
      by_cases c3 : x9_1 < (l1.length : Int)
      · rw [if_pos c3] at H
        have c3b0 : decide (x9_1 < (l1.length : Int)) = true := decide_eq_true c3
        clear c3
        by_cases c4 : 0 ≤ x9_1
        · rw [if_pos c4] at H
          have c4b0 : decide (0 ≤ x9_1) = true := decide_eq_true c4
          clear c4
          by_cases c5 : x9_1 < (l1.length : Int)
          · rw [if_pos c5] at H
            have c5b0 : decide (x9_1 < (l1.length : Int)) = true := decide_eq_true c5
            clear c5
            replace H := Option.bind_eq_some_iff.mp H
            obtain ⟨t102, A60, H⟩ := H
            replace H : ((integers_check_want.f x0_1 t102 2).bind fun t103 => (integers_check_integers.l0 k1 t103 l1 (l1.length : Int) (wrap64 (x9_1 + 1)))) = some r := H
            have A6 := Aside0.mk A60
            clear A60
            replace H := Option.bind_eq_some_iff.mp H
            obtain ⟨t103, A70, H⟩ := H
            replace H : (integers_check_integers.l0 k1 t103 l1 (l1.length : Int) (wrap64 (x9_1 + 1))) = some r := H
            have A7 := Aside0.mk A70
            clear A70
            as_aux_lemma =>
              have H' := Aside0.mk H
              clear H
              have p101 : 0 ≤ (x9_1 : Int) := of_decide_eq_true (by first | (with_reducible assumption) | assumption)
              have q101 : x9_1 < (l1.length : Int) := of_decide_eq_true (by first | (with_reducible assumption) | assumption)
              obtain ⟨ad101, e101, hx101_0⟩ := Kd.at_int HR1.out x9_1 p101 q101
              cases e101
              replace p101 := eq_true p101
              replace q101 := eq_true q101
              go_wp2_with (first | ((with_reducible refine gate_callee (f := 26) rfl ?_); refine goesL_ (some 15) rfl rfl Tryd.func26 (by kernel_rfl) rfl #[.int .i64 (rd l1 x9_1)] rfl (by (try simp only [List.map_toArray, List.map_cons, List.map_nil]); first | done | rfl | (simp only [List.length_drop, List.length_take]; rfl)) ?_; (with_reducible refine (integers_number_integer.calls (rd l1 x9_1) t102 _ A6.out).mono ?_); rintro e w' ⟨rfl, ⟨nd, rfl⟩⟩; refine ⟨_, rfl, ?_⟩) | ((with_reducible refine gate_callee (f := 23) rfl ?_); refine goesL_ (some 16) rfl rfl Tryd.func23 (by kernel_rfl) rfl #[.int .i64 x0_1, .bool t102, .int .i64 2] rfl (by (try simp only [List.map_toArray, List.map_cons, List.map_nil]); first | done | rfl | (simp only [List.length_drop, List.length_take]; rfl)) ?_; (with_reducible refine (integers_check_want.calls x0_1 t102 2 t103 _ A7.out).mono ?_); rintro e w' ⟨rfl, ⟨nd, rfl⟩⟩; refine ⟨_, rfl, ?_⟩))
              go_roundg k1
              case measure => have := HK1.out; omega
              case rel => exact ⟨(t103), (wrap64 (x9_1 + 1)), (by first | rfl | (simp; done) | (simp [*]; done)), (by first | rfl | (simp; done) | (simp [*]; done)), H', ⟨by have := HK1.out; omega⟩, by repeat (first | exact Drawn0.refl _ | apply Drawn0.step)⟩
          · rw [if_neg c5] at H
            exact absurd H (by simp)
        · rw [if_neg c4] at H
          exact absurd H (by simp)
      · rw [if_neg c3] at H
        have c3b0 : decide (x9_1 < (l1.length : Int)) = false := decide_eq_false c3
        clear c3
        as_aux_lemma =>
          obtain rfl := Option.some.inj H
          go_wp2
          go_ret
          exact ⟨by first | rfl | (simp; done) | (simp [*]; done), by repeat (first | exact Drawn0.refl _ | apply Drawn0.step)⟩

/-! ### integers_pattern: function 31 -/
def integers_pattern.f (a0 : Int) : Option (Int) := some ((wrap32 (a0)) % 4294967296)
set_option maxHeartbeats 8000000 in
set_option maxRecDepth 100000 in
theorem integers_pattern.calls (a0 : Int) (r : Int) (w : World) (h : integers_pattern.f a0 = some r) :
    Calls Tryd.prog 31 #[.int .i64 a0] w fun e w' => e = .returned (.int .u32 r) ∧ Drawn0 w w' := by
  have H : (some ((wrap32 (a0)) % 4294967296)) = some r := h
  clear h
  as_aux_lemma =>
    obtain rfl := Option.some.inj H
    go_enter Tryd.func31, Tryd.ntmps31
    go_wp2
    go_ret
    exact ⟨by first | rfl | (simp; done) | (simp [*]; done), by repeat (first | exact Drawn0.refl _ | apply Drawn0.step)⟩

/-! ### integers_signed: function 32 -/
def integers_signed.f (a0 : Int) : Option (Int) := some (wrap64 (wrap32 (a0)))
set_option maxHeartbeats 8000000 in
set_option maxRecDepth 100000 in
theorem integers_signed.calls (a0 : Int) (r : Int) (w : World) (h : integers_signed.f a0 = some r) :
    Calls Tryd.prog 32 #[.int .u32 a0] w fun e w' => e = .returned (.int .i64 r) ∧ Drawn0 w w' := by
  have H : (some (wrap64 (wrap32 (a0)))) = some r := h
  clear h
  as_aux_lemma =>
    obtain rfl := Option.some.inj H
    go_enter Tryd.func32, Tryd.ntmps32
    go_wp2
    go_ret
    exact ⟨by first | rfl | (simp; done) | (simp [*]; done), by repeat (first | exact Drawn0.refl _ | apply Drawn0.step)⟩

/-! ### formularylaw07_awake: function 4 -/
def formularylaw07_awake.f : Option (Bool) := some true
theorem formularylaw07_awake.calls (r : Bool) (w : World) (h : formularylaw07_awake.f = some r) :
    Calls Tryd.prog 4 #[] w fun e w' => e = .returned (.bool r) ∧ Below w.heap.size w w' := by
  obtain rfl := Option.some.inj h
  exact Go.Proofs.YtgmlihjopinagaaDoorAi.awake_ok w


/-! ### integers_ParseInteger: function 5 -/
def wantF (c : Int) (b : Bool) (e : Int) : Int := if c = 0 then (if b = true then c else e) else c
theorem want_any (c : Int) (b : Bool) (e : Int) (w : World) : Calls Tryd.prog 23 #[.int .i64 c, .bool b, .int .i64 e] w fun x w' => x = .returned (.int .i64 (wantF c b e)) ∧ Drawn0 w w' :=
  integers_check_want.calls c b e (wantF c b e) w (by unfold integers_check_want.f wantF; split <;> (try split) <;> rfl)
/-- What is behind a sign. -/
def restL (l : List UInt8) : List UInt8 := if (Lib.trimPrefix l [45] == l) = true then Lib.trimPrefix l [43] else Lib.trimPrefix l [45]
def digB (l : List UInt8) : Bool := if Lib.trimS (restL l) digs = [] then !(restL l).isEmpty else false
def errP (s : ByteArray) : Int := wantF (wantF (wantF 0 (!s.data.toList.isEmpty) 17) (decide ((s.size : Int) ≤ 40)) 8) (digB s.data.toList) 7
def integers_ParseInteger.f (s : ByteArray) : Option (Int × Int) :=
  if s.size ≤ 281474976710656 then
    (if errP s = 0 then (match Lib.atoiAll s.data.toList with | .ok v => if (-2147483648 ≤ v ∧ v ≤ 2147483647) then some (v, 0) else some (0, 28) | .range => some (0, 28) | _ => none) else some (0, errP s))
  else none
theorem trimPrefix_le (l p : List UInt8) : (Lib.trimPrefix l p).length ≤ l.length := by
  unfold Lib.trimPrefix
  split
  · rw [List.length_drop]; omega
  · exact Nat.le_refl _
theorem bel2 {w w' w2 : World} {n : Nat} (hb : Below w.heap.size w w') (hb2 : Below (w'.drewN n).heap.size (w'.drewN n) w2) : Below w.heap.size w w2 :=
  (hb.trans (Joins.below_draws _ _ _)).trans (hb2.mono (Nat.le_trans hb.size (Nat.le_refl _)))
set_option maxHeartbeats 8000000 in
set_option maxRecDepth 100000 in
theorem integers_ParseInteger.callsG (s : ByteArray) (r1 r2 : Int) (w : World) (hG : Gd w) (h : integers_ParseInteger.f s = some (r1, r2)) :
    Calls Tryd.prog 5 #[.string s] w fun e w' => e = .returned (.tuple #[.int .i64 r1, .int .i64 r2]) ∧ Below w.heap.size w w' := by
  have HG := Aside0.mk hG
  clear hG
  unfold integers_ParseInteger.f at h
  split at h
  case isFalse => cases h
  rename_i hs0
  have hS := Aside0.mk hs0
  clear hs0
  have hsz : ∀ p : List UInt8, (ByteArray.mk (Lib.trimPrefix s.data.toList p).toArray).size ≤ 9223372036854775807 := fun p => by
    have h1 := trimPrefix_le s.data.toList p
    have h2 := hS.out
    have h3 : s.size = s.data.toList.length := Lib.size_eq s
    have h4 : (ByteArray.mk (Lib.trimPrefix s.data.toList p).toArray).size = (Lib.trimPrefix s.data.toList p).length := by rw [Lib.size_eq]
    omega
  have hZ := Aside0.mk hsz
  clear hsz
  have hL : s.toList = s.data.toList := Lib.toList_data s
  have key : ∀ R : List UInt8, R = restL s.data.toList → errP s = wantF (wantF (wantF 0 (!s.toList.isEmpty) 17) (decide ((s.size : Int) ≤ 40)) 8) (if Lib.trimS R digs = [] then !R.isEmpty else false) 7 := by
    rintro R rfl
    unfold errP digB
    rw [hL]
  have hK := Aside0.mk key
  clear key
  have hH := Aside0.mk h
  clear h
  by_cases hA : (Lib.trimPrefix s.data.toList [45] == s.toList) = true
  · have hR : Lib.trimPrefix s.data.toList [43] = restL s.data.toList := by unfold restL; rw [if_pos (by rw [← hL]; rw [hL] at hA ⊢; exact hA)]
    have e0 := hK.out _ hR
    clear hR
    by_cases hD : Lib.trimS (Lib.trimPrefix s.data.toList [43]) digs = []
    · rw [if_pos hD] at e0
      replace hH := hH.out
      rw [e0] at hH
      clear hK e0 hL
      split at hH
      · rename_i hE
        have b0 := bne_eq_false_iff_eq.mpr hE
        clear hE
        split at hH
        · rename_i v hat
          have HAT := Aside0.mk hat
          clear hat
          split at hH
          · rename_i hv
            obtain ⟨rfl, rfl⟩ : v = r1 ∧ (0 : Int) = r2 := by simpa using hH
            have hi : integers_number_integer.f v = some true := by unfold integers_number_integer.f; rw [if_pos hv.1, decide_eq_true hv.2]
            clear hH hv
            go_enter Tryd.func5, Tryd.ntmps5
            go_wp2_with (first | (go_at_call 21; refine (trimPrefix_any _ _ _).mono ?_; rintro e w' ⟨rfl, rfl⟩) | (go_at_call 22; refine (trim_digits _ _ (hZ.out _)).mono ?_; rintro e w' ⟨rfl, hb⟩) | (go_at_call 23; refine (want_any _ _ _ _).mono ?_; rintro e w' ⟨rfl, ⟨nd, rfl⟩⟩) | (go_at_call 25; refine (atoi_ok s (by have := hS.out; omega) v HAT.out _).mono ?_; rintro e w2 ⟨rfl, hb2⟩) | (go_at_call 26; refine (integers_number_integer.calls v true _ hi).mono ?_; rintro e w' ⟨rfl, ⟨nd, rfl⟩⟩))
            go_ret2
            exact ⟨rfl, by first | exact pw_below_drewN (bel2 hb hb2) _ | exact bel2 hb hb2 | exact pw_below_drewN hb _⟩
          · rename_i hv
            obtain ⟨rfl, rfl⟩ : (0 : Int) = r1 ∧ (28 : Int) = r2 := by simpa using hH
            have hi : integers_number_integer.f v = some false := by
              unfold integers_number_integer.f
              split
              · rw [decide_eq_false (by omega)]
              · rfl
            clear hH hv
            go_enter Tryd.func5, Tryd.ntmps5
            go_wp2_with (first | (go_at_call 21; refine (trimPrefix_any _ _ _).mono ?_; rintro e w' ⟨rfl, rfl⟩) | (go_at_call 22; refine (trim_digits _ _ (hZ.out _)).mono ?_; rintro e w' ⟨rfl, hb⟩) | (go_at_call 23; refine (want_any _ _ _ _).mono ?_; rintro e w' ⟨rfl, ⟨nd, rfl⟩⟩) | (go_at_call 25; refine (atoi_ok s (by have := hS.out; omega) v HAT.out _).mono ?_; rintro e w2 ⟨rfl, hb2⟩) | (go_at_call 26; refine (integers_number_integer.calls v false _ hi).mono ?_; rintro e w' ⟨rfl, ⟨nd, rfl⟩⟩))
            go_ret2
            exact ⟨rfl, by first | exact pw_below_drewN (bel2 hb hb2) _ | exact bel2 hb hb2 | exact pw_below_drewN hb _⟩
        · rename_i hat
          have HAT := Aside0.mk hat
          clear hat
          obtain ⟨rfl, rfl⟩ : (0 : Int) = r1 ∧ (28 : Int) = r2 := by simpa using hH
          clear hH
          go_enter Tryd.func5, Tryd.ntmps5
          go_wp2_with (first | (go_at_call 21; refine (trimPrefix_any _ _ _).mono ?_; rintro e w' ⟨rfl, rfl⟩) | (go_at_call 22; refine (trim_digits _ _ (hZ.out _)).mono ?_; rintro e w' ⟨rfl, hb⟩) | (go_at_call 23; refine (want_any _ _ _ _).mono ?_; rintro e w' ⟨rfl, ⟨nd, rfl⟩⟩) | (go_at_call 25; refine (atoi_range s hS.out HAT.out _ (Gd.below (Gd.below HG.out hb) (Joins.below_draws _ _ _))).mono ?_; rintro e w2 ⟨⟨n2, t2, p2, rfl⟩, hb2⟩))
          go_ret2
          exact ⟨rfl, by first | exact pw_below_drewN (bel2 hb hb2) _ | exact bel2 hb hb2 | exact pw_below_drewN hb _⟩
        · cases hH
      · rename_i hE
        have b0 := bne_iff_ne.mpr hE
        clear hE
        simp only [Option.some.injEq, Prod.mk.injEq] at hH
        obtain ⟨rfl, rfl⟩ := hH
        go_enter Tryd.func5, Tryd.ntmps5
        go_wp2_with (first | (go_at_call 21; refine (trimPrefix_any _ _ _).mono ?_; rintro e w' ⟨rfl, rfl⟩) | (go_at_call 22; refine (trim_digits _ _ (hZ.out _)).mono ?_; rintro e w' ⟨rfl, hb⟩) | (go_at_call 23; refine (want_any _ _ _ _).mono ?_; rintro e w' ⟨rfl, ⟨nd, rfl⟩⟩) | (go_at_call 24; refine (integers_check_err.calls _ _ _ rfl).mono ?_; rintro e w' ⟨rfl, ⟨nd, rfl⟩⟩))
        go_ret2
        exact ⟨rfl, by first | exact pw_below_drewN (bel2 hb hb2) _ | exact bel2 hb hb2 | exact pw_below_drewN hb _⟩
    · rw [if_neg hD] at e0
      replace hH := hH.out
      rw [e0] at hH
      clear hK e0 hL
      split at hH
      · rename_i hE
        have b0 := bne_eq_false_iff_eq.mpr hE
        clear hE
        split at hH
        · rename_i v hat
          have HAT := Aside0.mk hat
          clear hat
          split at hH
          · rename_i hv
            obtain ⟨rfl, rfl⟩ : v = r1 ∧ (0 : Int) = r2 := by simpa using hH
            have hi : integers_number_integer.f v = some true := by unfold integers_number_integer.f; rw [if_pos hv.1, decide_eq_true hv.2]
            clear hH hv
            go_enter Tryd.func5, Tryd.ntmps5
            go_wp2_with (first | (go_at_call 21; refine (trimPrefix_any _ _ _).mono ?_; rintro e w' ⟨rfl, rfl⟩) | (go_at_call 22; refine (trim_digits _ _ (hZ.out _)).mono ?_; rintro e w' ⟨rfl, hb⟩) | (go_at_call 23; refine (want_any _ _ _ _).mono ?_; rintro e w' ⟨rfl, ⟨nd, rfl⟩⟩) | (go_at_call 25; refine (atoi_ok s (by have := hS.out; omega) v HAT.out _).mono ?_; rintro e w2 ⟨rfl, hb2⟩) | (go_at_call 26; refine (integers_number_integer.calls v true _ hi).mono ?_; rintro e w' ⟨rfl, ⟨nd, rfl⟩⟩))
            go_ret2
            exact ⟨rfl, by first | exact pw_below_drewN (bel2 hb hb2) _ | exact bel2 hb hb2 | exact pw_below_drewN hb _⟩
          · rename_i hv
            obtain ⟨rfl, rfl⟩ : (0 : Int) = r1 ∧ (28 : Int) = r2 := by simpa using hH
            have hi : integers_number_integer.f v = some false := by
              unfold integers_number_integer.f
              split
              · rw [decide_eq_false (by omega)]
              · rfl
            clear hH hv
            go_enter Tryd.func5, Tryd.ntmps5
            go_wp2_with (first | (go_at_call 21; refine (trimPrefix_any _ _ _).mono ?_; rintro e w' ⟨rfl, rfl⟩) | (go_at_call 22; refine (trim_digits _ _ (hZ.out _)).mono ?_; rintro e w' ⟨rfl, hb⟩) | (go_at_call 23; refine (want_any _ _ _ _).mono ?_; rintro e w' ⟨rfl, ⟨nd, rfl⟩⟩) | (go_at_call 25; refine (atoi_ok s (by have := hS.out; omega) v HAT.out _).mono ?_; rintro e w2 ⟨rfl, hb2⟩) | (go_at_call 26; refine (integers_number_integer.calls v false _ hi).mono ?_; rintro e w' ⟨rfl, ⟨nd, rfl⟩⟩))
            go_ret2
            exact ⟨rfl, by first | exact pw_below_drewN (bel2 hb hb2) _ | exact bel2 hb hb2 | exact pw_below_drewN hb _⟩
        · rename_i hat
          have HAT := Aside0.mk hat
          clear hat
          obtain ⟨rfl, rfl⟩ : (0 : Int) = r1 ∧ (28 : Int) = r2 := by simpa using hH
          clear hH
          go_enter Tryd.func5, Tryd.ntmps5
          go_wp2_with (first | (go_at_call 21; refine (trimPrefix_any _ _ _).mono ?_; rintro e w' ⟨rfl, rfl⟩) | (go_at_call 22; refine (trim_digits _ _ (hZ.out _)).mono ?_; rintro e w' ⟨rfl, hb⟩) | (go_at_call 23; refine (want_any _ _ _ _).mono ?_; rintro e w' ⟨rfl, ⟨nd, rfl⟩⟩) | (go_at_call 25; refine (atoi_range s hS.out HAT.out _ (Gd.below (Gd.below HG.out hb) (Joins.below_draws _ _ _))).mono ?_; rintro e w2 ⟨⟨n2, t2, p2, rfl⟩, hb2⟩))
          go_ret2
          exact ⟨rfl, by first | exact pw_below_drewN (bel2 hb hb2) _ | exact bel2 hb hb2 | exact pw_below_drewN hb _⟩
        · cases hH
      · rename_i hE
        have b0 := bne_iff_ne.mpr hE
        clear hE
        simp only [Option.some.injEq, Prod.mk.injEq] at hH
        obtain ⟨rfl, rfl⟩ := hH
        go_enter Tryd.func5, Tryd.ntmps5
        go_wp2_with (first | (go_at_call 21; refine (trimPrefix_any _ _ _).mono ?_; rintro e w' ⟨rfl, rfl⟩) | (go_at_call 22; refine (trim_digits _ _ (hZ.out _)).mono ?_; rintro e w' ⟨rfl, hb⟩) | (go_at_call 23; refine (want_any _ _ _ _).mono ?_; rintro e w' ⟨rfl, ⟨nd, rfl⟩⟩) | (go_at_call 24; refine (integers_check_err.calls _ _ _ rfl).mono ?_; rintro e w' ⟨rfl, ⟨nd, rfl⟩⟩))
        go_ret2
        exact ⟨rfl, by first | exact pw_below_drewN (bel2 hb hb2) _ | exact bel2 hb hb2 | exact pw_below_drewN hb _⟩
  · replace hA := Bool.eq_false_iff.mpr hA
    have hR : Lib.trimPrefix s.data.toList [45] = restL s.data.toList := by unfold restL; rw [if_neg (by rw [← hL]; rw [hL] at hA ⊢; simp [hA])]
    have e0 := hK.out _ hR
    clear hR
    by_cases hD : Lib.trimS (Lib.trimPrefix s.data.toList [45]) digs = []
    · rw [if_pos hD] at e0
      replace hH := hH.out
      rw [e0] at hH
      clear hK e0 hL
      split at hH
      · rename_i hE
        have b0 := bne_eq_false_iff_eq.mpr hE
        clear hE
        split at hH
        · rename_i v hat
          have HAT := Aside0.mk hat
          clear hat
          split at hH
          · rename_i hv
            obtain ⟨rfl, rfl⟩ : v = r1 ∧ (0 : Int) = r2 := by simpa using hH
            have hi : integers_number_integer.f v = some true := by unfold integers_number_integer.f; rw [if_pos hv.1, decide_eq_true hv.2]
            clear hH hv
            go_enter Tryd.func5, Tryd.ntmps5
            go_wp2_with (first | (go_at_call 21; refine (trimPrefix_any _ _ _).mono ?_; rintro e w' ⟨rfl, rfl⟩) | (go_at_call 22; refine (trim_digits _ _ (hZ.out _)).mono ?_; rintro e w' ⟨rfl, hb⟩) | (go_at_call 23; refine (want_any _ _ _ _).mono ?_; rintro e w' ⟨rfl, ⟨nd, rfl⟩⟩) | (go_at_call 25; refine (atoi_ok s (by have := hS.out; omega) v HAT.out _).mono ?_; rintro e w2 ⟨rfl, hb2⟩) | (go_at_call 26; refine (integers_number_integer.calls v true _ hi).mono ?_; rintro e w' ⟨rfl, ⟨nd, rfl⟩⟩))
            go_ret2
            exact ⟨rfl, by first | exact pw_below_drewN (bel2 hb hb2) _ | exact bel2 hb hb2 | exact pw_below_drewN hb _⟩
          · rename_i hv
            obtain ⟨rfl, rfl⟩ : (0 : Int) = r1 ∧ (28 : Int) = r2 := by simpa using hH
            have hi : integers_number_integer.f v = some false := by
              unfold integers_number_integer.f
              split
              · rw [decide_eq_false (by omega)]
              · rfl
            clear hH hv
            go_enter Tryd.func5, Tryd.ntmps5
            go_wp2_with (first | (go_at_call 21; refine (trimPrefix_any _ _ _).mono ?_; rintro e w' ⟨rfl, rfl⟩) | (go_at_call 22; refine (trim_digits _ _ (hZ.out _)).mono ?_; rintro e w' ⟨rfl, hb⟩) | (go_at_call 23; refine (want_any _ _ _ _).mono ?_; rintro e w' ⟨rfl, ⟨nd, rfl⟩⟩) | (go_at_call 25; refine (atoi_ok s (by have := hS.out; omega) v HAT.out _).mono ?_; rintro e w2 ⟨rfl, hb2⟩) | (go_at_call 26; refine (integers_number_integer.calls v false _ hi).mono ?_; rintro e w' ⟨rfl, ⟨nd, rfl⟩⟩))
            go_ret2
            exact ⟨rfl, by first | exact pw_below_drewN (bel2 hb hb2) _ | exact bel2 hb hb2 | exact pw_below_drewN hb _⟩
        · rename_i hat
          have HAT := Aside0.mk hat
          clear hat
          obtain ⟨rfl, rfl⟩ : (0 : Int) = r1 ∧ (28 : Int) = r2 := by simpa using hH
          clear hH
          go_enter Tryd.func5, Tryd.ntmps5
          go_wp2_with (first | (go_at_call 21; refine (trimPrefix_any _ _ _).mono ?_; rintro e w' ⟨rfl, rfl⟩) | (go_at_call 22; refine (trim_digits _ _ (hZ.out _)).mono ?_; rintro e w' ⟨rfl, hb⟩) | (go_at_call 23; refine (want_any _ _ _ _).mono ?_; rintro e w' ⟨rfl, ⟨nd, rfl⟩⟩) | (go_at_call 25; refine (atoi_range s hS.out HAT.out _ (Gd.below (Gd.below HG.out hb) (Joins.below_draws _ _ _))).mono ?_; rintro e w2 ⟨⟨n2, t2, p2, rfl⟩, hb2⟩))
          go_ret2
          exact ⟨rfl, by first | exact pw_below_drewN (bel2 hb hb2) _ | exact bel2 hb hb2 | exact pw_below_drewN hb _⟩
        · cases hH
      · rename_i hE
        have b0 := bne_iff_ne.mpr hE
        clear hE
        simp only [Option.some.injEq, Prod.mk.injEq] at hH
        obtain ⟨rfl, rfl⟩ := hH
        go_enter Tryd.func5, Tryd.ntmps5
        go_wp2_with (first | (go_at_call 21; refine (trimPrefix_any _ _ _).mono ?_; rintro e w' ⟨rfl, rfl⟩) | (go_at_call 22; refine (trim_digits _ _ (hZ.out _)).mono ?_; rintro e w' ⟨rfl, hb⟩) | (go_at_call 23; refine (want_any _ _ _ _).mono ?_; rintro e w' ⟨rfl, ⟨nd, rfl⟩⟩) | (go_at_call 24; refine (integers_check_err.calls _ _ _ rfl).mono ?_; rintro e w' ⟨rfl, ⟨nd, rfl⟩⟩))
        go_ret2
        exact ⟨rfl, by first | exact pw_below_drewN (bel2 hb hb2) _ | exact bel2 hb hb2 | exact pw_below_drewN hb _⟩
    · rw [if_neg hD] at e0
      replace hH := hH.out
      rw [e0] at hH
      clear hK e0 hL
      split at hH
      · rename_i hE
        have b0 := bne_eq_false_iff_eq.mpr hE
        clear hE
        split at hH
        · rename_i v hat
          have HAT := Aside0.mk hat
          clear hat
          split at hH
          · rename_i hv
            obtain ⟨rfl, rfl⟩ : v = r1 ∧ (0 : Int) = r2 := by simpa using hH
            have hi : integers_number_integer.f v = some true := by unfold integers_number_integer.f; rw [if_pos hv.1, decide_eq_true hv.2]
            clear hH hv
            go_enter Tryd.func5, Tryd.ntmps5
            go_wp2_with (first | (go_at_call 21; refine (trimPrefix_any _ _ _).mono ?_; rintro e w' ⟨rfl, rfl⟩) | (go_at_call 22; refine (trim_digits _ _ (hZ.out _)).mono ?_; rintro e w' ⟨rfl, hb⟩) | (go_at_call 23; refine (want_any _ _ _ _).mono ?_; rintro e w' ⟨rfl, ⟨nd, rfl⟩⟩) | (go_at_call 25; refine (atoi_ok s (by have := hS.out; omega) v HAT.out _).mono ?_; rintro e w2 ⟨rfl, hb2⟩) | (go_at_call 26; refine (integers_number_integer.calls v true _ hi).mono ?_; rintro e w' ⟨rfl, ⟨nd, rfl⟩⟩))
            go_ret2
            exact ⟨rfl, by first | exact pw_below_drewN (bel2 hb hb2) _ | exact bel2 hb hb2 | exact pw_below_drewN hb _⟩
          · rename_i hv
            obtain ⟨rfl, rfl⟩ : (0 : Int) = r1 ∧ (28 : Int) = r2 := by simpa using hH
            have hi : integers_number_integer.f v = some false := by
              unfold integers_number_integer.f
              split
              · rw [decide_eq_false (by omega)]
              · rfl
            clear hH hv
            go_enter Tryd.func5, Tryd.ntmps5
            go_wp2_with (first | (go_at_call 21; refine (trimPrefix_any _ _ _).mono ?_; rintro e w' ⟨rfl, rfl⟩) | (go_at_call 22; refine (trim_digits _ _ (hZ.out _)).mono ?_; rintro e w' ⟨rfl, hb⟩) | (go_at_call 23; refine (want_any _ _ _ _).mono ?_; rintro e w' ⟨rfl, ⟨nd, rfl⟩⟩) | (go_at_call 25; refine (atoi_ok s (by have := hS.out; omega) v HAT.out _).mono ?_; rintro e w2 ⟨rfl, hb2⟩) | (go_at_call 26; refine (integers_number_integer.calls v false _ hi).mono ?_; rintro e w' ⟨rfl, ⟨nd, rfl⟩⟩))
            go_ret2
            exact ⟨rfl, by first | exact pw_below_drewN (bel2 hb hb2) _ | exact bel2 hb hb2 | exact pw_below_drewN hb _⟩
        · rename_i hat
          have HAT := Aside0.mk hat
          clear hat
          obtain ⟨rfl, rfl⟩ : (0 : Int) = r1 ∧ (28 : Int) = r2 := by simpa using hH
          clear hH
          go_enter Tryd.func5, Tryd.ntmps5
          go_wp2_with (first | (go_at_call 21; refine (trimPrefix_any _ _ _).mono ?_; rintro e w' ⟨rfl, rfl⟩) | (go_at_call 22; refine (trim_digits _ _ (hZ.out _)).mono ?_; rintro e w' ⟨rfl, hb⟩) | (go_at_call 23; refine (want_any _ _ _ _).mono ?_; rintro e w' ⟨rfl, ⟨nd, rfl⟩⟩) | (go_at_call 25; refine (atoi_range s hS.out HAT.out _ (Gd.below (Gd.below HG.out hb) (Joins.below_draws _ _ _))).mono ?_; rintro e w2 ⟨⟨n2, t2, p2, rfl⟩, hb2⟩))
          go_ret2
          exact ⟨rfl, by first | exact pw_below_drewN (bel2 hb hb2) _ | exact bel2 hb hb2 | exact pw_below_drewN hb _⟩
        · cases hH
      · rename_i hE
        have b0 := bne_iff_ne.mpr hE
        clear hE
        simp only [Option.some.injEq, Prod.mk.injEq] at hH
        obtain ⟨rfl, rfl⟩ := hH
        go_enter Tryd.func5, Tryd.ntmps5
        go_wp2_with (first | (go_at_call 21; refine (trimPrefix_any _ _ _).mono ?_; rintro e w' ⟨rfl, rfl⟩) | (go_at_call 22; refine (trim_digits _ _ (hZ.out _)).mono ?_; rintro e w' ⟨rfl, hb⟩) | (go_at_call 23; refine (want_any _ _ _ _).mono ?_; rintro e w' ⟨rfl, ⟨nd, rfl⟩⟩) | (go_at_call 24; refine (integers_check_err.calls _ _ _ rfl).mono ?_; rintro e w' ⟨rfl, ⟨nd, rfl⟩⟩))
        go_ret2
        exact ⟨rfl, by first | exact pw_below_drewN (bel2 hb hb2) _ | exact bel2 hb hb2 | exact pw_below_drewN hb _⟩


/-! ### formularybase_Power: function 27 -/
def formularybase_Power.l0 : Nat → Int → Int → Int → Option (Int)
  | 0, _, _, _ => none
  | k + 1, x3, x4, x5 => if x5 < x4 then (formularybase_Power.l0 k (wrap64 (x3 + x3)) x4 (wrap64 (x5 + 1))) else (some x3)
def formularybase_Power.f (k : Nat) (a0 : Int) : Option (Int) := formularybase_Power.l0 k 1 a0 0
theorem formularybase_Power.mono_l : ∀ k, (∀ y0 y1 y2, LeO (formularybase_Power.l0 k y0 y1 y2) (formularybase_Power.l0 (k + 1) y0 y1 y2))
  | 0 => fun _ _ _ r h => by simp [formularybase_Power.l0] at h
  | k + 1 => by
    have ih0 := formularybase_Power.mono_l k
    · intro y0 y1 y2
      unfold formularybase_Power.l0
      repeat' first
      | (with_reducible exact ih0 _ _ _)
      | (with_reducible exact LeO.refl _)
      | (with_reducible exact LeO.none _)
      | (with_reducible refine LeO.ite ?_ ?_)
      | (with_reducible refine LeO.bind ?_ (fun _ => ?_))
      | exact ih0 _ _ _
      | exact LeO.none _
      | refine LeO.ite ?_ ?_
      | refine LeO.bind ?_ (fun _ => ?_)
theorem formularybase_Power.mono : ∀ a0 k, LeO (formularybase_Power.f k a0) (formularybase_Power.f (k + 1) a0) := by
  intro a0 k
  have ih0 := formularybase_Power.mono_l k
  unfold formularybase_Power.f
  repeat' first
      | (with_reducible exact ih0 _ _ _)
      | (with_reducible exact LeO.refl _)
      | (with_reducible exact LeO.none _)
      | (with_reducible refine LeO.ite ?_ ?_)
      | (with_reducible refine LeO.bind ?_ (fun _ => ?_))
      | exact ih0 _ _ _
      | exact LeO.none _
      | refine LeO.ite ?_ ?_
      | refine LeO.bind ?_ (fun _ => ?_)
set_option maxHeartbeats 8000000 in
set_option maxRecDepth 100000 in
theorem formularybase_Power.calls (k : Nat) (a0 : Int) (r : Int) (w : World) (h : formularybase_Power.f k a0 = some r) :
    Calls Tryd.prog 27 #[.int .i64 a0] w fun e w' => e = .returned (.int .i64 r) ∧ Drawn0 w w' := by
  have H : (formularybase_Power.l0 k 1 a0 0) = some r := h
  clear h
  have H' := Aside0.mk H
  clear H
  go_enter Tryd.func27, Tryd.ntmps27
  go_wp2
  go_loopg [3, 5] k (fun kq v3 v5 w' => ∃ (x3_1 : Int) (x5_1 : Int), v3 = .int .i64 x3_1 ∧ v5 = .int .i64 x5_1 ∧ Aside0 (formularybase_Power.l0 kq x3_1 a0 x5_1 = some r) ∧ Aside0 (kq ≤ k) ∧ Drawn0 w w')
  case atStart => exact ⟨(1), (0), (by first | rfl | (simp; done) | (simp [*]; done)), (by first | rfl | (simp; done) | (simp [*]; done)), H', ⟨Nat.le_refl _⟩, by repeat (first | exact Drawn0.refl _ | apply Drawn0.step)⟩
  case round =>
    clear H'
    obtain ⟨x3_1, x5_1, rfl, rfl, HA, HK1, ⟨m1, rfl⟩⟩ := hrel
    cases gk with
    | zero => exact absurd HA.out (by simp [formularybase_Power.l0])
    | succ k1 =>
      have H := HA.out
      clear HA
      simp only [formularybase_Power.l0] at H
      by_cases c2 : x5_1 < a0
      · rw [if_pos c2] at H
        have c2b0 : decide (x5_1 < a0) = true := decide_eq_true c2
        clear c2
        as_aux_lemma =>
          have H' := Aside0.mk H
          clear H
          go_wp2
          go_roundg k1
          case measure => have := HK1.out; omega
          case rel => exact ⟨(wrap64 (x3_1 + x3_1)), (wrap64 (x5_1 + 1)), (by first | rfl | (simp; done) | (simp [*]; done)), (by first | rfl | (simp; done) | (simp [*]; done)), H', ⟨by have := HK1.out; omega⟩, by repeat (first | exact Drawn0.refl _ | apply Drawn0.step)⟩
      · rw [if_neg c2] at H
        have c2b0 : decide (x5_1 < a0) = false := decide_eq_false c2
        clear c2
        as_aux_lemma =>
          obtain rfl := Option.some.inj H
          go_wp2
          go_ret
          exact ⟨by first | rfl | (simp; done) | (simp [*]; done), by repeat (first | exact Drawn0.refl _ | apply Drawn0.step)⟩

/-! ### formularybase_Within: function 54 -/
def formularybase_Within.f (a0 : Int) (a1 : Int) (a2 : Int) : Option (Bool) := if a0 < a1 then (some (!true)) else (some (!(decide (a0 > a2))))
set_option maxHeartbeats 8000000 in
set_option maxRecDepth 100000 in
theorem formularybase_Within.calls (a0 : Int) (a1 : Int) (a2 : Int) (r : Bool) (w : World) (h : formularybase_Within.f a0 a1 a2 = some r) :
    Calls Tryd.prog 54 #[.int .i64 a0, .int .i64 a1, .int .i64 a2] w fun e w' => e = .returned (.bool r) ∧ Drawn0 w w' := by
  have H : (if a0 < a1 then (some (!true)) else (some (!(decide (a0 > a2))))) = some r := h
  clear h
  by_cases c4 : a0 < a1
  · rw [if_pos c4] at H
    have c4b0 : decide (a0 < a1) = true := decide_eq_true c4
    clear c4
    as_aux_lemma =>
      obtain rfl := Option.some.inj H
      go_enter Tryd.func54, Tryd.ntmps54
      go_wp2
      go_ret
      exact ⟨by first | rfl | (simp; done) | (simp [*]; done), by repeat (first | exact Drawn0.refl _ | apply Drawn0.step)⟩
  · rw [if_neg c4] at H
    have c4b0 : decide (a0 < a1) = false := decide_eq_false c4
    clear c4
    as_aux_lemma =>
      obtain rfl := Option.some.inj H
      go_enter Tryd.func54, Tryd.ntmps54
      go_wp2
      go_ret
      exact ⟨by first | rfl | (simp; done) | (simp [*]; done), by repeat (first | exact Drawn0.refl _ | apply Drawn0.step)⟩

/-! ### formularyref07_IsInteger: function 28 -/
def formularyref07_IsInteger.f (a0 : Int) : Option (Bool) := (formularybase_Within.f a0 (-2147483648) 2147483647).bind fun t104 => (some t104)
set_option maxHeartbeats 8000000 in
set_option maxRecDepth 100000 in
theorem formularyref07_IsInteger.calls (a0 : Int) (r : Bool) (w : World) (h : formularyref07_IsInteger.f a0 = some r) :
    Calls Tryd.prog 28 #[.int .i64 a0] w fun e w' => e = .returned (.bool r) ∧ Drawn0 w w' := by
  have H : ((formularybase_Within.f a0 (-2147483648) 2147483647).bind fun t104 => (some t104)) = some r := h
  clear h
  replace H := Option.bind_eq_some_iff.mp H
  obtain ⟨t104, A20, H⟩ := H
  replace H : (some t104) = some r := H
  have A2 := Aside0.mk A20
  clear A20
  as_aux_lemma =>
    obtain rfl := Option.some.inj H
    go_enter Tryd.func28, Tryd.ntmps28
    go_wp2_with (first | ((with_reducible refine gate_callee (f := 54) rfl ?_); refine goesL_ (some 4) rfl rfl Tryd.func54 (by kernel_rfl) rfl #[.int .i64 a0, .int .i64 (-2147483648), .int .i64 2147483647] rfl (by (try simp only [List.map_toArray, List.map_cons, List.map_nil]); first | done | rfl | (simp only [List.length_drop, List.length_take]; rfl)) ?_; (with_reducible refine (formularybase_Within.calls a0 (-2147483648) 2147483647 t104 _ A2.out).mono ?_); rintro e w' ⟨rfl, ⟨nd, rfl⟩⟩; refine ⟨_, rfl, ?_⟩))
    go_ret
    exact ⟨by first | rfl | (simp; done) | (simp [*]; done), by repeat (first | exact Drawn0.refl _ | apply Drawn0.step)⟩

end Go.Proofs.YtgmlihjopinagaaDoor.PIntegersStrings
