/- Walks of the functions that this law reaches, one by one, written by a program. No condition. -/
import Derived.Test.YtcflipknnijmdaaPFnExactDecidingOfx0
import Derived.Test.YtcflipknnijmdaaPFnExactDecidingOfx1
import Derived.Test.YtcflipknnijmdaaCrowdsD
namespace Go.Proofs.Ytcflipknnijmdaa.PFnExactDecidingOf
open Go.RowKit Go.Proofs.YtcflipknnijmdaaW.PrintWords Go.Proofs.YtcflipknnijmdaaW.PrintLast Go.Proofs.YtcflipknnijmdaaW.PrintMore
attribute [local go_sem] max2_int min2_int max_two min_two max_three min_three max_four min_four   -- for this text's walks alone
set_option linter.unusedVariables false
set_option linter.unusedSimpArgs false

/-! ### impl_DecidingOf: function 22 -/
mutual
def impl_DecidingOf.l0 : Nat → Int → List Int → Int → Int → Int → Option (List Int)
  | 0, _, _, _, _, _ => none
  | k + 1, x0, x5, x6, x124000, x124001 => (spec_BodyOk.f k x0 x124000 x124001).bind fun t127 => (if t127 = true then (if 0 ≤ x0 then (impl_DecidingOf.j1 k x0 x5 x6 (decide (x6 < (shl .i64 1 x0))) x124000 x124001) else (none)) else (impl_DecidingOf.j1 k x0 x5 x6 false x124000 x124001))
def impl_DecidingOf.j1 : Nat → Int → List Int → Int → Bool → Int → Int → Option (List Int)
  | 0, _, _, _, _, _, _ => none
  | k + 1, x0, x5, x6, x16, x124000, x124001 => if x16 = true then (if (Go.bits .and .i64 x6 x124000) = x6 then ((spec_l1Heads.f k x6).bind fun t128 => (if t128 = x124001 then (if x5.length < 17592186044416 then (impl_DecidingOf.l0 k x0 (x5 ++ [x6]) (wrap64 (x6 + 1)) x124000 x124001) else (none)) else (impl_DecidingOf.l0 k x0 x5 (wrap64 (x6 + 1)) x124000 x124001))) else (impl_DecidingOf.l0 k x0 x5 (wrap64 (x6 + 1)) x124000 x124001)) else (some x5)
end
def impl_DecidingOf.f (k : Nat) (a0 : Int) (a1_0 : Int) (a1_1 : Int) : Option (List Int) := impl_DecidingOf.l0 k a0 (([] : List Int)) 0 a1_0 a1_1
theorem impl_DecidingOf.mono_l : ∀ k, (∀ y0 y1 y2 y3 y4, LeO (impl_DecidingOf.l0 k y0 y1 y2 y3 y4) (impl_DecidingOf.l0 (k + 1) y0 y1 y2 y3 y4)) ∧ (∀ y0 y1 y2 y3 y4 y5, LeO (impl_DecidingOf.j1 k y0 y1 y2 y3 y4 y5) (impl_DecidingOf.j1 (k + 1) y0 y1 y2 y3 y4 y5))
  | 0 => ⟨fun _ _ _ _ _ r h => by simp [impl_DecidingOf.l0] at h, fun _ _ _ _ _ _ r h => by simp [impl_DecidingOf.j1] at h⟩
  | k + 1 => by
    obtain ⟨ih0, ih1⟩ := impl_DecidingOf.mono_l k
    refine ⟨?_, ?_⟩
    · intro y0 y1 y2 y3 y4
      unfold impl_DecidingOf.l0
      repeat' first
      | (with_reducible exact ih0 _ _ _ _ _)
      | (with_reducible exact ih1 _ _ _ _ _ _)
      | (with_reducible exact spec_BodyOk.mono _ _ _ _)
      | (with_reducible exact spec_l1Heads.mono _ _)
      | (with_reducible exact LeO.refl _)
      | (with_reducible exact LeO.none _)
      | (with_reducible refine LeO.ite ?_ ?_)
      | (with_reducible refine LeO.bind ?_ (fun _ => ?_))
      | exact ih0 _ _ _ _ _
      | exact ih1 _ _ _ _ _ _
      | exact spec_BodyOk.mono _ _ _ _
      | exact spec_l1Heads.mono _ _
      | exact LeO.none _
      | refine LeO.ite ?_ ?_
      | refine LeO.bind ?_ (fun _ => ?_)
    · intro y0 y1 y2 y3 y4 y5
      unfold impl_DecidingOf.j1
      repeat' first
      | (with_reducible exact ih0 _ _ _ _ _)
      | (with_reducible exact ih1 _ _ _ _ _ _)
      | (with_reducible exact spec_BodyOk.mono _ _ _ _)
      | (with_reducible exact spec_l1Heads.mono _ _)
      | (with_reducible exact LeO.refl _)
      | (with_reducible exact LeO.none _)
      | (with_reducible refine LeO.ite ?_ ?_)
      | (with_reducible refine LeO.bind ?_ (fun _ => ?_))
      | exact ih0 _ _ _ _ _
      | exact ih1 _ _ _ _ _ _
      | exact spec_BodyOk.mono _ _ _ _
      | exact spec_l1Heads.mono _ _
      | exact LeO.none _
      | refine LeO.ite ?_ ?_
      | refine LeO.bind ?_ (fun _ => ?_)
theorem impl_DecidingOf.mono : ∀ a0 a1 a2 k, LeO (impl_DecidingOf.f k a0 a1 a2) (impl_DecidingOf.f (k + 1) a0 a1 a2) := by
  intro a0 a1 a2 k
  obtain ⟨ih0, ih1⟩ := impl_DecidingOf.mono_l k
  unfold impl_DecidingOf.f
  repeat' first
      | (with_reducible exact ih0 _ _ _ _ _)
      | (with_reducible exact ih1 _ _ _ _ _ _)
      | (with_reducible exact spec_BodyOk.mono _ _ _ _)
      | (with_reducible exact spec_l1Heads.mono _ _)
      | (with_reducible exact LeO.refl _)
      | (with_reducible exact LeO.none _)
      | (with_reducible refine LeO.ite ?_ ?_)
      | (with_reducible refine LeO.bind ?_ (fun _ => ?_))
      | exact ih0 _ _ _ _ _
      | exact ih1 _ _ _ _ _ _
      | exact spec_BodyOk.mono _ _ _ _
      | exact spec_l1Heads.mono _ _
      | exact LeO.none _
      | refine LeO.ite ?_ ?_
      | refine LeO.bind ?_ (fun _ => ?_)
section
open Go.Proofs.Ytcflipknnijmdaa.Base
theorem impl_DecidingOf_l0 {p m q : Int} (hB : okB p m q = true) (d : Nat) : ∀ (c : Nat) (x5 : List Int) (k : Nat), c + d = (full p + 1).toNat → x5.length ≤ c → 2 * d + 20 ≤ k → impl_DecidingOf.l0 k p x5 (c : Int) m q = some (x5 ++ ((List.range' c d).map Int.ofNat).filter (Ytcflipknnijmdaa.Crowds.just m q)) := by
  obtain ⟨hm, q1, qm⟩ := okB_iff.1 hB
  obtain ⟨h1, h6, m0, m64, mf⟩ := okC_lt hm
  have hf := full_le h1 h6
  have hs : shl .i64 1 p = full p + 1 := shl1 (by omega) h6
  induction d with
  | zero =>
    intro c x5 k hc hx hk
    obtain ⟨k, rfl⟩ : ∃ n, k = n + 2 := ⟨k - 2, by omega⟩
    rw [impl_DecidingOf.l0, sBodyOk_eq (k + 1) (by omega), hB, Option.bind_some, if_pos rfl, if_pos (by omega), hs, decide_eq_false (by omega), impl_DecidingOf.j1, if_neg (by simp)]
    simp
  | succ d ih =>
    intro c x5 k hc hx hk
    obtain ⟨k, rfl⟩ : ∃ n, k = n + 2 := ⟨k - 2, by omega⟩
    rw [impl_DecidingOf.l0, sBodyOk_eq (k + 1) (by omega), hB, Option.bind_some, if_pos rfl, if_pos (by omega), hs, decide_eq_true (by omega), impl_DecidingOf.j1, if_pos rfl, w1r (A := (c : Int)) (by omega) (by omega), show (c : Int) + 1 = ((c + 1 : Nat) : Int) from by omega, List.range'_succ, List.map_cons, List.filter_cons]
    have hj : Ytcflipknnijmdaa.Crowds.just m q (Int.ofNat c) = ((band (c : Int) m == (c : Int)) && (hd (c : Int) == q)) := rfl
    rw [hj]
    by_cases hb : Go.bits .and .i64 (c : Int) m = (c : Int)
    · rw [if_pos hb, sHeads_eq k (by omega) (by omega) (by omega), Option.bind_some, beq_iff_eq.2 hb, Bool.true_and]
      by_cases hq : hd (c : Int) = q
      · rw [if_pos hq, if_pos (by omega), ih (c + 1) _ k (by omega) (by rw [List.length_append, List.length_singleton]; omega) (by omega), if_pos (beq_iff_eq.2 hq), List.append_assoc]; rfl
      · rw [if_neg hq, ih (c + 1) _ k (by omega) (by omega) (by omega), if_neg (by simpa using hq)]
    · rw [if_neg hb, ih (c + 1) _ k (by omega) (by omega) (by omega), show (band (c : Int) m == (c : Int)) = false from beq_eq_false_iff_ne.2 hb, Bool.false_and, if_neg (by simp)]
theorem impl_DecidingOf_eq (p m q : Int) (k : Nat) (hk : 200 ≤ k) : impl_DecidingOf.f k p m q = some (Ytcflipknnijmdaa.Crowds.decC p m q) := by
  unfold impl_DecidingOf.f
  rw [Ytcflipknnijmdaa.Crowds.dec_eq]
  by_cases hB : okB p m q = true
  · obtain ⟨h1, h6, _⟩ := okC_lt (okB_iff.1 hB).1
    have hf := full_le h1 h6
    rw [if_pos hB]
    have := impl_DecidingOf_l0 hB (full p + 1).toNat 0 [] k (by omega) (by simp) (by omega)
    rw [List.nil_append] at this
    exact this
  · obtain ⟨k, rfl⟩ : ∃ n, k = n + 2 := ⟨k - 2, by omega⟩
    rw [if_neg hB, impl_DecidingOf.l0, sBodyOk_eq (k + 1) (by omega), show okB p m q = false from by simpa using hB, Option.bind_some, if_neg (by simp), impl_DecidingOf.j1, if_neg (by simp)]
theorem impl_DecidingOf_some {k : Nat} {p m q : Int} {r : List Int} (h : impl_DecidingOf.f k p m q = some r) : r = Ytcflipknnijmdaa.Crowds.decC p m q := by
  have h1 := at_rounds (impl_DecidingOf.mono p m q) (show k ≤ k + 200 by omega) h
  rw [impl_DecidingOf_eq p m q (k + 200) (by omega)] at h1
  exact (Option.some.inj h1).symm
end
set_option maxHeartbeats 8000000 in
set_option maxRecDepth 100000 in
theorem impl_DecidingOf.calls (k : Nat) (a0 : Int) (a1_0 : Int) (a1_1 : Int) (r : List Int) (w : World) (h : impl_DecidingOf.f k a0 a1_0 a1_1 = some r) :
    Calls Try.prog 22 #[.int .i64 a0, .agg #[.int .i64 a1_0, .int .i64 a1_1]] w fun e w' => ∃ v0_ : Value, e = .returned (v0_) ∧ Kd.R (Kd.int .i64) 3 w' w.heap.size (fun _ => True) v0_ r ∧ Below w.heap.size w w' := by
  obtain rfl := impl_DecidingOf_some h
  exact Ytcflipknnijmdaa.Crowds.deciding22 a0 a1_0 a1_1 w

/-! ### laws_FnExactDecidingOf: function 5 -/
def laws_FnExactDecidingOf.f (k : Nat) (a0 : Int) (a1_0 : Int) (a1_1 : Int) : Option (Bool) := (laws_toBody.f a1_0 a1_1).bind fun bt133 => ((spec_DecidingOf.f k a0 bt133.1 bt133.2).bind fun t135 => ((laws_toBody.f a1_0 a1_1).bind fun bt138 => ((impl_DecidingOf.f k a0 bt138.1 bt138.2).bind fun t140 => ((laws_eqIntS.f k t140 t135).bind fun t143 => (if t143 = true then ((laws_markIntS.f k t140 1).bind fun bt144 => ((laws_heldIntS.f k bt144.2 1).bind fun t146 => (if t146 < 0 then (none) else (if t146 = bt144.1 then ((laws_toBody.f a1_0 a1_1).bind fun bt147 => ((impl_DecidingOf.f k a0 bt147.1 bt147.2).bind fun t149 => ((laws_eqIntS.f k t149 t135).bind fun t152 => (if t152 = true then ((laws_heldIntS.f k bt144.2 1).bind fun t153 => (if t153 < 0 then (none) else (if t153 = bt144.1 then (some true) else (none)))) else (none))))) else (none))))) else (none))))))
theorem laws_FnExactDecidingOf.mono : ∀ a0 a1 a2 k, LeO (laws_FnExactDecidingOf.f k a0 a1 a2) (laws_FnExactDecidingOf.f (k + 1) a0 a1 a2) := by
  intro a0 a1 a2 k
  unfold laws_FnExactDecidingOf.f
  repeat' first
      | (with_reducible exact impl_DecidingOf.mono _ _ _ _)
      | (with_reducible exact laws_eqIntS.mono _ _ _)
      | (with_reducible exact laws_heldIntS.mono _ _ _)
      | (with_reducible exact laws_markIntS.mono _ _ _)
      | (with_reducible exact spec_DecidingOf.mono _ _ _ _)
      | (with_reducible exact LeO.refl _)
      | (with_reducible exact LeO.none _)
      | (with_reducible refine LeO.ite ?_ ?_)
      | (with_reducible refine LeO.bind ?_ (fun _ => ?_))
      | exact impl_DecidingOf.mono _ _ _ _
      | exact laws_eqIntS.mono _ _ _
      | exact laws_heldIntS.mono _ _ _
      | exact laws_markIntS.mono _ _ _
      | exact spec_DecidingOf.mono _ _ _ _
      | exact LeO.none _
      | refine LeO.ite ?_ ?_
      | refine LeO.bind ?_ (fun _ => ?_)
set_option maxHeartbeats 8000000 in
set_option maxRecDepth 100000 in
theorem laws_FnExactDecidingOf.calls (k : Nat) (a0 : Int) (a1_0 : Int) (a1_1 : Int) (r : Bool) (w : World) (h : laws_FnExactDecidingOf.f k a0 a1_0 a1_1 = some r) :
    Calls Try.prog 5 #[.int .i64 a0, .agg #[.int .i64 a1_0, .int .i64 a1_1]] w fun e w' => e = .returned (.bool r) ∧ Below w.heap.size w w' := by
  have hu36 := Try.underlying36
  have HB := Aside0.mk (Below.refl w.heap.size w)
  have H : ((laws_toBody.f a1_0 a1_1).bind fun bt133 => ((spec_DecidingOf.f k a0 bt133.1 bt133.2).bind fun t135 => ((laws_toBody.f a1_0 a1_1).bind fun bt138 => ((impl_DecidingOf.f k a0 bt138.1 bt138.2).bind fun t140 => ((laws_eqIntS.f k t140 t135).bind fun t143 => (if t143 = true then ((laws_markIntS.f k t140 1).bind fun bt144 => ((laws_heldIntS.f k bt144.2 1).bind fun t146 => (if t146 < 0 then (none) else (if t146 = bt144.1 then ((laws_toBody.f a1_0 a1_1).bind fun bt147 => ((impl_DecidingOf.f k a0 bt147.1 bt147.2).bind fun t149 => ((laws_eqIntS.f k t149 t135).bind fun t152 => (if t152 = true then ((laws_heldIntS.f k bt144.2 1).bind fun t153 => (if t153 < 0 then (none) else (if t153 = bt144.1 then (some true) else (none)))) else (none))))) else (none))))) else (none))))))) = some r := h
  clear h
  replace H := Option.bind_eq_some_iff.mp H
  obtain ⟨⟨t133, t134⟩, A30, H⟩ := H
  replace H : ((spec_DecidingOf.f k a0 t133 t134).bind fun t135 => ((laws_toBody.f a1_0 a1_1).bind fun bt138 => ((impl_DecidingOf.f k a0 bt138.1 bt138.2).bind fun t140 => ((laws_eqIntS.f k t140 t135).bind fun t143 => (if t143 = true then ((laws_markIntS.f k t140 1).bind fun bt144 => ((laws_heldIntS.f k bt144.2 1).bind fun t146 => (if t146 < 0 then (none) else (if t146 = bt144.1 then ((laws_toBody.f a1_0 a1_1).bind fun bt147 => ((impl_DecidingOf.f k a0 bt147.1 bt147.2).bind fun t149 => ((laws_eqIntS.f k t149 t135).bind fun t152 => (if t152 = true then ((laws_heldIntS.f k bt144.2 1).bind fun t153 => (if t153 < 0 then (none) else (if t153 = bt144.1 then (some true) else (none)))) else (none))))) else (none))))) else (none)))))) = some r := H
  have A3 := Aside0.mk A30
  clear A30
  replace H := Option.bind_eq_some_iff.mp H
  obtain ⟨t135, A40, H⟩ := H
  replace H : ((laws_toBody.f a1_0 a1_1).bind fun bt138 => ((impl_DecidingOf.f k a0 bt138.1 bt138.2).bind fun t140 => ((laws_eqIntS.f k t140 t135).bind fun t143 => (if t143 = true then ((laws_markIntS.f k t140 1).bind fun bt144 => ((laws_heldIntS.f k bt144.2 1).bind fun t146 => (if t146 < 0 then (none) else (if t146 = bt144.1 then ((laws_toBody.f a1_0 a1_1).bind fun bt147 => ((impl_DecidingOf.f k a0 bt147.1 bt147.2).bind fun t149 => ((laws_eqIntS.f k t149 t135).bind fun t152 => (if t152 = true then ((laws_heldIntS.f k bt144.2 1).bind fun t153 => (if t153 < 0 then (none) else (if t153 = bt144.1 then (some true) else (none)))) else (none))))) else (none))))) else (none))))) = some r := H
  have A4 := Aside0.mk A40
  clear A40
  replace H := Option.bind_eq_some_iff.mp H
  obtain ⟨⟨t138, t139⟩, A50, H⟩ := H
  replace H : ((impl_DecidingOf.f k a0 t138 t139).bind fun t140 => ((laws_eqIntS.f k t140 t135).bind fun t143 => (if t143 = true then ((laws_markIntS.f k t140 1).bind fun bt144 => ((laws_heldIntS.f k bt144.2 1).bind fun t146 => (if t146 < 0 then (none) else (if t146 = bt144.1 then ((laws_toBody.f a1_0 a1_1).bind fun bt147 => ((impl_DecidingOf.f k a0 bt147.1 bt147.2).bind fun t149 => ((laws_eqIntS.f k t149 t135).bind fun t152 => (if t152 = true then ((laws_heldIntS.f k bt144.2 1).bind fun t153 => (if t153 < 0 then (none) else (if t153 = bt144.1 then (some true) else (none)))) else (none))))) else (none))))) else (none)))) = some r := H
  have A5 := Aside0.mk A50
  clear A50
  replace H := Option.bind_eq_some_iff.mp H
  obtain ⟨t140, A60, H⟩ := H
  replace H : ((laws_eqIntS.f k t140 t135).bind fun t143 => (if t143 = true then ((laws_markIntS.f k t140 1).bind fun bt144 => ((laws_heldIntS.f k bt144.2 1).bind fun t146 => (if t146 < 0 then (none) else (if t146 = bt144.1 then ((laws_toBody.f a1_0 a1_1).bind fun bt147 => ((impl_DecidingOf.f k a0 bt147.1 bt147.2).bind fun t149 => ((laws_eqIntS.f k t149 t135).bind fun t152 => (if t152 = true then ((laws_heldIntS.f k bt144.2 1).bind fun t153 => (if t153 < 0 then (none) else (if t153 = bt144.1 then (some true) else (none)))) else (none))))) else (none))))) else (none))) = some r := H
  have A6 := Aside0.mk A60
  clear A60
  replace H := Option.bind_eq_some_iff.mp H
  obtain ⟨t143, A70, H⟩ := H
  replace H : (if t143 = true then ((laws_markIntS.f k t140 1).bind fun bt144 => ((laws_heldIntS.f k bt144.2 1).bind fun t146 => (if t146 < 0 then (none) else (if t146 = bt144.1 then ((laws_toBody.f a1_0 a1_1).bind fun bt147 => ((impl_DecidingOf.f k a0 bt147.1 bt147.2).bind fun t149 => ((laws_eqIntS.f k t149 t135).bind fun t152 => (if t152 = true then ((laws_heldIntS.f k bt144.2 1).bind fun t153 => (if t153 < 0 then (none) else (if t153 = bt144.1 then (some true) else (none)))) else (none))))) else (none))))) else (none)) = some r := H
  have A7 := Aside0.mk A70
  clear A70
  by_cases c8 : t143 = true
  · subst c8
    have H1 : ((laws_markIntS.f k t140 1).bind fun bt144 => ((laws_heldIntS.f k bt144.2 1).bind fun t146 => (if t146 < 0 then (none) else (if t146 = bt144.1 then ((laws_toBody.f a1_0 a1_1).bind fun bt147 => ((impl_DecidingOf.f k a0 bt147.1 bt147.2).bind fun t149 => ((laws_eqIntS.f k t149 t135).bind fun t152 => (if t152 = true then ((laws_heldIntS.f k bt144.2 1).bind fun t153 => (if t153 < 0 then (none) else (if t153 = bt144.1 then (some true) else (none)))) else (none))))) else (none))))) = some r := by rw [if_pos rfl] at H; exact H
    clear H
    have H := H1
    clear H1
    replace H := Option.bind_eq_some_iff.mp H
    obtain ⟨⟨t144, t145⟩, A90, H⟩ := H
    replace H : ((laws_heldIntS.f k t145 1).bind fun t146 => (if t146 < 0 then (none) else (if t146 = t144 then ((laws_toBody.f a1_0 a1_1).bind fun bt147 => ((impl_DecidingOf.f k a0 bt147.1 bt147.2).bind fun t149 => ((laws_eqIntS.f k t149 t135).bind fun t152 => (if t152 = true then ((laws_heldIntS.f k t145 1).bind fun t153 => (if t153 < 0 then (none) else (if t153 = t144 then (some true) else (none)))) else (none))))) else (none)))) = some r := H
    have A9 := Aside0.mk A90
    clear A90
    replace H := Option.bind_eq_some_iff.mp H
    obtain ⟨t146, A100, H⟩ := H
    replace H : (if t146 < 0 then (none) else (if t146 = t144 then ((laws_toBody.f a1_0 a1_1).bind fun bt147 => ((impl_DecidingOf.f k a0 bt147.1 bt147.2).bind fun t149 => ((laws_eqIntS.f k t149 t135).bind fun t152 => (if t152 = true then ((laws_heldIntS.f k t145 1).bind fun t153 => (if t153 < 0 then (none) else (if t153 = t144 then (some true) else (none)))) else (none))))) else (none))) = some r := H
    have A10 := Aside0.mk A100
    clear A100
    by_cases c11 : t146 < 0
    · rw [if_pos c11] at H
      exact absurd H (by simp)
    · rw [if_neg c11] at H
      have c11b0 : decide (t146 < 0) = false := decide_eq_false c11
      clear c11
      by_cases c12 : t146 = t144
      · rw [if_pos c12] at H
        have c12b0 : (t146 == t144) = true := beq_iff_eq.mpr c12
        have c12b1 : (t146 != t144) = false := bne_eq_false_iff_eq.mpr c12
        clear c12
        replace H := Option.bind_eq_some_iff.mp H
        obtain ⟨⟨t147, t148⟩, A130, H⟩ := H
        replace H : ((impl_DecidingOf.f k a0 t147 t148).bind fun t149 => ((laws_eqIntS.f k t149 t135).bind fun t152 => (if t152 = true then ((laws_heldIntS.f k t145 1).bind fun t153 => (if t153 < 0 then (none) else (if t153 = t144 then (some true) else (none)))) else (none)))) = some r := H
        have A13 := Aside0.mk A130
        clear A130
        replace H := Option.bind_eq_some_iff.mp H
        obtain ⟨t149, A140, H⟩ := H
        replace H : ((laws_eqIntS.f k t149 t135).bind fun t152 => (if t152 = true then ((laws_heldIntS.f k t145 1).bind fun t153 => (if t153 < 0 then (none) else (if t153 = t144 then (some true) else (none)))) else (none))) = some r := H
        have A14 := Aside0.mk A140
        clear A140
        replace H := Option.bind_eq_some_iff.mp H
        obtain ⟨t152, A150, H⟩ := H
        replace H : (if t152 = true then ((laws_heldIntS.f k t145 1).bind fun t153 => (if t153 < 0 then (none) else (if t153 = t144 then (some true) else (none)))) else (none)) = some r := H
        have A15 := Aside0.mk A150
        clear A150
        by_cases c16 : t152 = true
        · subst c16
          have H1 : ((laws_heldIntS.f k t145 1).bind fun t153 => (if t153 < 0 then (none) else (if t153 = t144 then (some true) else (none)))) = some r := by rw [if_pos rfl] at H; exact H
          clear H
          have H := H1
          clear H1
          replace H := Option.bind_eq_some_iff.mp H
          obtain ⟨t153, A170, H⟩ := H
          replace H : (if t153 < 0 then (none) else (if t153 = t144 then (some true) else (none))) = some r := H
          have A17 := Aside0.mk A170
          clear A170
          by_cases c18 : t153 < 0
          · rw [if_pos c18] at H
            exact absurd H (by simp)
          · rw [if_neg c18] at H
            have c18b0 : decide (t153 < 0) = false := decide_eq_false c18
            clear c18
            by_cases c19 : t153 = t144
            · rw [if_pos c19] at H
              have c19b0 : (t153 == t144) = true := beq_iff_eq.mpr c19
              have c19b1 : (t153 != t144) = false := bne_eq_false_iff_eq.mpr c19
              clear c19
              obtain rfl := Option.some.inj H
              go_enter Try.func5, Try.ntmps5
              go_wp2_with (first | ((with_reducible refine gate_dst (N := 3) rfl ?_); refine box_event ?hg (N := 3) ?hd (cs := #[.int .i64 a1_0, .int .i64 a1_1]) (t := 36) ?hr ?_; (case hd => rfl); (case hg => rfl); (case hr => first | (go_simp; done) | (go_simp; rfl)); intro gb132 hg w20 hbox hb; have n0_ := Aside0.mk (below_step (by repeat (first | (with_reducible first | exact HB.out | apply below_alloc | apply pw_below_drewN | apply below_drew1) | exact HB.out)) hb); have n1_ := Aside0.mk (hbox); have n2_ := Aside0.mk ((by rw [hg]; exact (below_size (by repeat (first | (with_reducible first | exact HB.out | apply below_alloc | apply pw_below_drewN | apply below_drew1) | exact HB.out))) : w.heap.size ≤ gb132)); have n3_ := Aside0.mk ((by rw [hg]; exact (below_size (by repeat (first | (with_reducible first | exact HB.out | apply below_alloc | apply pw_below_drewN | apply below_drew1) | exact HB.out))) : w.heap.size ≤ gb132)); clear HB; have HB := n0_; have BK132 := n1_; have GW132 := n2_; have GE132 := n3_; clear n0_ n1_ n2_ n3_; clear hb hbox hg; have hcz21_0 : w20.cell? ⟨gb132, 0, none⟩ = some (.int .i64 a1_0) := (blk_cell BK132.out 0).trans rfl; have hcz21_1 : w20.cell? ⟨gb132, 1, none⟩ = some (.int .i64 a1_1) := (blk_cell BK132.out 1).trans rfl; have hfz21_0 := blk_frozen BK132.out 0; have hfz21_1 := blk_frozen BK132.out 1) | ((with_reducible refine gate_callee (f := 21) rfl ?_); refine goesL_ (some 12) rfl rfl Try.func21 (by kernel_rfl) rfl #[.agg #[.int .i64 a1_0, .int .i64 a1_1]] rfl (by (try simp only [List.map_toArray, List.map_cons, List.map_nil]); first | done | rfl | (simp only [List.length_drop, List.length_take]; rfl)) ?_; (with_reducible refine (laws_toBody.calls a1_0 a1_1 t133 t134 _ A3.out).mono ?_); rintro e w22 ⟨rfl, hb⟩; refine ⟨_, rfl, ?_⟩; have n0_ := Aside0.mk (blk_below (g := gb132) (o := .cells #[.int .i64 a1_0, .int .i64 a1_1] 36 (0, 0)) (by (with_reducible repeat (first | refine blk_drewN ?_ _ | refine blk_drew ?_ | refine blk_alloc ?_ _)); exact BK132.out) hb); have n1_ := Aside0.mk (below_step (by repeat (first | (with_reducible first | exact HB.out | apply below_alloc | apply pw_below_drewN | apply below_drew1 | refine below_set ?_ GE132.out) | exact HB.out)) hb); clear BK132; clear HB; have BK132 := n0_; have HB := n1_; clear n0_ n1_; (try clear hb); (try clear hb2); (try clear hk); (try clear hi)) | ((with_reducible refine gate_callee (f := 20) rfl ?_); refine goesL_ (some 13) rfl rfl Try.func20 (by kernel_rfl) rfl #[.int .i64 a0, .agg #[.int .i64 t133, .int .i64 t134]] rfl (by (try simp only [List.map_toArray, List.map_cons, List.map_nil]); first | done | rfl | (simp only [List.length_drop, List.length_take]; rfl)) ?_; (with_reducible refine (spec_DecidingOf.calls k a0 t133 t134 t135 _ A4.out).mono ?_); rintro e w23 ⟨v136, rfl, ho0, hb⟩; refine ⟨_, rfl, ?_⟩; have n0_ := Aside0.mk (Kd.R_lower ho0 (below_size (by repeat (first | (with_reducible first | exact HB.out | apply below_alloc | apply pw_below_drewN | apply below_drew1 | refine below_set ?_ GE132.out) | exact HB.out)))); have n1_ := Aside0.mk (blk_below (g := gb132) (o := .cells #[.int .i64 a1_0, .int .i64 a1_1] 36 (0, 0)) (by (with_reducible repeat (first | refine blk_drewN ?_ _ | refine blk_drew ?_ | refine blk_alloc ?_ _)); exact BK132.out) hb); have n2_ := Aside0.mk (below_step (by repeat (first | (with_reducible first | exact HB.out | apply below_alloc | apply pw_below_drewN | apply below_drew1 | refine below_set ?_ GE132.out) | exact HB.out)) hb); clear BK132; clear HB; have HO137 := n0_; have BK132 := n1_; have HB := n2_; clear n0_ n1_ n2_; (try clear hb); (try clear hb2); (try clear hk); (try clear hi); (try clear ho0); have hcz24_0 : w23.cell? ⟨gb132, 0, none⟩ = some (.int .i64 a1_0) := (blk_cell BK132.out 0).trans rfl; have hcz24_1 : w23.cell? ⟨gb132, 1, none⟩ = some (.int .i64 a1_1) := (blk_cell BK132.out 1).trans rfl; have hfz24_0 := blk_frozen BK132.out 0; have hfz24_1 := blk_frozen BK132.out 1) | ((with_reducible refine gate_callee (f := 21) rfl ?_); refine goesL_ (some 16) rfl rfl Try.func21 (by kernel_rfl) rfl #[.agg #[.int .i64 a1_0, .int .i64 a1_1]] rfl (by (try simp only [List.map_toArray, List.map_cons, List.map_nil]); first | done | rfl | (simp only [List.length_drop, List.length_take]; rfl)) ?_; (with_reducible refine (laws_toBody.calls a1_0 a1_1 t138 t139 _ A5.out).mono ?_); rintro e w25 ⟨rfl, hb⟩; refine ⟨_, rfl, ?_⟩; have n0_ := Aside0.mk (Kd.R_below (by (with_reducible repeat (first | apply Kd.R_alloc | apply Kd.R_drewN | apply Kd.R_drew)); exact HO137.out) hb); have n1_ := Aside0.mk (blk_below (g := gb132) (o := .cells #[.int .i64 a1_0, .int .i64 a1_1] 36 (0, 0)) (by (with_reducible repeat (first | refine blk_drewN ?_ _ | refine blk_drew ?_ | refine blk_alloc ?_ _)); exact BK132.out) hb); have n2_ := Aside0.mk (below_step (by repeat (first | (with_reducible first | exact HB.out | apply below_alloc | apply pw_below_drewN | apply below_drew1 | refine below_set ?_ GE132.out) | exact HB.out)) hb); clear HO137; clear BK132; clear HB; have HO137 := n0_; have BK132 := n1_; have HB := n2_; clear n0_ n1_ n2_; (try clear hb); (try clear hb2); (try clear hk); (try clear hi)) | ((with_reducible refine gate_callee (f := 22) rfl ?_); refine goesL_ (some 17) rfl rfl Try.func22 (by kernel_rfl) rfl #[.int .i64 a0, .agg #[.int .i64 t138, .int .i64 t139]] rfl (by (try simp only [List.map_toArray, List.map_cons, List.map_nil]); first | done | rfl | (simp only [List.length_drop, List.length_take]; rfl)) ?_; (with_reducible refine (impl_DecidingOf.calls k a0 t138 t139 t140 _ A6.out).mono ?_); rintro e w26 ⟨v141, rfl, ho0, hb⟩; refine ⟨_, rfl, ?_⟩; have n0_ := Aside0.mk (Kd.R_elder' (by (with_reducible repeat (first | apply Kd.R_alloc | apply Kd.R_drewN | apply Kd.R_drew)); exact HO137.out) (Kd.R_base ho0) hb); have n1_ := Aside0.mk (Kd.R_lower (Kd.R_new' ho0 (Kd.R_lt (by (with_reducible repeat (first | apply Kd.R_alloc | apply Kd.R_drewN | apply Kd.R_drew)); exact HO137.out))) (below_size (by repeat (first | (with_reducible first | exact HB.out | apply below_alloc | apply pw_below_drewN | apply below_drew1 | refine below_set ?_ GE132.out) | exact HB.out)))); have n2_ := Aside0.mk (blk_below (g := gb132) (o := .cells #[.int .i64 a1_0, .int .i64 a1_1] 36 (0, 0)) (by (with_reducible repeat (first | refine blk_drewN ?_ _ | refine blk_drew ?_ | refine blk_alloc ?_ _)); exact BK132.out) hb); have n3_ := Aside0.mk (below_step (by repeat (first | (with_reducible first | exact HB.out | apply below_alloc | apply pw_below_drewN | apply below_drew1 | refine below_set ?_ GE132.out) | exact HB.out)) hb); clear HO137; clear BK132; clear HB; have HO137 := n0_; have HO142 := n1_; have BK132 := n2_; have HB := n3_; clear n0_ n1_ n2_ n3_; (try clear hb); (try clear hb2); (try clear hk); (try clear hi); (try clear ho0); obtain ⟨Ao27, co27, eo27⟩ := Kd.R_slice HO142.out; subst eo27; obtain ⟨Ao28, co28, eo28⟩ := Kd.R_slice HO137.out; subst eo28) | ((with_reducible refine gate_callee (f := 12) rfl ?_); refine goesL_ (some 20) rfl rfl Try.func12 (by kernel_rfl) rfl #[.slice Ao27 t140.length co27, .slice Ao28 t135.length co28] rfl (by (try simp only [List.map_toArray, List.map_cons, List.map_nil]); first | done | rfl | (simp only [List.length_drop, List.length_take]; rfl)) ?_; (with_reducible refine (laws_eqIntS.calls k _ _ t140 _ _ t135 true _ ?side1 ?side2 ?side3 ?side4 A7.out).mono ?_); (case side1 => repeat (first | exact (Kd.R_reads' HO142.out).2.2 | (with_reducible refine Kd.C_alloc ?_ _) | (with_reducible refine Kd.C_drewN ?_ _) | (with_reducible refine Kd.C_drew ?_))); (case side2 => exact (Kd.R_reads' HO142.out).2.1); (case side3 => repeat (first | exact (Kd.R_reads' HO137.out).2.2 | (with_reducible refine Kd.C_alloc ?_ _) | (with_reducible refine Kd.C_drewN ?_ _) | (with_reducible refine Kd.C_drew ?_))); (case side4 => exact (Kd.R_reads' HO137.out).2.1); rintro e w' ⟨rfl, ⟨nd, rfl⟩⟩; refine ⟨_, rfl, ?_⟩) | ((with_reducible refine gate_callee (f := 13) rfl ?_); refine goesL_ (some 24) rfl rfl Try.func13 (by kernel_rfl) rfl #[.slice Ao27 t140.length co27, .int .i64 1] rfl (by (try simp only [List.map_toArray, List.map_cons, List.map_nil]); first | done | rfl | (simp only [List.length_drop, List.length_take]; rfl)) ?_; (with_reducible refine (laws_markIntS.calls k (fun k_ => some k_ = (.slice Ao27 t140.length co27 : Value).ownBlock) (.slice Ao27 t140.length co27) t140 1 t144 t145 w _ ?side1 ?side2 A9.out).mono ?_); (case side1 => repeat (first | (with_reducible first | exact HB.out | apply below_alloc | apply pw_below_drewN | apply below_drew1 | refine below_set ?_ GE132.out) | exact HB.out)); (case side2 => exact Kd.R_tight rfl HO142.out); rintro e w29 ⟨rfl, hy0, hb, hkp⟩; refine ⟨_, rfl, ?_⟩; have n0_ := Aside0.mk (blk_kept (by (with_reducible repeat (first | refine blk_drewN ?_ _ | refine blk_drew ?_ | refine blk_alloc ?_ _)); exact BK132.out) hkp (fun hs_ => (fun e_ => (Kd.R_ne HO142.out BK132.out (by decide)) e_) hs_)); have n1_ := Aside0.mk (Kd.R_mono (ok' := fun k_ => some k_ ≠ (.slice Ao27 t140.length co27 : Value).ownBlock) (Kd.R_keptB (HO137.out) hkp (fun k_ hk_ hs_ => (hk_.2) hs_)) (fun k_ hk_ => hk_.1.2)); have n2_ := Aside0.mk (Kd.R_reok rfl hy0 (fun k_ e_ => HO142.out.1 k_ e_)); have n3_ := Aside0.mk (hb); clear BK132; clear HO137; clear HO142; clear HB; have BK132 := n0_; have HO137 := n1_; have HO142 := n2_; have HB := n3_; clear n0_ n1_ n2_ n3_; (try clear hb); (try clear hkp); (try clear hy0)) | ((with_reducible refine gate_callee (f := 14) rfl ?_); refine goesL_ (some 27) rfl rfl Try.func14 (by kernel_rfl) rfl #[.slice Ao27 t145.length co27, .int .i64 1] rfl (by (try simp only [List.map_toArray, List.map_cons, List.map_nil]); first | done | (rw [show t145.length = t140.length from (Kd.R_reads' HO142.out).1.symm] <;> rfl) | rfl | (simp only [List.length_drop, List.length_take]; rfl)) ?_; (with_reducible refine (laws_heldIntS.calls k _ _ t145 1 t146 _ ?side1 ?side2 A10.out).mono ?_); (case side1 => repeat (first | exact (Kd.R_reads' HO142.out).2.2 | (with_reducible refine Kd.C_alloc ?_ _) | (with_reducible refine Kd.C_drewN ?_ _) | (with_reducible refine Kd.C_drew ?_))); (case side2 => rw [show t145.length = t140.length from (Kd.R_reads' HO142.out).1.symm]; exact (Kd.R_reads' HO142.out).2.1); rintro e w' ⟨rfl, ⟨nd, rfl⟩⟩; refine ⟨_, rfl, ?_⟩; have hcz30_0 : w29.cell? ⟨gb132, 0, none⟩ = some (.int .i64 a1_0) := (blk_cell BK132.out 0).trans rfl; have hcz30_1 : w29.cell? ⟨gb132, 1, none⟩ = some (.int .i64 a1_1) := (blk_cell BK132.out 1).trans rfl; have hfz30_0 := blk_frozen BK132.out 0; have hfz30_1 := blk_frozen BK132.out 1) | ((with_reducible refine gate_callee (f := 21) rfl ?_); refine goesL_ (some 35) rfl rfl Try.func21 (by kernel_rfl) rfl #[.agg #[.int .i64 a1_0, .int .i64 a1_1]] rfl (by (try simp only [List.map_toArray, List.map_cons, List.map_nil]); first | done | rfl | (simp only [List.length_drop, List.length_take]; rfl)) ?_; (with_reducible refine (laws_toBody.calls a1_0 a1_1 t147 t148 _ A13.out).mono ?_); rintro e w31 ⟨rfl, hb⟩; refine ⟨_, rfl, ?_⟩; have n0_ := Aside0.mk (Kd.R_below (by (with_reducible repeat (first | apply Kd.R_alloc | apply Kd.R_drewN | apply Kd.R_drew)); exact HO137.out) hb); have n1_ := Aside0.mk (Kd.R_below (by (with_reducible repeat (first | apply Kd.R_alloc | apply Kd.R_drewN | apply Kd.R_drew)); exact HO142.out) hb); have n2_ := Aside0.mk (blk_below (g := gb132) (o := .cells #[.int .i64 a1_0, .int .i64 a1_1] 36 (0, 0)) (by (with_reducible repeat (first | refine blk_drewN ?_ _ | refine blk_drew ?_ | refine blk_alloc ?_ _)); exact BK132.out) hb); have n3_ := Aside0.mk (below_step (by repeat (first | (with_reducible first | exact HB.out | apply below_alloc | apply pw_below_drewN | apply below_drew1 | refine below_set ?_ GE132.out) | exact HB.out)) hb); clear HO137; clear HO142; clear BK132; clear HB; have HO137 := n0_; have HO142 := n1_; have BK132 := n2_; have HB := n3_; clear n0_ n1_ n2_ n3_; (try clear hb); (try clear hb2); (try clear hk); (try clear hi)) | ((with_reducible refine gate_callee (f := 22) rfl ?_); refine goesL_ (some 36) rfl rfl Try.func22 (by kernel_rfl) rfl #[.int .i64 a0, .agg #[.int .i64 t147, .int .i64 t148]] rfl (by (try simp only [List.map_toArray, List.map_cons, List.map_nil]); first | done | rfl | (simp only [List.length_drop, List.length_take]; rfl)) ?_; (with_reducible refine (impl_DecidingOf.calls k a0 t147 t148 t149 _ A14.out).mono ?_); rintro e w32 ⟨v150, rfl, ho0, hb⟩; refine ⟨_, rfl, ?_⟩; have n0_ := Aside0.mk (Kd.R_elder' (by (with_reducible repeat (first | apply Kd.R_alloc | apply Kd.R_drewN | apply Kd.R_drew)); exact HO137.out) (Kd.R_base ho0) hb); have n1_ := Aside0.mk (Kd.R_elder' (by (with_reducible repeat (first | apply Kd.R_alloc | apply Kd.R_drewN | apply Kd.R_drew)); exact HO142.out) (Kd.R_base ho0) hb); have n2_ := Aside0.mk (Kd.R_lower (Kd.R_new' (Kd.R_new' ho0 (Kd.R_lt (by (with_reducible repeat (first | apply Kd.R_alloc | apply Kd.R_drewN | apply Kd.R_drew)); exact HO137.out))) (Kd.R_lt (by (with_reducible repeat (first | apply Kd.R_alloc | apply Kd.R_drewN | apply Kd.R_drew)); exact HO142.out))) (below_size (by repeat (first | (with_reducible first | exact HB.out | apply below_alloc | apply pw_below_drewN | apply below_drew1 | refine below_set ?_ GE132.out) | exact HB.out)))); have n3_ := Aside0.mk (blk_below (g := gb132) (o := .cells #[.int .i64 a1_0, .int .i64 a1_1] 36 (0, 0)) (by (with_reducible repeat (first | refine blk_drewN ?_ _ | refine blk_drew ?_ | refine blk_alloc ?_ _)); exact BK132.out) hb); have n4_ := Aside0.mk (below_step (by repeat (first | (with_reducible first | exact HB.out | apply below_alloc | apply pw_below_drewN | apply below_drew1 | refine below_set ?_ GE132.out) | exact HB.out)) hb); clear HO137; clear HO142; clear BK132; clear HB; have HO137 := n0_; have HO142 := n1_; have HO151 := n2_; have BK132 := n3_; have HB := n4_; clear n0_ n1_ n2_ n3_ n4_; (try clear hb); (try clear hb2); (try clear hk); (try clear hi); (try clear ho0); obtain ⟨Ao33, co33, eo33⟩ := Kd.R_slice HO151.out; subst eo33) | ((with_reducible refine gate_callee (f := 12) rfl ?_); refine goesL_ (some 39) rfl rfl Try.func12 (by kernel_rfl) rfl #[.slice Ao33 t149.length co33, .slice Ao28 t135.length co28] rfl (by (try simp only [List.map_toArray, List.map_cons, List.map_nil]); first | done | rfl | (simp only [List.length_drop, List.length_take]; rfl)) ?_; (with_reducible refine (laws_eqIntS.calls k _ _ t149 _ _ t135 true _ ?side1 ?side2 ?side3 ?side4 A15.out).mono ?_); (case side1 => repeat (first | exact (Kd.R_reads' HO151.out).2.2 | (with_reducible refine Kd.C_alloc ?_ _) | (with_reducible refine Kd.C_drewN ?_ _) | (with_reducible refine Kd.C_drew ?_))); (case side2 => exact (Kd.R_reads' HO151.out).2.1); (case side3 => repeat (first | exact (Kd.R_reads' HO137.out).2.2 | (with_reducible refine Kd.C_alloc ?_ _) | (with_reducible refine Kd.C_drewN ?_ _) | (with_reducible refine Kd.C_drew ?_))); (case side4 => exact (Kd.R_reads' HO137.out).2.1); rintro e w' ⟨rfl, ⟨nd, rfl⟩⟩; refine ⟨_, rfl, ?_⟩) | ((with_reducible refine gate_callee (f := 14) rfl ?_); refine goesL_ (some 43) rfl rfl Try.func14 (by kernel_rfl) rfl #[.slice Ao27 t145.length co27, .int .i64 1] rfl (by (try simp only [List.map_toArray, List.map_cons, List.map_nil]); first | done | (rw [show t145.length = t140.length from (Kd.R_reads' HO142.out).1.symm] <;> rfl) | rfl | (simp only [List.length_drop, List.length_take]; rfl)) ?_; (with_reducible refine (laws_heldIntS.calls k _ _ t145 1 t153 _ ?side1 ?side2 A17.out).mono ?_); (case side1 => repeat (first | exact (Kd.R_reads' HO142.out).2.2 | (with_reducible refine Kd.C_alloc ?_ _) | (with_reducible refine Kd.C_drewN ?_ _) | (with_reducible refine Kd.C_drew ?_))); (case side2 => rw [show t145.length = t140.length from (Kd.R_reads' HO142.out).1.symm]; exact (Kd.R_reads' HO142.out).2.1); rintro e w' ⟨rfl, ⟨nd, rfl⟩⟩; refine ⟨_, rfl, ?_⟩))
              go_ret
              exact ⟨by first | rfl | (simp [errW_none, errW_some] <;> rfl) | (simp [*, errW_none, errW_some] <;> rfl), by repeat (first | (with_reducible first | exact HB.out | apply below_alloc | apply pw_below_drewN | apply below_drew1 | refine below_set ?_ GE132.out) | exact HB.out)⟩
            · rw [if_neg c19] at H
              exact absurd H (by simp)
        · replace c16 := Bool.eq_false_iff.mpr c16
          subst c16
          have H1 : (none) = some r := by rw [if_neg (show ¬ (false = true) by decide)] at H; exact H
          clear H
          have H := H1
          clear H1
          exact absurd H (by simp)
      · rw [if_neg c12] at H
        exact absurd H (by simp)
  · replace c8 := Bool.eq_false_iff.mpr c8
    subst c8
    have H1 : (none) = some r := by rw [if_neg (show ¬ (false = true) by decide)] at H; exact H
    clear H
    have H := H1
    clear H1
    exact absurd H (by simp)

end Go.Proofs.Ytcflipknnijmdaa.PFnExactDecidingOf
