/- Walks of the functions that this law reaches, one by one, written by a program. No condition. -/
import Derived.Test.YtoifikhcnioagaaDoorPFnReadTermx0
import Derived.Test.YtoifikhcnioagaaDoorPFnReadTermx10
import Derived.Test.YtoifikhcnioagaaDoorPFnReadTermx12
namespace Go.Proofs.YtoifikhcnioagaaDoor.PFnReadTerm
open Go.RowKit Go.Proofs.YtoifikhcnioagaaDoorW.PrintWords Go.Proofs.YtoifikhcnioagaaDoorW.PrintLast Go.Proofs.YtoifikhcnioagaaDoorW.PrintMore
attribute [local go_sem] max2_int min2_int max_two min_two max_three min_three max_four min_four   -- for this text's walks alone
set_option linter.unusedVariables false
set_option linter.unusedSimpArgs false


theorem u8i_ (x : Int) : wrap64 (IntKind.u8.wrap x) = x % 256 := by
  have h : IntKind.u8.wrap x = x % 256 := by first | rfl | (unfold IntKind.wrap; simp [IntKind.bits, IntKind.signed]) | simp [IntKind.wrap]
  rw [h]; unfold wrap64; omega
/-- What may be called where l3Or is called: a function with its contract. -/
class Ror where
 f : ByteArray → Int → Option ((List (S54)) × Int)
 calls : ∀ (a0 : ByteArray) (a1 : Int) (r1 : List (S54)) (r2 : Int) (w : World) (h : f a0 a1 = some (r1, r2)), Calls Tryd.prog 26 #[.string a0, .int .i64 a1] w fun e w' => ∃ v0_ : Value, e = .returned (.tuple #[v0_, .int .i64 r2]) ∧ Kd.R k54 54 w' w.heap.size (fun _ => True) v0_ r1 ∧ Below w.heap.size w w'
def spec_l3Atom.T10 : Bool × List (List Nat × List Nat) := (true, [([], []), ([], []), ([0, 1], [0, 1]), ([2], [2]), ([3], [3]), ([], []), ([], []), ([6], [6]), ([5, 7], [5, 7]), ([8], [8]), ([9], [9]), ([4, 10], [4, 10]), ([11], [11]), ([], []), ([13], [13]), ([12, 0, 1, 2, 3, 4, 5, 6, 7, 8, 9, 10, 11, 12], [12]), ([14, 15, 0, 1, 2, 3, 4, 5, 6, 7, 8, 9, 10, 11, 12, 13, 14, 15], [14])])
def spec_l3Atom.B10 : List Nat := [0, 0, 3, 7, 15, 0, 0, 64, 224, 480, 992, 2047, 4095, 0, 8192, 8191, 65535]
theorem spec_l3Atom.tab10 : rtab .any (opsOf Tryd.f54 10) = spec_l3Atom.T10 := by kernel_rfl
theorem spec_l3Atom.bits10 : waitsOk spec_l3Atom.T10.2 spec_l3Atom.B10 = true := by kernel_rfl
section
variable [Ror]
/-! ### spec_l3Atom: function 54 -/
mutual
def spec_l3Atom.j0 : Nat → ByteArray → Int → Bool → Option ((List (S54)) × Int)
 | 0, _, _, _ => none
 | k + 1, x0, x1, x15 => if x15 = true then (some ((([] : List (S54))), (-1))) else (if 0 ≤ x1 then (if x1 < (x0.size : Int) then (if (bt x0 x1) = 40 then ((Ror.f x0 (wrap64 (x1 + 1))).bind fun bt125 => (if bt125.2 < 0 then (spec_l3Atom.j1 k bt125.1 bt125.2 true) else (if bt125.2 ≥ (x0.size : Int) then (spec_l3Atom.j1 k bt125.1 bt125.2 true) else (if 0 ≤ bt125.2 then (if bt125.2 < (x0.size : Int) then (spec_l3Atom.j1 k bt125.1 bt125.2 ((bt x0 bt125.2) != 41)) else (none)) else (none))))) else (if (wrap64 (x1 + 2)) > (x0.size : Int) then (some ((([] : List (S54))), (-1))) else (if (bt x0 x1) < 65 then (some ((([] : List (S54))), (-1))) else (if (bt x0 x1) > 68 then (some ((([] : List (S54))), (-1))) else (if 0 ≤ (wrap64 (x1 + 1)) then (if (wrap64 (x1 + 1)) < (x0.size : Int) then (if (bt x0 (wrap64 (x1 + 1))) < 48 then (some ((([] : List (S54))), (-1))) else (if (bt x0 (wrap64 (x1 + 1))) > 57 then (some ((([] : List (S54))), (-1))) else (some ((([(⟨0, ((bt x0 x1) - 65) % 256, ((bt x0 (wrap64 (x1 + 1))) - 48) % 256⟩ : S54)] : List (S54))), wrap64 (x1 + 2))))) else (none)) else (none)))))) else (none)) else (none))
def spec_l3Atom.j1 : Nat → List (S54) → Int → Bool → Option ((List (S54)) × Int)
 | 0, _, _, _ => none
 | k + 1, x6, x7, x41 => if x41 = true then (some ((([] : List (S54))), (-1))) else (some (x6, wrap64 (x7 + 1)))
end
def spec_l3Atom.f (k : Nat) (a0 : ByteArray) (a1 : Int) : Option ((List (S54)) × Int) := if a1 < 0 then (spec_l3Atom.j0 k a0 a1 true) else (spec_l3Atom.j0 k a0 a1 (decide (a1 ≥ (a0.size : Int))))
set_option maxHeartbeats 8000000 in
set_option maxRecDepth 100000 in
theorem spec_l3Atom.calls (k : Nat) (a0 : ByteArray) (a1 : Int) (r1 : List (S54)) (r2 : Int) (w : World) (h : spec_l3Atom.f k a0 a1 = some (r1, r2)) :
  Calls Tryd.prog 54 #[.string a0, .int .i64 a1] w fun e w' => ∃ v0_ : Value, e = .returned (.tuple #[v0_, .int .i64 r2]) ∧ Kd.R k54 54 w' w.heap.size (fun _ => True) v0_ r1 ∧ Below w.heap.size w w' := by
 have hu54 := Tryd.underlying54; have HB := Aside0.mk (Below.refl w.heap.size w); have H : (if a1 < 0 then (spec_l3Atom.j0 k a0 a1 true) else (spec_l3Atom.j0 k a0 a1 (decide (a1 ≥ (a0.size : Int))))) = some (r1, r2) := h; clear h; have HC3 := Aside0.mk H; clear H
 go_enter Tryd.func54, Tryd.ntmps54
 go_upto_region 1 with (fail)
 go_cut [15] (fun v15 wc => ∃ (kq : Nat) (x15_2 : Bool), v15 = .bool x15_2 ∧ Aside0 (spec_l3Atom.j0 kq a0 a1 x15_2 = some (r1, r2)) ∧ Aside0 (kq ≤ k) ∧ Aside0 (Below w.heap.size w wc))
 case first =>
  have H := HC3.out; clear HC3
  by_cases c4 : a1 < 0
  ·rw [if_pos c4] at H
   have c4b0 : decide (a1 < 0) = true := decide_eq_true c4; clear c4
   (first | rw [c4b0] | (simp only [i64_w, i32_w]; rw [c4b0]) | skip)
   have H' := Aside0.mk H; clear H
   go_wp2
   go_meet
   case rel => exact ⟨_, (true), si_, H', ⟨by first | omega | exact Nat.le_refl _⟩, ⟨bl_ HB.out⟩⟩
  ·rw [if_neg c4] at H
   have c4b0 : decide (a1 < 0) = false := decide_eq_false c4; clear c4
   (first | rw [c4b0] | (simp only [i64_w, i32_w]; rw [c4b0]) | skip)
   have H' := Aside0.mk H; clear H
   go_wp2
   go_meet
   case rel => exact ⟨_, (decide (a1 ≥ (a0.size : Int))), si_, H', ⟨by first | omega | exact Nat.le_refl _⟩, ⟨bl_ HB.out⟩⟩
 case rest =>
  clear HC3; (try clear p2); (try clear c4); (try clear c4b0); obtain ⟨kq, x15_2, rfl, HA, HJ2, HB⟩ := hcut
  cases kq with
  | zero => exact absurd HA.out (by simp [spec_l3Atom.j0])
  | succ kj2 =>
   have H := HA.out; clear HA
   simp only [spec_l3Atom.j0] at H
   by_cases c5 : x15_2 = true
   ·subst c5
    have H1 : (some ((([] : List (S54))), (-1))) = some (r1, r2) := by rw [if_pos rfl] at H; exact H
    clear H; have H := H1; clear H1; obtain ⟨y122, hy122⟩ : ∃ y_ : List (S54), y_ = (([] : List (S54))) := ⟨_, rfl⟩
    rw [← hy122] at H; (try with_reducible replace H := hb_ H); (try dsimp only at H)
    have Ny122 := Aside0.mk hy122; clear hy122
    simp only [Option.some.injEq, Prod.mk.injEq] at H
    obtain ⟨rfl, rfl⟩ := H
    go_wp2_with (first | ((with_reducible refine gate_dst (N := 16) rfl ?_); (try (refine gate_guard (by rfl) ?_; dsimp only)); refine Kd.R_lit k54 _ 54 ?hg (N := 16) ?hd (xs := ([] : List (S54))) (inner := []) (ok := fun _ => True) (okp := fun _ => True) ?hr ?hp (fun _ hk => hk) trivial (Below.refl _ _) (Nat.le_refl _) (by simp) ?_; (case hd => rfl); (case hg => rfl); (case hr => first | (go_simp; done) | (go_simp; rfl)); (case hp => exact (Reps.none _ _)); intro v123 w6 ho7 hb hg_ hnew_; clear hg_ hnew_; (first | rw [← Ny122.out] at ho7 | (simp only [Int.reduceToNat] at ho7; rw [← Ny122.out] at ho7)); have n0_ := Aside0.mk (Kd.R_lower ho7 (below_size (bl_ HB.out))); have n1_ := Aside0.mk (below_step (bl_ HB.out) hb); clear HB; have HO124 := n0_; have HB := n1_; clear n0_ n1_; clear hb ho7))
    go_ret2
    exact ⟨_, by first | rfl | (simp [errW_none, errW_some] <;> rfl) | (simp [*, errW_none, errW_some] <;> rfl), r_ HO124.out, bl_ HB.out⟩
   ·replace c5 := Bool.eq_false_iff.mpr c5
    subst c5
    have H1 : (if 0 ≤ a1 then (if a1 < (a0.size : Int) then (if (bt a0 a1) = 40 then ((Ror.f a0 (wrap64 (a1 + 1))).bind fun bt125 => (if bt125.2 < 0 then (spec_l3Atom.j1 kj2 bt125.1 bt125.2 true) else (if bt125.2 ≥ (a0.size : Int) then (spec_l3Atom.j1 kj2 bt125.1 bt125.2 true) else (if 0 ≤ bt125.2 then (if bt125.2 < (a0.size : Int) then (spec_l3Atom.j1 kj2 bt125.1 bt125.2 ((bt a0 bt125.2) != 41)) else (none)) else (none))))) else (if (wrap64 (a1 + 2)) > (a0.size : Int) then (some ((([] : List (S54))), (-1))) else (if (bt a0 a1) < 65 then (some ((([] : List (S54))), (-1))) else (if (bt a0 a1) > 68 then (some ((([] : List (S54))), (-1))) else (if 0 ≤ (wrap64 (a1 + 1)) then (if (wrap64 (a1 + 1)) < (a0.size : Int) then (if (bt a0 (wrap64 (a1 + 1))) < 48 then (some ((([] : List (S54))), (-1))) else (if (bt a0 (wrap64 (a1 + 1))) > 57 then (some ((([] : List (S54))), (-1))) else (some ((([(⟨0, ((bt a0 a1) - 65) % 256, ((bt a0 (wrap64 (a1 + 1))) - 48) % 256⟩ : S54)] : List (S54))), wrap64 (a1 + 2))))) else (none)) else (none)))))) else (none)) else (none)) = some (r1, r2) := by rw [if_neg (show ¬ (false = true) by decide)] at H; exact H
    clear H; have H := H1; clear H1
    by_cases c8 : 0 ≤ a1; rotate_left
    ·rw [if_neg c8] at H; exact absurd H (by simp)
    rw [if_pos c8] at H
    have c8b0 : decide (0 ≤ a1) = true := decide_eq_true c8; clear c8
    by_cases c9 : a1 < (a0.size : Int); rotate_left
    ·rw [if_neg c9] at H; exact absurd H (by simp)
    rw [if_pos c9] at H
    have c9b0 : decide (a1 < (a0.size : Int)) = true := decide_eq_true c9; clear c9
    by_cases c11 : (bt a0 a1) = 40
    ·rw [if_pos c11] at H
     have c11b0 : ((bt a0 a1) == 40) = true := beq_iff_eq.mpr c11; have c11b1 : ((bt a0 a1) != 40) = false := bne_eq_false_iff_eq.mpr c11; clear c11; replace H := Option.bind_eq_some_iff.mp H; obtain ⟨⟨t125, t126⟩, A120, H⟩ := H; replace H : (if t126 < 0 then (spec_l3Atom.j1 kj2 t125 t126 true) else (if t126 ≥ (a0.size : Int) then (spec_l3Atom.j1 kj2 t125 t126 true) else (if 0 ≤ t126 then (if t126 < (a0.size : Int) then (spec_l3Atom.j1 kj2 t125 t126 ((bt a0 t126) != 41)) else (none)) else (none)))) = some (r1, r2) := H; have A12 := Aside0.mk A120; clear A120; have HC13 := Aside0.mk H; clear H; have p10 : 0 ≤ (a1 : Int) := of_decide_eq_true as_; have q10 : a1 < (a0.size : Int) := of_decide_eq_true as_; have hx10 := bt_at a0 a1; replace p10 := eq_true p10; replace q10 := eq_true q10
     go_upto_region 5 with (first | ((with_reducible refine gate_callee (f := 26) rfl ?_); refine goesL_ (some 25) rfl rfl Tryd.func26 (by kernel_rfl) rfl #[.string a0, .int .i64 (wrap64 (a1 + 1))] rfl ga_ ?_; (with_reducible refine (Ror.calls a0 (wrap64 (a1 + 1)) t125 t126 _ A12.out).mono ?_); rintro e w14 ⟨v127, rfl, ho0, hb⟩; refine ⟨_, rfl, ?_⟩; have n0_ := Aside0.mk (Kd.R_lower ho0 (below_size (bl_ HB.out))); have n1_ := Aside0.mk (below_step (bl_ HB.out) hb); clear HB; have HO128 := n0_; have HB := n1_; clear n0_ n1_; (try clear hb); (try clear hb2); (try clear hk); (try clear hi); (try clear ho0)))
     (try simp only [Act.put, List.setIfInBounds_toArray, List.set_cons_zero, List.set_cons_succ])
     go_cut [41] (fun v41 wc => ∃ (kq : Nat) (x41_12 : Bool), v41 = .bool x41_12 ∧ Aside0 (spec_l3Atom.j1 kq t125 t126 x41_12 = some (r1, r2)) ∧ Aside0 (kq ≤ kj2) ∧ Aside0 (Kd.R k54 54 wc w.heap.size (fun _ => True) v127 t125) ∧ Aside0 (Below w.heap.size w wc))
     case first =>
      have H := HC13.out; clear HC13
      by_cases c15 : t126 < 0
      ·rw [if_pos c15] at H
       have c15b0 : decide (t126 < 0) = true := decide_eq_true c15; clear c15
       (first | rw [c15b0] | (simp only [i64_w, i32_w]; rw [c15b0]) | skip)
       have H' := Aside0.mk H; clear H
       go_wp2
       go_meet
       case rel => exact ⟨_, (true), si_, H', ⟨by have := HJ2.out; first | omega | exact Nat.le_refl _⟩, ⟨r_ HO128.out⟩, ⟨bl_ HB.out⟩⟩
      ·rw [if_neg c15] at H
       have c15b0 : decide (t126 < 0) = false := decide_eq_false c15; clear c15
       (first | rw [c15b0] | (simp only [i64_w, i32_w]; rw [c15b0]) | skip)
       by_cases c16 : t126 ≥ (a0.size : Int)
       ·rw [if_pos c16] at H
        have c16b0 : decide ((a0.size : Int) ≤ t126) = true := decide_eq_true c16; clear c16; have H' := Aside0.mk H; clear H
        go_wp2
        go_meet
        case rel => exact ⟨_, (true), si_, H', ⟨by have := HJ2.out; first | omega | exact Nat.le_refl _⟩, ⟨r_ HO128.out⟩, ⟨bl_ HB.out⟩⟩
       ·rw [if_neg c16] at H
        have c16b0 : decide ((a0.size : Int) ≤ t126) = false := decide_eq_false c16; clear c16
        by_cases c17 : 0 ≤ t126; rotate_left
        ·rw [if_neg c17] at H; exact absurd H (by simp)
        rw [if_pos c17] at H
        have c17b0 : decide (0 ≤ t126) = true := decide_eq_true c17; clear c17
        by_cases c18 : t126 < (a0.size : Int); rotate_left
        ·rw [if_neg c18] at H; exact absurd H (by simp)
        rw [if_pos c18] at H
        have c18b0 : decide (t126 < (a0.size : Int)) = true := decide_eq_true c18; clear c18; have H' := Aside0.mk H; clear H; have p19 : 0 ≤ (t126 : Int) := of_decide_eq_true as_; have q19 : t126 < (a0.size : Int) := of_decide_eq_true as_; have hx19 := bt_at a0 t126; replace p19 := eq_true p19; replace q19 := eq_true q19
        go_wp2
        go_meet
        case rel => exact ⟨_, (((bt a0 t126) != 41)), si_, H', ⟨by have := HJ2.out; first | omega | exact Nat.le_refl _⟩, ⟨r_ HO128.out⟩, ⟨bl_ HB.out⟩⟩
     case rest =>
      clear HC13; (try clear c1); (try clear p1); (try clear q1); (try clear hx1); (try clear c2); (try clear p2); (try clear c4); (try clear c4b0); (try clear c5); (try clear p6); (try clear c8); (try clear c8b0); (try clear c9); (try clear c9b0); (try clear p10); (try clear q10); (try clear hx10); (try clear c11); (try clear c11b0); (try clear c11b1); (try clear c15); (try clear c15b0); (try clear c16); (try clear c16b0); (try clear c17); (try clear c17b0); (try clear c18); (try clear c18b0); (try clear p19); (try clear q19); (try clear hx19); (try clear p10); (try clear p19); (try clear p2); (try clear q10); (try clear q19); obtain ⟨kq, x41_12, rfl, HA, HJ12, HO_6, HB⟩ := hcut
      cases kq with
      | zero => exact absurd HA.out (by simp [spec_l3Atom.j1])
      | succ kj12 =>
       have H := HA.out; clear HA
       simp only [spec_l3Atom.j1] at H
       by_cases c20 : x41_12 = true
       ·subst c20
        have H1 : (some ((([] : List (S54))), (-1))) = some (r1, r2) := by rw [if_pos rfl] at H; exact H
        clear H; have H := H1; clear H1; obtain ⟨y129, hy129⟩ : ∃ y_ : List (S54), y_ = (([] : List (S54))) := ⟨_, rfl⟩
        rw [← hy129] at H; (try with_reducible replace H := hb_ H); (try dsimp only at H)
        have Ny129 := Aside0.mk hy129; clear hy129
        simp only [Option.some.injEq, Prod.mk.injEq] at H
        obtain ⟨rfl, rfl⟩ := H
        go_wp2_with (first | ((with_reducible refine gate_dst (N := 42) rfl ?_); (try (refine gate_guard (by rfl) ?_; dsimp only)); refine Kd.R_lit k54 _ 54 ?hg (N := 42) ?hd (xs := ([] : List (S54))) (inner := []) (ok := fun _ => True) (okp := fun _ => True) ?hr ?hp (fun _ hk => hk) trivial (Below.refl _ _) (Nat.le_refl _) (by simp) ?_; (case hd => rfl); (case hg => rfl); (case hr => first | (go_simp; done) | (go_simp; rfl)); (case hp => exact (Reps.none _ _)); intro v130 w21 ho22 hb hg_ hnew_; clear hg_ hnew_; (first | rw [← Ny129.out] at ho22 | (simp only [Int.reduceToNat] at ho22; rw [← Ny129.out] at ho22)); have n0_ := Aside0.mk (Kd.R_elder' (r_ HO_6.out) (Kd.R_base ho22) hb); have n1_ := Aside0.mk (Kd.R_lower (Kd.R_new' ho22 (Kd.R_lt (r_ HO_6.out))) (below_size (bl_ HB.out))); have n2_ := Aside0.mk (below_step (bl_ HB.out) hb); clear HO_6; clear HB; have HO_6 := n0_; have HO131 := n1_; have HB := n2_; clear n0_ n1_ n2_; clear hb ho22))
        go_ret2
        exact ⟨_, by first | rfl | (simp [errW_none, errW_some] <;> rfl) | (simp [*, errW_none, errW_some] <;> rfl), by (with_reducible repeat (first | apply Kd.R_alloc | apply Kd.R_drewN | apply Kd.R_drew)); exact Kd.R_mono HO131.out (fun _ hk => trivial), bl_ HB.out⟩
       ·replace c20 := Bool.eq_false_iff.mpr c20
        subst c20
        have H1 : (some (t125, wrap64 (t126 + 1))) = some (r1, r2) := by rw [if_neg (show ¬ (false = true) by decide)] at H; exact H
        clear H; have H := H1; clear H1
        simp only [Option.some.injEq, Prod.mk.injEq] at H
        obtain ⟨rfl, rfl⟩ := H
        go_wp2
        go_ret2
        exact ⟨_, by first | rfl | (simp [errW_none, errW_some] <;> rfl) | (simp [*, errW_none, errW_some] <;> rfl), r_ HO_6.out, bl_ HB.out⟩
    ·rw [if_neg c11] at H
     have c11b0 : ((bt a0 a1) == 40) = false := beq_eq_false_iff_ne.mpr c11; have c11b1 : ((bt a0 a1) != 40) = true := bne_iff_ne.mpr c11
     by_cases c23 : (wrap64 (a1 + 2)) > (a0.size : Int)
     ·rw [if_pos c23] at H
      have c23b0 : decide ((a0.size : Int) < (wrap64 (a1 + 2))) = true := decide_eq_true c23; clear c23; obtain ⟨y132, hy132⟩ : ∃ y_ : List (S54), y_ = (([] : List (S54))) := ⟨_, rfl⟩
      rw [← hy132] at H; (try with_reducible replace H := hb_ H); (try dsimp only at H)
      have Ny132 := Aside0.mk hy132; clear hy132
      simp only [Option.some.injEq, Prod.mk.injEq] at H
      obtain ⟨rfl, rfl⟩ := H; have p10 : 0 ≤ (a1 : Int) := of_decide_eq_true as_; have q10 : a1 < (a0.size : Int) := of_decide_eq_true as_; have hx10 := bt_at a0 a1; replace p10 := eq_true p10; replace q10 := eq_true q10
      go_wp2_with (first | ((with_reducible refine gate_dst (N := 77) rfl ?_); (try (refine gate_guard (by rfl) ?_; dsimp only)); refine Kd.R_lit k54 _ 54 ?hg (N := 77) ?hd (xs := ([] : List (S54))) (inner := []) (ok := fun _ => True) (okp := fun _ => True) ?hr ?hp (fun _ hk => hk) trivial (Below.refl _ _) (Nat.le_refl _) (by simp) ?_; (case hd => rfl); (case hg => rfl); (case hr => first | (go_simp; done) | (go_simp; rfl)); (case hp => exact (Reps.none _ _)); intro v133 w24 ho25 hb hg_ hnew_; clear hg_ hnew_; (first | rw [← Ny132.out] at ho25 | (simp only [Int.reduceToNat] at ho25; rw [← Ny132.out] at ho25)); have n0_ := Aside0.mk (Kd.R_lower ho25 (below_size (bl_ HB.out))); have n1_ := Aside0.mk (below_step (bl_ HB.out) hb); clear HB; have HO134 := n0_; have HB := n1_; clear n0_ n1_; clear hb ho25))
      go_ret2
      exact ⟨_, by first | rfl | (simp [errW_none, errW_some] <;> rfl) | (simp [*, errW_none, errW_some] <;> rfl), r_ HO134.out, bl_ HB.out⟩
     ·rw [if_neg c23] at H
      have c23b0 : decide ((a0.size : Int) < (wrap64 (a1 + 2))) = false := decide_eq_false c23; clear c23
      by_cases c27 : (bt a0 a1) < 65
      ·rw [if_pos c27] at H
       have c27b0 : decide ((bt a0 a1) < 65) = true := decide_eq_true c27; clear c27; obtain ⟨y135, hy135⟩ : ∃ y_ : List (S54), y_ = (([] : List (S54))) := ⟨_, rfl⟩
       rw [← hy135] at H; (try with_reducible replace H := hb_ H); (try dsimp only at H)
       have Ny135 := Aside0.mk hy135; clear hy135
       simp only [Option.some.injEq, Prod.mk.injEq] at H
       obtain ⟨rfl, rfl⟩ := H; have p10 : 0 ≤ (a1 : Int) := of_decide_eq_true as_; have q10 : a1 < (a0.size : Int) := of_decide_eq_true as_; have hx10 := bt_at a0 a1; replace p10 := eq_true p10; replace q10 := eq_true q10; have p26 : 0 ≤ (a1 : Int) := of_decide_eq_true as_; have q26 : a1 < (a0.size : Int) := of_decide_eq_true as_; have hx26 := bt_at a0 a1; replace p26 := eq_true p26; replace q26 := eq_true q26
       go_wp2_with (first | ((with_reducible refine gate_dst (N := 77) rfl ?_); (try (refine gate_guard (by rfl) ?_; dsimp only)); refine Kd.R_lit k54 _ 54 ?hg (N := 77) ?hd (xs := ([] : List (S54))) (inner := []) (ok := fun _ => True) (okp := fun _ => True) ?hr ?hp (fun _ hk => hk) trivial (Below.refl _ _) (Nat.le_refl _) (by simp) ?_; (case hd => rfl); (case hg => rfl); (case hr => first | (go_simp; done) | (go_simp; rfl)); (case hp => exact (Reps.none _ _)); intro v136 w28 ho29 hb hg_ hnew_; clear hg_ hnew_; (first | rw [← Ny135.out] at ho29 | (simp only [Int.reduceToNat] at ho29; rw [← Ny135.out] at ho29)); have n0_ := Aside0.mk (Kd.R_lower ho29 (below_size (bl_ HB.out))); have n1_ := Aside0.mk (below_step (bl_ HB.out) hb); clear HB; have HO137 := n0_; have HB := n1_; clear n0_ n1_; clear hb ho29))
       go_ret2
       exact ⟨_, by first | rfl | (simp [errW_none, errW_some] <;> rfl) | (simp [*, errW_none, errW_some] <;> rfl), r_ HO137.out, bl_ HB.out⟩
      ·rw [if_neg c27] at H
       have c27b0 : decide ((bt a0 a1) < 65) = false := decide_eq_false c27; clear c27
       by_cases c31 : (bt a0 a1) > 68
       ·rw [if_pos c31] at H
        have c31b0 : decide (68 < (bt a0 a1)) = true := decide_eq_true c31; clear c31; obtain ⟨y138, hy138⟩ : ∃ y_ : List (S54), y_ = (([] : List (S54))) := ⟨_, rfl⟩
        rw [← hy138] at H; (try with_reducible replace H := hb_ H); (try dsimp only at H)
        have Ny138 := Aside0.mk hy138; clear hy138
        simp only [Option.some.injEq, Prod.mk.injEq] at H
        obtain ⟨rfl, rfl⟩ := H; have p10 : 0 ≤ (a1 : Int) := of_decide_eq_true as_; have q10 : a1 < (a0.size : Int) := of_decide_eq_true as_; have hx10 := bt_at a0 a1; replace p10 := eq_true p10; replace q10 := eq_true q10; have p26 : 0 ≤ (a1 : Int) := of_decide_eq_true as_; have q26 : a1 < (a0.size : Int) := of_decide_eq_true as_; have hx26 := bt_at a0 a1; replace p26 := eq_true p26; replace q26 := eq_true q26; have p30 : 0 ≤ (a1 : Int) := of_decide_eq_true as_; have q30 : a1 < (a0.size : Int) := of_decide_eq_true as_; have hx30 := bt_at a0 a1; replace p30 := eq_true p30; replace q30 := eq_true q30
        go_wp2_with (first | ((with_reducible refine gate_dst (N := 77) rfl ?_); (try (refine gate_guard (by rfl) ?_; dsimp only)); refine Kd.R_lit k54 _ 54 ?hg (N := 77) ?hd (xs := ([] : List (S54))) (inner := []) (ok := fun _ => True) (okp := fun _ => True) ?hr ?hp (fun _ hk => hk) trivial (Below.refl _ _) (Nat.le_refl _) (by simp) ?_; (case hd => rfl); (case hg => rfl); (case hr => first | (go_simp; done) | (go_simp; rfl)); (case hp => exact (Reps.none _ _)); intro v139 w32 ho33 hb hg_ hnew_; clear hg_ hnew_; (first | rw [← Ny138.out] at ho33 | (simp only [Int.reduceToNat] at ho33; rw [← Ny138.out] at ho33)); have n0_ := Aside0.mk (Kd.R_lower ho33 (below_size (bl_ HB.out))); have n1_ := Aside0.mk (below_step (bl_ HB.out) hb); clear HB; have HO140 := n0_; have HB := n1_; clear n0_ n1_; clear hb ho33))
        go_ret2
        exact ⟨_, by first | rfl | (simp [errW_none, errW_some] <;> rfl) | (simp [*, errW_none, errW_some] <;> rfl), r_ HO140.out, bl_ HB.out⟩
       ·rw [if_neg c31] at H
        have c31b0 : decide (68 < (bt a0 a1)) = false := decide_eq_false c31; clear c31; obtain ⟨ji34, hji34⟩ : ∃ j_ : Int, (wrap64 (a1 + 1)) = j_ := ⟨_, rfl⟩
        replace H : (if 0 ≤ (ji34) then (if (ji34) < (a0.size : Int) then (if (bt a0 (ji34)) < 48 then (some ((([] : List (S54))), (-1))) else (if (bt a0 (ji34)) > 57 then (some ((([] : List (S54))), (-1))) else (some ((([(⟨0, ((bt a0 a1) - 65) % 256, ((bt a0 (ji34)) - 48) % 256⟩ : S54)] : List (S54))), wrap64 (a1 + 2))))) else (none)) else (none)) = some (r1, r2) := by first | (rw [hji34] at H; exact H) | (simp only [hji34] at H ⊢; exact H)
        have hji34w : (IntKind.i64.wrap (a1 + 1)) = ji34 := (i64_w _).trans hji34
        by_cases c35 : 0 ≤ (ji34); rotate_left
        ·rw [if_neg c35] at H; exact absurd H (by simp)
        rw [if_pos c35] at H
        have c35b0 : decide (0 ≤ (ji34)) = true := decide_eq_true c35; clear c35
        by_cases c36 : (ji34) < (a0.size : Int); rotate_left
        ·rw [if_neg c36] at H; exact absurd H (by simp)
        rw [if_pos c36] at H
        have c36b0 : decide ((ji34) < (a0.size : Int)) = true := decide_eq_true c36; clear c36
        by_cases c38 : (bt a0 (ji34)) < 48
        ·rw [if_pos c38] at H
         have c38b0 : decide ((bt a0 (ji34)) < 48) = true := decide_eq_true c38; clear c38; obtain ⟨y141, hy141⟩ : ∃ y_ : List (S54), y_ = (([] : List (S54))) := ⟨_, rfl⟩
         rw [← hy141] at H; (try with_reducible replace H := hb_ H); (try dsimp only at H)
         have Ny141 := Aside0.mk hy141; clear hy141
         simp only [Option.some.injEq, Prod.mk.injEq] at H
         obtain ⟨rfl, rfl⟩ := H; have p10 : 0 ≤ (a1 : Int) := of_decide_eq_true as_; have q10 : a1 < (a0.size : Int) := of_decide_eq_true as_; have hx10 := bt_at a0 a1; replace p10 := eq_true p10; replace q10 := eq_true q10; have p26 : 0 ≤ (a1 : Int) := of_decide_eq_true as_; have q26 : a1 < (a0.size : Int) := of_decide_eq_true as_; have hx26 := bt_at a0 a1; replace p26 := eq_true p26; replace q26 := eq_true q26; have p30 : 0 ≤ (a1 : Int) := of_decide_eq_true as_; have q30 : a1 < (a0.size : Int) := of_decide_eq_true as_; have hx30 := bt_at a0 a1; replace p30 := eq_true p30; replace q30 := eq_true q30; have p37 : 0 ≤ ((ji34) : Int) := of_decide_eq_true as_; have q37 : (ji34) < (a0.size : Int) := of_decide_eq_true as_; have hx37 := bt_at a0 (ji34); replace p37 := eq_true p37; replace q37 := eq_true q37
         go_wp2_with (first | ((with_reducible refine gate_dst (N := 77) rfl ?_); (try (refine gate_guard (by rfl) ?_; dsimp only)); refine Kd.R_lit k54 _ 54 ?hg (N := 77) ?hd (xs := ([] : List (S54))) (inner := []) (ok := fun _ => True) (okp := fun _ => True) ?hr ?hp (fun _ hk => hk) trivial (Below.refl _ _) (Nat.le_refl _) (by simp) ?_; (case hd => rfl); (case hg => rfl); (case hr => first | (go_simp; done) | (go_simp; rfl)); (case hp => exact (Reps.none _ _)); intro v142 w39 ho40 hb hg_ hnew_; clear hg_ hnew_; (first | rw [← Ny141.out] at ho40 | (simp only [Int.reduceToNat] at ho40; rw [← Ny141.out] at ho40)); have n0_ := Aside0.mk (Kd.R_lower ho40 (below_size (bl_ HB.out))); have n1_ := Aside0.mk (below_step (bl_ HB.out) hb); clear HB; have HO143 := n0_; have HB := n1_; clear n0_ n1_; clear hb ho40))
         go_ret2
         exact ⟨_, by first | rfl | (simp [errW_none, errW_some] <;> rfl) | (simp only [← hji34]; first | rfl | (simp [errW_none, errW_some] <;> rfl)) | (simp [*, errW_none, errW_some] <;> rfl), r_ HO143.out, bl_ HB.out⟩
        ·rw [if_neg c38] at H
         have c38b0 : decide ((bt a0 (ji34)) < 48) = false := decide_eq_false c38; clear c38
         by_cases c42 : (bt a0 (ji34)) > 57
         ·rw [if_pos c42] at H
          have c42b0 : decide (57 < (bt a0 (ji34))) = true := decide_eq_true c42; clear c42; obtain ⟨y144, hy144⟩ : ∃ y_ : List (S54), y_ = (([] : List (S54))) := ⟨_, rfl⟩
          rw [← hy144] at H; (try with_reducible replace H := hb_ H); (try dsimp only at H)
          have Ny144 := Aside0.mk hy144; clear hy144
          simp only [Option.some.injEq, Prod.mk.injEq] at H
          obtain ⟨rfl, rfl⟩ := H; have p10 : 0 ≤ (a1 : Int) := of_decide_eq_true as_; have q10 : a1 < (a0.size : Int) := of_decide_eq_true as_; have hx10 := bt_at a0 a1; replace p10 := eq_true p10; replace q10 := eq_true q10; have p26 : 0 ≤ (a1 : Int) := of_decide_eq_true as_; have q26 : a1 < (a0.size : Int) := of_decide_eq_true as_; have hx26 := bt_at a0 a1; replace p26 := eq_true p26; replace q26 := eq_true q26; have p30 : 0 ≤ (a1 : Int) := of_decide_eq_true as_; have q30 : a1 < (a0.size : Int) := of_decide_eq_true as_; have hx30 := bt_at a0 a1; replace p30 := eq_true p30; replace q30 := eq_true q30; have p37 : 0 ≤ ((ji34) : Int) := of_decide_eq_true as_; have q37 : (ji34) < (a0.size : Int) := of_decide_eq_true as_; have hx37 := bt_at a0 (ji34); replace p37 := eq_true p37; replace q37 := eq_true q37; have p41 : 0 ≤ ((ji34) : Int) := of_decide_eq_true as_; have q41 : (ji34) < (a0.size : Int) := of_decide_eq_true as_; have hx41 := bt_at a0 (ji34); replace p41 := eq_true p41; replace q41 := eq_true q41
          go_wp2_with (first | ((with_reducible refine gate_dst (N := 77) rfl ?_); (try (refine gate_guard (by rfl) ?_; dsimp only)); refine Kd.R_lit k54 _ 54 ?hg (N := 77) ?hd (xs := ([] : List (S54))) (inner := []) (ok := fun _ => True) (okp := fun _ => True) ?hr ?hp (fun _ hk => hk) trivial (Below.refl _ _) (Nat.le_refl _) (by simp) ?_; (case hd => rfl); (case hg => rfl); (case hr => first | (go_simp; done) | (go_simp; rfl)); (case hp => exact (Reps.none _ _)); intro v145 w43 ho44 hb hg_ hnew_; clear hg_ hnew_; (first | rw [← Ny144.out] at ho44 | (simp only [Int.reduceToNat] at ho44; rw [← Ny144.out] at ho44)); have n0_ := Aside0.mk (Kd.R_lower ho44 (below_size (bl_ HB.out))); have n1_ := Aside0.mk (below_step (bl_ HB.out) hb); clear HB; have HO146 := n0_; have HB := n1_; clear n0_ n1_; clear hb ho44))
          go_ret2
          exact ⟨_, by first | rfl | (simp [errW_none, errW_some] <;> rfl) | (simp only [← hji34]; first | rfl | (simp [errW_none, errW_some] <;> rfl)) | (simp [*, errW_none, errW_some] <;> rfl), r_ HO146.out, bl_ HB.out⟩
         ·rw [if_neg c42] at H
          have c42b0 : decide (57 < (bt a0 (ji34))) = false := decide_eq_false c42; clear c42; obtain ⟨y147, hy147⟩ : ∃ y_ : List (S54), y_ = (([(⟨0, ((bt a0 a1) - 65) % 256, ((bt a0 (ji34)) - 48) % 256⟩ : S54)] : List (S54))) := ⟨_, rfl⟩
          rw [← hy147] at H; (try with_reducible replace H := hb_ H); (try dsimp only at H)
          have Ny147 := Aside0.mk hy147; clear hy147
          simp only [Option.some.injEq, Prod.mk.injEq] at H
          obtain ⟨rfl, rfl⟩ := H; have p10 : 0 ≤ (a1 : Int) := of_decide_eq_true as_; have q10 : a1 < (a0.size : Int) := of_decide_eq_true as_; have hx10 := bt_at a0 a1; replace p10 := eq_true p10; replace q10 := eq_true q10; have p26 : 0 ≤ (a1 : Int) := of_decide_eq_true as_; have q26 : a1 < (a0.size : Int) := of_decide_eq_true as_; have hx26 := bt_at a0 a1; replace p26 := eq_true p26; replace q26 := eq_true q26; have p30 : 0 ≤ (a1 : Int) := of_decide_eq_true as_; have q30 : a1 < (a0.size : Int) := of_decide_eq_true as_; have hx30 := bt_at a0 a1; replace p30 := eq_true p30; replace q30 := eq_true q30; have p37 : 0 ≤ ((ji34) : Int) := of_decide_eq_true as_; have q37 : (ji34) < (a0.size : Int) := of_decide_eq_true as_; have hx37 := bt_at a0 (ji34); replace p37 := eq_true p37; replace q37 := eq_true q37; have p41 : 0 ≤ ((ji34) : Int) := of_decide_eq_true as_; have q41 : (ji34) < (a0.size : Int) := of_decide_eq_true as_; have hx41 := bt_at a0 (ji34); replace p41 := eq_true p41; replace q41 := eq_true q41
          try go_wp2
          have n0_ := Aside0.mk (below_drew1 HB.out); clear HB; have HB := n0_; clear n0_; have p45 : 0 ≤ (a1 : Int) := of_decide_eq_true as_; have q45 : a1 < (a0.size : Int) := of_decide_eq_true as_; have hx45 := bt_at a0 a1; replace p45 := eq_true p45; replace q45 := eq_true q45; have p46 : 0 ≤ ((ji34) : Int) := of_decide_eq_true as_; have q46 : (ji34) < (a0.size : Int) := of_decide_eq_true as_; have hx46 := bt_at a0 (ji34); replace p46 := eq_true p46; replace q46 := eq_true q46
          refine start_ (n := 17) (S := fun w' => True) (ds := []) #[false, false, false, false, false, false, false, false, false, false, false, false, false, false, false, false, false] (by kernel_rfl) rfl rfl trivial (fun hHeld => ?_); refine with_tabW spec_l3Atom.tab10 spec_l3Atom.bits10 (fun HT_ HW_ => ?_)
          generalize wc.drew = w47 at HB hHeld ⊢
          refine pr_ HT_.out 0 (some 78) #[true, false, false, false, false, false, false, false, false, false, false, false, false, false, false, false, false] ?_
          refine pr_ HT_.out 1 (some 79) #[true, true, false, false, false, false, false, false, false, false, false, false, false, false, false, false, false] ?_
          refine pr_ HT_.out 5 (some 83) #[true, true, false, false, false, true, false, false, false, false, false, false, false, false, false, false, false] ?_
          refine pr_ HT_.out 6 (some 84) #[true, true, false, false, false, true, true, false, false, false, false, false, false, false, false, false, false] ?_
          refine pr_ HT_.out 7 (some 85) #[true, true, false, false, false, true, true, true, false, false, false, false, false, false, false, false, false] ?_
          refine pr_ HT_.out 13 (some 91) #[true, true, false, false, false, true, true, true, false, false, false, false, false, true, false, false, false] ?_
          refine pr_ HT_.out 14 (some 92) #[true, true, false, false, false, true, true, true, false, false, false, false, false, true, true, false, false] ?_
          refine take_ (i := 2) (N := some 80) (v := ?_) (a' := ?_) #[true, true, true, false, false, true, true, true, false, false, false, false, false, true, true, false, false] rfl rfl (take_ofW HT_.out HW_.out (by kernel_rfl)) (fun _ _ _ h => h) (Or.inl ⟨by rfl, ?_⟩) hHeld ?_ ?_
          rotate_left
          ·intro w' _
           go_simp
           with_reducible rfl
          rotate_left
          ·simp only [Act.put, List.setIfInBounds_toArray, List.set_cons_zero, List.set_cons_succ, i64_w, i32_w]
           rfl
          refine pr_ HT_.out 3 (some 81) #[true, true, true, true, false, true, true, true, false, false, false, false, false, true, true, false, false] ?_
          refine pr_ HT_.out 4 (some 82) #[true, true, true, true, true, true, true, true, false, false, false, false, false, true, true, false, false] ?_
          refine take_ (i := 8) (N := some 86) (v := ?_) (a' := ?_) #[true, true, true, true, true, true, true, true, true, false, false, false, false, true, true, false, false] rfl rfl (take_ofW HT_.out HW_.out (by kernel_rfl)) (fun _ _ _ h => h) (Or.inl ⟨by rfl, ?_⟩) hHeld ?_ ?_
          rotate_left
          ·intro w' _
           go_simp
           with_reducible rfl
          rotate_left
          ·simp only [Act.put, List.setIfInBounds_toArray, List.set_cons_zero, List.set_cons_succ, i64_w, i32_w]
           rfl
          refine pr_ HT_.out 9 (some 87) #[true, true, true, true, true, true, true, true, true, true, false, false, false, true, true, false, false] ?_
          refine pr_ HT_.out 10 (some 88) #[true, true, true, true, true, true, true, true, true, true, true, false, false, true, true, false, false] ?_
          refine pr_ HT_.out 11 (some 89) #[true, true, true, true, true, true, true, true, true, true, true, true, false, true, true, false, false] ?_
          refine one_ (i := 12) (N := some 90) #[true, true, true, true, true, true, true, true, true, true, true, true, true, true, true, false, false] rfl rfl (one_of HT_.out (by kernel_rfl)) (by decide) (fun K hK => ?_)
          refine Kd.R_lit_step k54 _ 54 ?hg (N := 90) ?hd (xs := ([(⟨0, ((bt a0 a1) - 65) % 256, ((bt a0 (ji34)) - 48) % 256⟩ : S54)] : List (S54))) (inner := [.int .i64 0, .int .i64 (((bt a0 a1) - 65) % 256), .int .i64 (((bt a0 (ji34)) - 48) % 256)]) (ok := fun _ => True) (okp := fun _ => True) ?hr ?hp (fun _ hk => hk) trivial (Below.refl _ _) (Nat.le_refl _) (by simp) ?_; (case hd => rfl); (case hg => rfl); (case hr => first | (go_simp; done) | (go_simp; rfl) | (go_simp; simp only [u8i_])); (case hp => exact (Reps.c3 (show Kd.M k54 _ _ _ (⟨0, ((bt a0 a1) - 65) % 256, ((bt a0 (ji34)) - 48) % 256⟩ : S54) [.int .i64 0, .int .i64 (((bt a0 a1) - 65) % 256), .int .i64 (((bt a0 (ji34)) - 48) % 256)] from (k54_mkM _ _ _ (⟨0, ((bt a0 a1) - 65) % 256, ((bt a0 (ji34)) - 48) % 256⟩ : S54) )) (Reps.none _ _)))
          intro v148 w48 ho49 hb hg_ hnew_; clear hg_ hnew_
          (first | rw [← Ny147.out] at ho49 | (simp only [Int.reduceToNat] at ho49; rw [← Ny147.out] at ho49))
          have n0_ := Aside0.mk (Kd.R_lower ho49 (below_size (bl_ HB.out))); have n1_ := Aside0.mk (below_step (bl_ HB.out) hb); clear HB; have HO149 := n0_; have HB := n1_; clear n0_ n1_ hb ho49
          refine hK.out _ _ trivial (fun hHeld => ?_)
          clear hK K
          refine norm_ (a' := ?_) ?_ ?_
          rotate_left
          ·show Act.put _ (some 90) _ = _
           simp only [Act.put, List.setIfInBounds_toArray, List.set_cons_zero, List.set_cons_succ, i64_w, i32_w]
           rfl
          refine pr_ HT_.out 15 (some 4) #[true, true, true, true, true, true, true, true, true, true, true, true, true, true, true, true, false] ?_
          refine pr_ HT_.out 16 (some 5) #[true, true, true, true, true, true, true, true, true, true, true, true, true, true, true, true, true] ?_
          refine done_ (done_of HT_.out (by kernel_rfl)) ?_
          try go_wp2
          go_ret2
          exact ⟨_, by first | rfl | (simp [errW_none, errW_some] <;> rfl) | (simp only [← hji34]; first | rfl | (simp [errW_none, errW_some] <;> rfl)) | (simp [*, errW_none, errW_some] <;> rfl), r_ HO149.out, bl_ HB.out⟩

end

end Go.Proofs.YtoifikhcnioagaaDoor.PFnReadTerm
