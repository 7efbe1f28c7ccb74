/- Walks of the functions that this law reaches, one by one, written by a program. No condition. -/
import Derived.Test.YtoifikhcnioagaaDoorPFnReadTermx0
import Derived.Test.YtoifikhcnioagaaDoorPFnReadTermx10
import Derived.Test.YtoifikhcnioagaaDoorPFnReadTermx12
import Derived.Test.YtoifikhcnioagaaDoorPFnReadTermx94
namespace Go.Proofs.YtoifikhcnioagaaDoor.PFnReadTerm
open Go.RowKit Go.Proofs.YtoifikhcnioagaaDoorW.PrintWords Go.Proofs.YtoifikhcnioagaaDoorW.PrintLast Go.Proofs.YtoifikhcnioagaaDoorW.PrintMore
attribute [local go_sem] max2_int min2_int max_two min_two max_three min_three max_four min_four   -- for this text's walks alone
set_option linter.unusedVariables false
set_option linter.unusedSimpArgs false


section
variable [Ror]
/-! ### spec_l3And: function 40 -/
def spec_l3And.l0 : Nat → ByteArray → List (S54) → Int → Option ((List (S54)) × Int)
 | 0, _, _, _ => none
 | k + 1, x0, x6, x7 => if x7 ≥ 0 then (if x7 < (x0.size : Int) then (if 0 ≤ x7 then (if (bt x0 x7) = 38 then ((spec_l3Atom.f k x0 (wrap64 (x7 + 1))).bind fun bt126 => ((some (([] : List (S54)) : List (S54))).bind fun y130 => (if y130.length + x6.length < 5864062014805 then ((some (y130 ++ x6 : List (S54))).bind fun y133 => (if y133.length + bt126.1.length < 5864062014805 then ((some (y133 ++ bt126.1 : List (S54))).bind fun y136 => (if y136.length < 5864062014805 then (spec_l3And.l0 k x0 (y136 ++ [(⟨1, 0, 0⟩ : S54)]) bt126.2) else (none))) else (none))) else (none)))) else (some (x6, x7))) else (none)) else (some (x6, x7))) else (some (x6, x7))
def spec_l3And.f (k : Nat) (a0 : ByteArray) (a1 : Int) : Option ((List (S54)) × Int) := (spec_l3Atom.f k a0 a1).bind fun bt122 => (spec_l3And.l0 k a0 bt122.1 bt122.2)
set_option maxHeartbeats 8000000 in
set_option maxRecDepth 100000 in
theorem spec_l3And.calls (k : Nat) (a0 : ByteArray) (a1 : Int) (r1 : List (S54)) (r2 : Int) (w : World) (h : spec_l3And.f k a0 a1 = some (r1, r2)) :
  Calls Tryd.prog 40 #[.string a0, .int .i64 a1] w fun e w' => ∃ v0_ : Value, e = .returned (.tuple #[v0_, .int .i64 r2]) ∧ Kd.R k54 54 w' w.heap.size (fun _ => True) v0_ r1 ∧ Below w.heap.size w w' := by
 have hu54 := Tryd.underlying54; have HB := Aside0.mk (Below.refl w.heap.size w); have H : ((spec_l3Atom.f k a0 a1).bind fun bt122 => (spec_l3And.l0 k a0 bt122.1 bt122.2)) = some (r1, r2) := h; clear h; replace H := Option.bind_eq_some_iff.mp H; obtain ⟨⟨t122, t123⟩, A30, H⟩ := H; replace H : (spec_l3And.l0 k a0 t122 t123) = some (r1, r2) := H; have A3 := Aside0.mk A30; clear A30; have H' := Aside0.mk H; clear H
 go_enter Tryd.func40, Tryd.ntmps40
 go_wp2_with (first | ((with_reducible refine gate_callee (f := 54) rfl ?_); refine goesL_ (some 13) rfl rfl Tryd.func54 (by kernel_rfl) rfl #[.string a0, .int .i64 a1] rfl ga_ ?_; (with_reducible refine (spec_l3Atom.calls k a0 a1 t122 t123 _ A3.out).mono ?_); rintro e w4 ⟨v124, rfl, ho0, hb⟩; refine ⟨_, rfl, ?_⟩; have n0_ := Aside0.mk (Kd.R_lower ho0 (below_size (bl_ HB.out))); have n1_ := Aside0.mk (below_step (bl_ HB.out) hb); clear HB; have HO125 := n0_; have HB := n1_; clear n0_ n1_; (try clear hb); (try clear hb2); (try clear hk); (try clear hi); (try clear ho0)))
 go_loopg [6, 7] k (fun kq v6 v7 w' => ∃ (x6_1 : List (S54)) (x7_1 : Int), v7 = .int .i64 x7_1 ∧ Aside0 (spec_l3And.l0 kq a0 x6_1 x7_1 = some (r1, r2)) ∧ Aside0 (kq ≤ k) ∧ Aside0 (Kd.R k54 54 w' w.heap.size (fun _ => True) v6 x6_1) ∧ Aside0 (Below w.heap.size w w'))
 case atStart => exact ⟨(t122), (t123), si_, H', ⟨Nat.le_refl _⟩, ⟨r_ HO125.out⟩, ⟨bl_ HB.out⟩⟩
 case round =>
  clear H'; (try clear p2); (try clear c4); obtain ⟨x6_1, x7_1, rfl, HA, HK1, HO_6, HB⟩ := hrel
  cases gk with
  | zero => exact absurd HA.out (by simp [spec_l3And.l0])
  | succ k1 =>
   have H := HA.out; clear HA
   simp only [spec_l3And.l0] at H
   by_cases c5 : x7_1 ≥ 0
   ·rw [if_pos c5] at H
    have c5b0 : decide (0 ≤ x7_1) = true := decide_eq_true c5; clear c5
    by_cases c6 : x7_1 < (a0.size : Int)
    ·rw [if_pos c6] at H
     have c6b0 : decide (x7_1 < (a0.size : Int)) = true := decide_eq_true c6; clear c6
     by_cases c7 : 0 ≤ x7_1; rotate_left
     ·rw [if_neg c7] at H; exact absurd H (by simp)
     rw [if_pos c7] at H
     have c7b0 : decide (0 ≤ x7_1) = true := decide_eq_true c7; clear c7
     by_cases c9 : (bt a0 x7_1) = 38
     ·rw [if_pos c9] at H
      have c9b0 : ((bt a0 x7_1) == 38) = true := beq_iff_eq.mpr c9; have c9b1 : ((bt a0 x7_1) != 38) = false := bne_eq_false_iff_eq.mpr c9; clear c9; replace H := Option.bind_eq_some_iff.mp H; obtain ⟨⟨t126, t127⟩, A100, H⟩ := H; replace H : ((some (([] : List (S54)) : List (S54))).bind fun y130 => (if y130.length + x6_1.length < 5864062014805 then ((some (y130 ++ x6_1 : List (S54))).bind fun y133 => (if y133.length + t126.length < 5864062014805 then ((some (y133 ++ t126 : List (S54))).bind fun y136 => (if y136.length < 5864062014805 then (spec_l3And.l0 k1 a0 (y136 ++ [(⟨1, 0, 0⟩ : S54)]) t127) else (none))) else (none))) else (none))) = some (r1, r2) := H; have A10 := Aside0.mk A100; clear A100; obtain ⟨y130, hy130⟩ : ∃ y_ : List (S54), y_ = (([] : List (S54))) := ⟨_, rfl⟩
      replace H : (if y130.length + x6_1.length < 5864062014805 then ((some (y130 ++ x6_1 : List (S54))).bind fun y133 => (if y133.length + t126.length < 5864062014805 then ((some (y133 ++ t126 : List (S54))).bind fun y136 => (if y136.length < 5864062014805 then (spec_l3And.l0 k1 a0 (y136 ++ [(⟨1, 0, 0⟩ : S54)]) t127) else (none))) else (none))) else (none)) = some (r1, r2) := by first | (rw [hy130]; with_reducible exact H) | (have H2_ := (Option.bind_some _ _).symm.trans H; rw [hy130]; with_reducible exact H2_) | (have H2_ := (Option.bind_some _ _).symm.trans H; with_reducible exact H2_) | with_reducible exact H | (rw [hy130]; exact H) | exact H
      have Ny130 := Aside0.mk hy130; clear hy130
      by_cases c11 : y130.length + x6_1.length < 5864062014805; rotate_left
      ·rw [if_neg c11] at H; exact absurd H (by simp)
      rw [if_pos c11] at H
      have LMc11 := Aside0.mk c11; clear c11; obtain ⟨y133, hy133⟩ : ∃ y_ : List (S54), y_ = (y130 ++ x6_1) := ⟨_, rfl⟩
      rw [← hy133] at H; (try with_reducible replace H := hb_ H); (try dsimp only at H)
      have Ny133 := Aside0.mk hy133; clear hy133
      by_cases c12 : y133.length + t126.length < 5864062014805; rotate_left
      ·rw [if_neg c12] at H; exact absurd H (by simp)
      rw [if_pos c12] at H
      have LMc12 := Aside0.mk c12; clear c12; obtain ⟨y136, hy136⟩ : ∃ y_ : List (S54), y_ = (y133 ++ t126) := ⟨_, rfl⟩
      rw [← hy136] at H; (try with_reducible replace H := hb_ H); (try dsimp only at H)
      have Ny136 := Aside0.mk hy136; clear hy136
      by_cases c13 : y136.length < 5864062014805; rotate_left
      ·rw [if_neg c13] at H; exact absurd H (by simp)
      rw [if_pos c13] at H
      have LMc13 := Aside0.mk c13; clear c13; obtain ⟨y139, hy139⟩ : ∃ y_ : List (S54), y_ = (y136 ++ [(⟨1, 0, 0⟩ : S54)]) := ⟨_, rfl⟩
      rw [← hy139] at H; (try with_reducible replace H := hb_ H); (try dsimp only at H)
      have Ny139 := Aside0.mk hy139; clear hy139; have H' := Aside0.mk H; clear H; have p8 : 0 ≤ (x7_1 : Int) := of_decide_eq_true as_; have q8 : x7_1 < (a0.size : Int) := of_decide_eq_true as_; have hx8 := bt_at a0 x7_1; replace p8 := eq_true p8; replace q8 := eq_true q8
      go_wp2_with (first | ((with_reducible refine gate_callee (f := 54) rfl ?_); refine goesL_ (some 34) rfl rfl Tryd.func54 (by kernel_rfl) rfl #[.string a0, .int .i64 (wrap64 (x7_1 + 1))] rfl ga_ ?_; (with_reducible refine (spec_l3Atom.calls k1 a0 (wrap64 (x7_1 + 1)) t126 t127 _ A10.out).mono ?_); rintro e w14 ⟨v128, rfl, ho0, hb⟩; refine ⟨_, rfl, ?_⟩; have n0_ := Aside0.mk (Kd.R_elder' (r_ HO_6.out) (Kd.R_base ho0) hb); have n1_ := Aside0.mk (Kd.R_lower (Kd.R_new' ho0 (Kd.R_lt (r_ HO_6.out))) (below_size (bl_ HB.out))); have n2_ := Aside0.mk (below_step (bl_ HB.out) hb); clear HO_6; clear HB; have HO_6 := n0_; have HO129 := n1_; have HB := n2_; clear n0_ n1_ n2_; (try clear hb); (try clear hb2); (try clear hk); (try clear hi); (try clear ho0)) | ((with_reducible refine gate_dst (N := 37) rfl ?_); (try (refine gate_guard (by rfl) ?_; dsimp only)); refine Kd.R_lit k54 _ 54 ?hg (N := 37) ?hd (xs := ([] : List (S54))) (inner := []) (ok := fun _ => True) (okp := fun _ => True) ?hr ?hp (fun _ hk => hk) trivial (Below.refl _ _) (Nat.le_refl _) (by simp) ?_; (case hd => rfl); (case hg => rfl); (case hr => first | (go_simp; done) | (go_simp; rfl)); (case hp => exact (Reps.none _ _)); intro v131 w15 ho16 hb hg_ hnew_; clear hg_ hnew_; (first | rw [← Ny130.out] at ho16 | (simp only [Int.reduceToNat] at ho16; rw [← Ny130.out] at ho16)); have n0_ := Aside0.mk (Kd.R_elder' (r_ HO_6.out) (Kd.R_base ho16) hb); have n1_ := Aside0.mk (Kd.R_elder' (r_ HO129.out) (Kd.R_base ho16) hb); have n2_ := Aside0.mk (Kd.R_lower (Kd.R_new' (Kd.R_new' ho16 (Kd.R_lt (r_ HO_6.out))) (Kd.R_lt (r_ HO129.out))) (below_size (bl_ HB.out))); have n3_ := Aside0.mk (below_step (bl_ HB.out) hb); clear HO_6; clear HO129; clear HB; have HO_6 := n0_; have HO129 := n1_; have HO132 := n2_; have HB := n3_; clear n0_ n1_ n2_ n3_; clear hb ho16; obtain ⟨Ao18, co18, eo18⟩ := Kd.R_slice HO_6.out; subst eo18) | ((with_reducible refine gate_builtin (b := .append) (xs := #[.tmp 37, .tmp 38]) rfl ?_); (try (refine gate_guard (by rfl) ?_; dsimp only)); at_builtin; refine Kd.R_append_rows k54 (w0 := w) w.heap.size rfl (.tmp 37) (.tmp 38) 28 54 (.agg #[(.int .i64 0), (.int .i64 0), (.int .i64 0)]) 24 rfl Tryd.underlying28 info54 rfl (by decide) (by omega) v131 y130 x6_1 _ _ _ (fun k_ => some k_ ≠ (.slice Ao18 x6_1.length co18 : Value).ownBlock ∧ some k_ ≠ (v128 : Value).ownBlock) (fun _ => False) rfl rfl ?aO ?aR (fun _ _ h => h) (fun _ h => h.elim) ?aF ?aB ?aS ?aL ?_; (case aR => repeat (first | exact (Kd.R_reads' HO_6.out).2.2 | (with_reducible refine Kd.C_alloc ?_ _) | (with_reducible refine Kd.C_drewN ?_ _) | (with_reducible refine Kd.C_drew ?_))); (case aB => exact (bl_ HB.out)); (case aF => exact (fun k_ hk => ⟨Kd.fresh' (Kd.R_lt (r_ HO_6.out)) k_ hk, Kd.fresh' (Kd.R_lt (r_ HO129.out)) k_ hk⟩)); (case aO => exact (by (with_reducible repeat (first | apply Kd.R_alloc | apply Kd.R_drewN | apply Kd.R_drew)); exact Kd.R_mono HO132.out (fun _ hk => ⟨hk.1.2, hk.2⟩))); (case aS => exact (below_size (bl_ HB.out))); (case aL => have := LMc11.out; omega); intro v134 w17 ho hb hg hat; rw [← Ny133.out] at ho; have n0_ := Aside0.mk (Kd.R_after (ok := (fun k_ => some k_ ≠ (v128 : Value).ownBlock)) (by (with_reducible repeat (first | apply Kd.R_alloc | apply Kd.R_drewN | apply Kd.R_drew)); exact Kd.R_mono HO_6.out (fun _ hk => ⟨hk.1.2, hk.2⟩)) hg hat); have n1_ := Aside0.mk (Kd.R_after (ok := (fun k_ => some k_ ≠ (.slice Ao18 x6_1.length co18 : Value).ownBlock)) (by (with_reducible repeat (first | apply Kd.R_alloc | apply Kd.R_drewN | apply Kd.R_drew)); exact Kd.R_mono HO129.out (fun _ hk => ⟨hk.1.2, hk.2⟩)) hg hat); have n2_ := Aside0.mk (hb); have n3_ := Aside0.mk (ho); clear HO_6; clear HO129; clear HB; clear HO132; have HO_6 := n0_; have HO129 := n1_; have HB := n2_; have HO135 := n3_; clear n0_ n1_ n2_ n3_; clear ho hb hg hat; obtain ⟨Ao20, co20, eo20⟩ := Kd.R_slice HO129.out; subst eo20) | ((with_reducible refine gate_builtin (b := .append) (xs := #[.tmp 39, .tmp 40]) rfl ?_); (try (refine gate_guard (by rfl) ?_; dsimp only)); at_builtin; refine Kd.R_append_rows k54 (w0 := w) w.heap.size rfl (.tmp 39) (.tmp 40) 28 54 (.agg #[(.int .i64 0), (.int .i64 0), (.int .i64 0)]) 24 rfl Tryd.underlying28 info54 rfl (by decide) (by omega) v134 y133 t126 _ _ _ (fun k_ => some k_ ≠ (.slice Ao18 x6_1.length co18 : Value).ownBlock ∧ some k_ ≠ (.slice Ao20 t126.length co20 : Value).ownBlock) (fun _ => False) rfl rfl ?aO ?aR (fun _ _ h => h) (fun _ h => h.elim) ?aF ?aB ?aS ?aL ?_; (case aR => repeat (first | exact (Kd.R_reads' HO129.out).2.2 | (with_reducible refine Kd.C_alloc ?_ _) | (with_reducible refine Kd.C_drewN ?_ _) | (with_reducible refine Kd.C_drew ?_))); (case aB => exact (bl_ HB.out)); (case aF => exact (fun k_ hk => ⟨Kd.fresh' (Kd.R_lt (r_ HO_6.out)) k_ hk, Kd.fresh' (Kd.R_lt (r_ HO129.out)) k_ hk⟩)); (case aO => exact (r_ HO135.out)); (case aS => exact (below_size (bl_ HB.out))); (case aL => have := LMc12.out; omega); intro v137 w19 ho hb hg hat; rw [← Ny136.out] at ho; have n0_ := Aside0.mk (Kd.R_after (ok := (fun k_ => some k_ ≠ (.slice Ao20 t126.length co20 : Value).ownBlock)) (r_ HO_6.out) hg hat); have n1_ := Aside0.mk (Kd.R_after (ok := (fun k_ => some k_ ≠ (.slice Ao18 x6_1.length co18 : Value).ownBlock)) (r_ HO129.out) hg hat); have n2_ := Aside0.mk (hb); have n3_ := Aside0.mk (ho); clear HO_6; clear HO129; clear HB; clear HO135; have HO_6 := n0_; have HO129 := n1_; have HB := n2_; have HO138 := n3_; clear n0_ n1_ n2_ n3_; clear ho hb hg hat) | ((with_reducible refine gate_builtin (b := .append) (xs := #[.tmp 41, .tmp 43]) rfl ?_); (try (refine gate_guard (by rfl) ?_; dsimp only)); at_builtin; refine Kd.R_append k54 (w0 := w) w.heap.size rfl (.tmp 41) (.tmp 43) 28 54 (.agg #[(.int .i64 0), (.int .i64 0), (.int .i64 0)]) 24 rfl Tryd.underlying28 info54 rfl (by decide) (by omega) v137 y136 (⟨1, 0, 0⟩ : S54) [.int .i64 1, .int .i64 0, .int .i64 0] (fun k_ => some k_ ≠ (.slice Ao18 x6_1.length co18 : Value).ownBlock ∧ some k_ ≠ (.slice Ao20 t126.length co20 : Value).ownBlock) (fun _ => False) rfl rfl ?aP (fun _ hk => hk.elim) ?aF ?aO ?aB ?aS ?aL ?_; (case aP => exact k54_mkM _ _ _ (⟨1, 0, 0⟩ : S54)); (case aB => exact (bl_ HB.out)); (case aF => exact (fun k_ hk => ⟨Kd.fresh' (Kd.R_lt (r_ HO_6.out)) k_ hk, Kd.fresh' (Kd.R_lt (r_ HO129.out)) k_ hk⟩)); (case aO => exact (r_ HO138.out)); (case aS => exact (below_size (bl_ HB.out))); (case aL => have := LMc13.out; omega); intro v140 w21 ho hb hg hat; rw [← Ny139.out] at ho; have n0_ := Aside0.mk (Kd.R_after (ok := (fun k_ => some k_ ≠ (.slice Ao20 t126.length co20 : Value).ownBlock)) (r_ HO_6.out) hg hat); have n1_ := Aside0.mk (Kd.R_after (ok := (fun k_ => some k_ ≠ (.slice Ao18 x6_1.length co18 : Value).ownBlock)) (r_ HO129.out) hg hat); have n2_ := Aside0.mk (hb); have n3_ := Aside0.mk (ho); clear HO_6; clear HO129; clear HB; clear HO138; have HO_6 := n0_; have HO129 := n1_; have HB := n2_; have HO141 := n3_; clear n0_ n1_ n2_ n3_; clear ho hb hg hat))
      go_roundg k1
      case measure => have := HK1.out; omega
      case rel => exact ⟨(y139), (t127), si_, H', ⟨by have := HK1.out; omega⟩, ⟨by (with_reducible repeat (first | apply Kd.R_alloc | apply Kd.R_drewN | apply Kd.R_drew)); exact Kd.R_mono HO141.out (fun _ hk => trivial)⟩, ⟨bl_ HB.out⟩⟩
     ·rw [if_neg c9] at H
      have c9b0 : ((bt a0 x7_1) == 38) = false := beq_eq_false_iff_ne.mpr c9; have c9b1 : ((bt a0 x7_1) != 38) = true := bne_iff_ne.mpr c9
      simp only [Option.some.injEq, Prod.mk.injEq] at H
      obtain ⟨rfl, rfl⟩ := H; have p8 : 0 ≤ (x7_1 : Int) := of_decide_eq_true as_; have q8 : x7_1 < (a0.size : Int) := of_decide_eq_true as_; have hx8 := bt_at a0 x7_1; replace p8 := eq_true p8; replace q8 := eq_true q8
      go_wp2
      go_ret2
      exact ⟨_, by first | rfl | (simp [errW_none, errW_some] <;> rfl) | (simp [*, errW_none, errW_some] <;> rfl), r_ HO_6.out, bl_ HB.out⟩
    ·rw [if_neg c6] at H
     have c6b0 : decide (x7_1 < (a0.size : Int)) = false := decide_eq_false c6; clear c6
     simp only [Option.some.injEq, Prod.mk.injEq] at H
     obtain ⟨rfl, rfl⟩ := H
     go_wp2
     go_ret2
     exact ⟨_, by first | rfl | (simp [errW_none, errW_some] <;> rfl) | (simp [*, errW_none, errW_some] <;> rfl), r_ HO_6.out, bl_ HB.out⟩
   ·rw [if_neg c5] at H
    have c5b0 : decide (0 ≤ x7_1) = false := decide_eq_false c5; clear c5
    simp only [Option.some.injEq, Prod.mk.injEq] at H
    obtain ⟨rfl, rfl⟩ := H
    go_wp2
    go_ret2
    exact ⟨_, by first | rfl | (simp [errW_none, errW_some] <;> rfl) | (simp [*, errW_none, errW_some] <;> rfl), r_ HO_6.out, bl_ HB.out⟩

/-! ### spec_l3OrG: function 26 -/
def spec_l3OrG.l0 : Nat → ByteArray → List (S54) → Int → Option ((List (S54)) × Int)
 | 0, _, _, _ => none
 | k + 1, x0, x6, x7 => if x7 ≥ 0 then (if x7 < (x0.size : Int) then (if 0 ≤ x7 then (if (bt x0 x7) = 124 then ((spec_l3And.f k x0 (wrap64 (x7 + 1))).bind fun bt146 => ((some (([] : List (S54)) : List (S54))).bind fun y150 => (if y150.length + x6.length < 5864062014805 then ((some (y150 ++ x6 : List (S54))).bind fun y153 => (if y153.length + bt146.1.length < 5864062014805 then ((some (y153 ++ bt146.1 : List (S54))).bind fun y156 => (if y156.length < 5864062014805 then (spec_l3OrG.l0 k x0 (y156 ++ [(⟨2, 0, 0⟩ : S54)]) bt146.2) else (none))) else (none))) else (none)))) else (some (x6, x7))) else (none)) else (some (x6, x7))) else (some (x6, x7))
def spec_l3OrG.f (k : Nat) (a0 : ByteArray) (a1 : Int) : Option ((List (S54)) × Int) := (spec_l3And.f k a0 a1).bind fun bt142 => (spec_l3OrG.l0 k a0 bt142.1 bt142.2)
set_option maxHeartbeats 8000000 in
set_option maxRecDepth 100000 in
theorem spec_l3OrG.calls (k : Nat) (a0 : ByteArray) (a1 : Int) (r1 : List (S54)) (r2 : Int) (w : World) (h : spec_l3OrG.f k a0 a1 = some (r1, r2)) :
  Calls Tryd.prog 26 #[.string a0, .int .i64 a1] w fun e w' => ∃ v0_ : Value, e = .returned (.tuple #[v0_, .int .i64 r2]) ∧ Kd.R k54 54 w' w.heap.size (fun _ => True) v0_ r1 ∧ Below w.heap.size w w' := by
 have hu54 := Tryd.underlying54; have HB := Aside0.mk (Below.refl w.heap.size w); have H : ((spec_l3And.f k a0 a1).bind fun bt142 => (spec_l3OrG.l0 k a0 bt142.1 bt142.2)) = some (r1, r2) := h; clear h; replace H := Option.bind_eq_some_iff.mp H; obtain ⟨⟨t142, t143⟩, A30, H⟩ := H; replace H : (spec_l3OrG.l0 k a0 t142 t143) = some (r1, r2) := H; have A3 := Aside0.mk A30; clear A30; have H' := Aside0.mk H; clear H
 go_enter Tryd.func26, Tryd.ntmps26
 go_wp2_with (first | ((with_reducible refine gate_callee (f := 40) rfl ?_); refine goesL_ (some 13) rfl rfl Tryd.func40 (by kernel_rfl) rfl #[.string a0, .int .i64 a1] rfl ga_ ?_; (with_reducible refine (spec_l3And.calls k a0 a1 t142 t143 _ A3.out).mono ?_); rintro e w4 ⟨v144, rfl, ho0, hb⟩; refine ⟨_, rfl, ?_⟩; have n0_ := Aside0.mk (Kd.R_lower ho0 (below_size (bl_ HB.out))); have n1_ := Aside0.mk (below_step (bl_ HB.out) hb); clear HB; have HO145 := n0_; have HB := n1_; clear n0_ n1_; (try clear hb); (try clear hb2); (try clear hk); (try clear hi); (try clear ho0)))
 go_loopg [6, 7] k (fun kq v6 v7 w' => ∃ (x6_1 : List (S54)) (x7_1 : Int), v7 = .int .i64 x7_1 ∧ Aside0 (spec_l3OrG.l0 kq a0 x6_1 x7_1 = some (r1, r2)) ∧ Aside0 (kq ≤ k) ∧ Aside0 (Kd.R k54 54 w' w.heap.size (fun _ => True) v6 x6_1) ∧ Aside0 (Below w.heap.size w w'))
 case atStart => exact ⟨(t142), (t143), si_, H', ⟨Nat.le_refl _⟩, ⟨r_ HO145.out⟩, ⟨bl_ HB.out⟩⟩
 case round =>
  clear H'; (try clear c2); (try clear p2); (try clear c4); obtain ⟨x6_1, x7_1, rfl, HA, HK1, HO_6, HB⟩ := hrel
  cases gk with
  | zero => exact absurd HA.out (by simp [spec_l3OrG.l0])
  | succ k1 =>
   have H := HA.out; clear HA
   simp only [spec_l3OrG.l0] at H
   by_cases c5 : x7_1 ≥ 0
   ·rw [if_pos c5] at H
    have c5b0 : decide (0 ≤ x7_1) = true := decide_eq_true c5; clear c5
    by_cases c6 : x7_1 < (a0.size : Int)
    ·rw [if_pos c6] at H
     have c6b0 : decide (x7_1 < (a0.size : Int)) = true := decide_eq_true c6; clear c6
     by_cases c7 : 0 ≤ x7_1; rotate_left
     ·rw [if_neg c7] at H; exact absurd H (by simp)
     rw [if_pos c7] at H
     have c7b0 : decide (0 ≤ x7_1) = true := decide_eq_true c7; clear c7
     by_cases c9 : (bt a0 x7_1) = 124
     ·rw [if_pos c9] at H
      have c9b0 : ((bt a0 x7_1) == 124) = true := beq_iff_eq.mpr c9; have c9b1 : ((bt a0 x7_1) != 124) = false := bne_eq_false_iff_eq.mpr c9; clear c9; replace H := Option.bind_eq_some_iff.mp H; obtain ⟨⟨t146, t147⟩, A100, H⟩ := H; replace H : ((some (([] : List (S54)) : List (S54))).bind fun y150 => (if y150.length + x6_1.length < 5864062014805 then ((some (y150 ++ x6_1 : List (S54))).bind fun y153 => (if y153.length + t146.length < 5864062014805 then ((some (y153 ++ t146 : List (S54))).bind fun y156 => (if y156.length < 5864062014805 then (spec_l3OrG.l0 k1 a0 (y156 ++ [(⟨2, 0, 0⟩ : S54)]) t147) else (none))) else (none))) else (none))) = some (r1, r2) := H; have A10 := Aside0.mk A100; clear A100; obtain ⟨y150, hy150⟩ : ∃ y_ : List (S54), y_ = (([] : List (S54))) := ⟨_, rfl⟩
      replace H : (if y150.length + x6_1.length < 5864062014805 then ((some (y150 ++ x6_1 : List (S54))).bind fun y153 => (if y153.length + t146.length < 5864062014805 then ((some (y153 ++ t146 : List (S54))).bind fun y156 => (if y156.length < 5864062014805 then (spec_l3OrG.l0 k1 a0 (y156 ++ [(⟨2, 0, 0⟩ : S54)]) t147) else (none))) else (none))) else (none)) = some (r1, r2) := by first | (rw [hy150]; with_reducible exact H) | (have H2_ := (Option.bind_some _ _).symm.trans H; rw [hy150]; with_reducible exact H2_) | (have H2_ := (Option.bind_some _ _).symm.trans H; with_reducible exact H2_) | with_reducible exact H | (rw [hy150]; exact H) | exact H
      have Ny150 := Aside0.mk hy150; clear hy150
      by_cases c11 : y150.length + x6_1.length < 5864062014805; rotate_left
      ·rw [if_neg c11] at H; exact absurd H (by simp)
      rw [if_pos c11] at H
      have LMc11 := Aside0.mk c11; clear c11; obtain ⟨y153, hy153⟩ : ∃ y_ : List (S54), y_ = (y150 ++ x6_1) := ⟨_, rfl⟩
      rw [← hy153] at H; (try with_reducible replace H := hb_ H); (try dsimp only at H)
      have Ny153 := Aside0.mk hy153; clear hy153
      by_cases c12 : y153.length + t146.length < 5864062014805; rotate_left
      ·rw [if_neg c12] at H; exact absurd H (by simp)
      rw [if_pos c12] at H
      have LMc12 := Aside0.mk c12; clear c12; obtain ⟨y156, hy156⟩ : ∃ y_ : List (S54), y_ = (y153 ++ t146) := ⟨_, rfl⟩
      rw [← hy156] at H; (try with_reducible replace H := hb_ H); (try dsimp only at H)
      have Ny156 := Aside0.mk hy156; clear hy156
      by_cases c13 : y156.length < 5864062014805; rotate_left
      ·rw [if_neg c13] at H; exact absurd H (by simp)
      rw [if_pos c13] at H
      have LMc13 := Aside0.mk c13; clear c13; obtain ⟨y159, hy159⟩ : ∃ y_ : List (S54), y_ = (y156 ++ [(⟨2, 0, 0⟩ : S54)]) := ⟨_, rfl⟩
      rw [← hy159] at H; (try with_reducible replace H := hb_ H); (try dsimp only at H)
      have Ny159 := Aside0.mk hy159; clear hy159; have H' := Aside0.mk H; clear H; have p8 : 0 ≤ (x7_1 : Int) := of_decide_eq_true as_; have q8 : x7_1 < (a0.size : Int) := of_decide_eq_true as_; have hx8 := bt_at a0 x7_1; replace p8 := eq_true p8; replace q8 := eq_true q8
      go_wp2_with (first | ((with_reducible refine gate_callee (f := 40) rfl ?_); refine goesL_ (some 34) rfl rfl Tryd.func40 (by kernel_rfl) rfl #[.string a0, .int .i64 (wrap64 (x7_1 + 1))] rfl ga_ ?_; (with_reducible refine (spec_l3And.calls k1 a0 (wrap64 (x7_1 + 1)) t146 t147 _ A10.out).mono ?_); rintro e w14 ⟨v148, rfl, ho0, hb⟩; refine ⟨_, rfl, ?_⟩; have n0_ := Aside0.mk (Kd.R_elder' (r_ HO_6.out) (Kd.R_base ho0) hb); have n1_ := Aside0.mk (Kd.R_lower (Kd.R_new' ho0 (Kd.R_lt (r_ HO_6.out))) (below_size (bl_ HB.out))); have n2_ := Aside0.mk (below_step (bl_ HB.out) hb); clear HO_6; clear HB; have HO_6 := n0_; have HO149 := n1_; have HB := n2_; clear n0_ n1_ n2_; (try clear hb); (try clear hb2); (try clear hk); (try clear hi); (try clear ho0)) | ((with_reducible refine gate_dst (N := 37) rfl ?_); (try (refine gate_guard (by rfl) ?_; dsimp only)); refine Kd.R_lit k54 _ 54 ?hg (N := 37) ?hd (xs := ([] : List (S54))) (inner := []) (ok := fun _ => True) (okp := fun _ => True) ?hr ?hp (fun _ hk => hk) trivial (Below.refl _ _) (Nat.le_refl _) (by simp) ?_; (case hd => rfl); (case hg => rfl); (case hr => first | (go_simp; done) | (go_simp; rfl)); (case hp => exact (Reps.none _ _)); intro v151 w15 ho16 hb hg_ hnew_; clear hg_ hnew_; (first | rw [← Ny150.out] at ho16 | (simp only [Int.reduceToNat] at ho16; rw [← Ny150.out] at ho16)); have n0_ := Aside0.mk (Kd.R_elder' (r_ HO_6.out) (Kd.R_base ho16) hb); have n1_ := Aside0.mk (Kd.R_elder' (r_ HO149.out) (Kd.R_base ho16) hb); have n2_ := Aside0.mk (Kd.R_lower (Kd.R_new' (Kd.R_new' ho16 (Kd.R_lt (r_ HO_6.out))) (Kd.R_lt (r_ HO149.out))) (below_size (bl_ HB.out))); have n3_ := Aside0.mk (below_step (bl_ HB.out) hb); clear HO_6; clear HO149; clear HB; have HO_6 := n0_; have HO149 := n1_; have HO152 := n2_; have HB := n3_; clear n0_ n1_ n2_ n3_; clear hb ho16; obtain ⟨Ao18, co18, eo18⟩ := Kd.R_slice HO_6.out; subst eo18) | ((with_reducible refine gate_builtin (b := .append) (xs := #[.tmp 37, .tmp 38]) rfl ?_); (try (refine gate_guard (by rfl) ?_; dsimp only)); at_builtin; refine Kd.R_append_rows k54 (w0 := w) w.heap.size rfl (.tmp 37) (.tmp 38) 28 54 (.agg #[(.int .i64 0), (.int .i64 0), (.int .i64 0)]) 24 rfl Tryd.underlying28 info54 rfl (by decide) (by omega) v151 y150 x6_1 _ _ _ (fun k_ => some k_ ≠ (.slice Ao18 x6_1.length co18 : Value).ownBlock ∧ some k_ ≠ (v148 : Value).ownBlock) (fun _ => False) rfl rfl ?aO ?aR (fun _ _ h => h) (fun _ h => h.elim) ?aF ?aB ?aS ?aL ?_; (case aR => repeat (first | exact (Kd.R_reads' HO_6.out).2.2 | (with_reducible refine Kd.C_alloc ?_ _) | (with_reducible refine Kd.C_drewN ?_ _) | (with_reducible refine Kd.C_drew ?_))); (case aB => exact (bl_ HB.out)); (case aF => exact (fun k_ hk => ⟨Kd.fresh' (Kd.R_lt (r_ HO_6.out)) k_ hk, Kd.fresh' (Kd.R_lt (r_ HO149.out)) k_ hk⟩)); (case aO => exact (by (with_reducible repeat (first | apply Kd.R_alloc | apply Kd.R_drewN | apply Kd.R_drew)); exact Kd.R_mono HO152.out (fun _ hk => ⟨hk.1.2, hk.2⟩))); (case aS => exact (below_size (bl_ HB.out))); (case aL => have := LMc11.out; omega); intro v154 w17 ho hb hg hat; rw [← Ny153.out] at ho; have n0_ := Aside0.mk (Kd.R_after (ok := (fun k_ => some k_ ≠ (v148 : Value).ownBlock)) (by (with_reducible repeat (first | apply Kd.R_alloc | apply Kd.R_drewN | apply Kd.R_drew)); exact Kd.R_mono HO_6.out (fun _ hk => ⟨hk.1.2, hk.2⟩)) hg hat); have n1_ := Aside0.mk (Kd.R_after (ok := (fun k_ => some k_ ≠ (.slice Ao18 x6_1.length co18 : Value).ownBlock)) (by (with_reducible repeat (first | apply Kd.R_alloc | apply Kd.R_drewN | apply Kd.R_drew)); exact Kd.R_mono HO149.out (fun _ hk => ⟨hk.1.2, hk.2⟩)) hg hat); have n2_ := Aside0.mk (hb); have n3_ := Aside0.mk (ho); clear HO_6; clear HO149; clear HB; clear HO152; have HO_6 := n0_; have HO149 := n1_; have HB := n2_; have HO155 := n3_; clear n0_ n1_ n2_ n3_; clear ho hb hg hat; obtain ⟨Ao20, co20, eo20⟩ := Kd.R_slice HO149.out; subst eo20) | ((with_reducible refine gate_builtin (b := .append) (xs := #[.tmp 39, .tmp 40]) rfl ?_); (try (refine gate_guard (by rfl) ?_; dsimp only)); at_builtin; refine Kd.R_append_rows k54 (w0 := w) w.heap.size rfl (.tmp 39) (.tmp 40) 28 54 (.agg #[(.int .i64 0), (.int .i64 0), (.int .i64 0)]) 24 rfl Tryd.underlying28 info54 rfl (by decide) (by omega) v154 y153 t146 _ _ _ (fun k_ => some k_ ≠ (.slice Ao18 x6_1.length co18 : Value).ownBlock ∧ some k_ ≠ (.slice Ao20 t146.length co20 : Value).ownBlock) (fun _ => False) rfl rfl ?aO ?aR (fun _ _ h => h) (fun _ h => h.elim) ?aF ?aB ?aS ?aL ?_; (case aR => repeat (first | exact (Kd.R_reads' HO149.out).2.2 | (with_reducible refine Kd.C_alloc ?_ _) | (with_reducible refine Kd.C_drewN ?_ _) | (with_reducible refine Kd.C_drew ?_))); (case aB => exact (bl_ HB.out)); (case aF => exact (fun k_ hk => ⟨Kd.fresh' (Kd.R_lt (r_ HO_6.out)) k_ hk, Kd.fresh' (Kd.R_lt (r_ HO149.out)) k_ hk⟩)); (case aO => exact (r_ HO155.out)); (case aS => exact (below_size (bl_ HB.out))); (case aL => have := LMc12.out; omega); intro v157 w19 ho hb hg hat; rw [← Ny156.out] at ho; have n0_ := Aside0.mk (Kd.R_after (ok := (fun k_ => some k_ ≠ (.slice Ao20 t146.length co20 : Value).ownBlock)) (r_ HO_6.out) hg hat); have n1_ := Aside0.mk (Kd.R_after (ok := (fun k_ => some k_ ≠ (.slice Ao18 x6_1.length co18 : Value).ownBlock)) (r_ HO149.out) hg hat); have n2_ := Aside0.mk (hb); have n3_ := Aside0.mk (ho); clear HO_6; clear HO149; clear HB; clear HO155; have HO_6 := n0_; have HO149 := n1_; have HB := n2_; have HO158 := n3_; clear n0_ n1_ n2_ n3_; clear ho hb hg hat) | ((with_reducible refine gate_builtin (b := .append) (xs := #[.tmp 41, .tmp 43]) rfl ?_); (try (refine gate_guard (by rfl) ?_; dsimp only)); at_builtin; refine Kd.R_append k54 (w0 := w) w.heap.size rfl (.tmp 41) (.tmp 43) 28 54 (.agg #[(.int .i64 0), (.int .i64 0), (.int .i64 0)]) 24 rfl Tryd.underlying28 info54 rfl (by decide) (by omega) v157 y156 (⟨2, 0, 0⟩ : S54) [.int .i64 2, .int .i64 0, .int .i64 0] (fun k_ => some k_ ≠ (.slice Ao18 x6_1.length co18 : Value).ownBlock ∧ some k_ ≠ (.slice Ao20 t146.length co20 : Value).ownBlock) (fun _ => False) rfl rfl ?aP (fun _ hk => hk.elim) ?aF ?aO ?aB ?aS ?aL ?_; (case aP => exact k54_mkM _ _ _ (⟨2, 0, 0⟩ : S54)); (case aB => exact (bl_ HB.out)); (case aF => exact (fun k_ hk => ⟨Kd.fresh' (Kd.R_lt (r_ HO_6.out)) k_ hk, Kd.fresh' (Kd.R_lt (r_ HO149.out)) k_ hk⟩)); (case aO => exact (r_ HO158.out)); (case aS => exact (below_size (bl_ HB.out))); (case aL => have := LMc13.out; omega); intro v160 w21 ho hb hg hat; rw [← Ny159.out] at ho; have n0_ := Aside0.mk (Kd.R_after (ok := (fun k_ => some k_ ≠ (.slice Ao20 t146.length co20 : Value).ownBlock)) (r_ HO_6.out) hg hat); have n1_ := Aside0.mk (Kd.R_after (ok := (fun k_ => some k_ ≠ (.slice Ao18 x6_1.length co18 : Value).ownBlock)) (r_ HO149.out) hg hat); have n2_ := Aside0.mk (hb); have n3_ := Aside0.mk (ho); clear HO_6; clear HO149; clear HB; clear HO158; have HO_6 := n0_; have HO149 := n1_; have HB := n2_; have HO161 := n3_; clear n0_ n1_ n2_ n3_; clear ho hb hg hat))
      go_roundg k1
      case measure => have := HK1.out; omega
      case rel => exact ⟨(y159), (t147), si_, H', ⟨by have := HK1.out; omega⟩, ⟨by (with_reducible repeat (first | apply Kd.R_alloc | apply Kd.R_drewN | apply Kd.R_drew)); exact Kd.R_mono HO161.out (fun _ hk => trivial)⟩, ⟨bl_ HB.out⟩⟩
     ·rw [if_neg c9] at H
      have c9b0 : ((bt a0 x7_1) == 124) = false := beq_eq_false_iff_ne.mpr c9; have c9b1 : ((bt a0 x7_1) != 124) = true := bne_iff_ne.mpr c9
      simp only [Option.some.injEq, Prod.mk.injEq] at H
      obtain ⟨rfl, rfl⟩ := H; have p8 : 0 ≤ (x7_1 : Int) := of_decide_eq_true as_; have q8 : x7_1 < (a0.size : Int) := of_decide_eq_true as_; have hx8 := bt_at a0 x7_1; replace p8 := eq_true p8; replace q8 := eq_true q8
      go_wp2
      go_ret2
      exact ⟨_, by first | rfl | (simp [errW_none, errW_some] <;> rfl) | (simp [*, errW_none, errW_some] <;> rfl), r_ HO_6.out, bl_ HB.out⟩
    ·rw [if_neg c6] at H
     have c6b0 : decide (x7_1 < (a0.size : Int)) = false := decide_eq_false c6; clear c6
     simp only [Option.some.injEq, Prod.mk.injEq] at H
     obtain ⟨rfl, rfl⟩ := H
     go_wp2
     go_ret2
     exact ⟨_, by first | rfl | (simp [errW_none, errW_some] <;> rfl) | (simp [*, errW_none, errW_some] <;> rfl), r_ HO_6.out, bl_ HB.out⟩
   ·rw [if_neg c5] at H
    have c5b0 : decide (0 ≤ x7_1) = false := decide_eq_false c5; clear c5
    simp only [Option.some.injEq, Prod.mk.injEq] at H
    obtain ⟨rfl, rfl⟩ := H
    go_wp2
    go_ret2
    exact ⟨_, by first | rfl | (simp [errW_none, errW_some] <;> rfl) | (simp [*, errW_none, errW_some] <;> rfl), r_ HO_6.out, bl_ HB.out⟩

end

set_option warn.classDefReducibility false in
/-- The readers, one within the other, so deep. -/
def ror : Nat → Ror
 | 0 => ⟨fun _ _ => none, fun _ _ _ _ _ h => by cases h⟩
 | n + 1 => ⟨@spec_l3OrG.f (ror n) 200, fun a0 a1 r1 r2 w h => @spec_l3OrG.calls (ror n) 200 a0 a1 r1 r2 w h⟩
/-! ### spec_l3Or: function 26 -/
def spec_l3Or.f (_k : Nat) (a0 : ByteArray) (a1 : Int) : Option ((List (S54)) × Int) := (ror 90).f a0 a1
theorem spec_l3Or.calls (k : Nat) (a0 : ByteArray) (a1 : Int) (r1 : List (S54)) (r2 : Int) (w : World) (h : spec_l3Or.f k a0 a1 = some (r1, r2)) :
  Calls Tryd.prog 26 #[.string a0, .int .i64 a1] w fun e w' => ∃ v0_ : Value, e = .returned (.tuple #[v0_, .int .i64 r2]) ∧ Kd.R k54 54 w' w.heap.size (fun _ => True) v0_ r1 ∧ Below w.heap.size w w' := (ror 90).calls a0 a1 r1 r2 w h


end Go.Proofs.YtoifikhcnioagaaDoor.PFnReadTerm
