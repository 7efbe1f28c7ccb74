/- Walks of the functions that this law reaches, one by one, written by a program. No condition. -/
import Derived.Test.YtoifikhcnioagaaDoorPFnReadTermx0
import Derived.Test.YtoifikhcnioagaaDoorPFnReadTermx10
import Derived.Test.YtoifikhcnioagaaDoorPFnReadTermx12
import Derived.Test.YtoifikhcnioagaaDoorPFnReadTermx95
import Derived.Test.YtoifikhcnioagaaDoorPFnReadTermx92
namespace Go.Proofs.YtoifikhcnioagaaDoor.PFnReadTerm
open Go.RowKit Go.Proofs.YtoifikhcnioagaaDoorW.PrintWords Go.Proofs.YtoifikhcnioagaaDoorW.PrintLast Go.Proofs.YtoifikhcnioagaaDoorW.PrintMore
attribute [local go_sem] max2_int min2_int max_two min_two max_three min_three max_four min_four   -- for this text's walks alone
set_option linter.unusedVariables false
set_option linter.unusedSimpArgs false

section
variable [Rdr]
/-! ### impl_termReader_joinedB: function 52 -/
mutual
def impl_termReader_joinedB.l0 : Nat → Int → Int → List (S54) → ByteArray → Int → Option ((List (S54)) × ByteArray × Int)
 | 0, _, _, _, _, _ => none
 | k + 1, x2, x3, x9, x1000, x1001 => if (x9.length : Int) > 0 then ((impl_termReader_peek.f x1000 x1001).bind fun bt115 => (impl_termReader_joinedB.j1 k x2 x3 x9 (bt115.1 == x2) bt115.2.1 bt115.2.2)) else (impl_termReader_joinedB.j1 k x2 x3 x9 false x1000 x1001)
def impl_termReader_joinedB.j1 : Nat → Int → Int → List (S54) → Bool → ByteArray → Int → Option ((List (S54)) × ByteArray × Int)
 | 0, _, _, _, _, _, _ => none
 | k + 1, x2, x3, x9, x21, x1000, x1001 => if x21 = true then ((impl_termReader_both.f 200 x1000 (wrap64 (x1001 + 1))).bind fun bt118 => (if (bt118.1.length : Int) = 0 then (some (([] : List (S54)), bt118.2.1, bt118.2.2)) else (if x9.length + bt118.1.length < 5864062014805 then ((some (x9 ++ bt118.1 : List (S54))).bind fun y123 => (if y123.length < 5864062014805 then (impl_termReader_joinedB.l0 k x2 x3 (y123 ++ [(⟨x3, 0, 0⟩ : S54)]) bt118.2.1 bt118.2.2) else (none))) else (none)))) else (some (x9, x1000, x1001))
end
def impl_termReader_joinedB.f (k : Nat) (s0_0 : ByteArray) (s0_1 : Int) (a1 : Int) (a2 : Int) (a3 : Int) : Option ((List (S54)) × ByteArray × Int) := (impl_termReader_both.f 200 s0_0 s0_1).bind fun bt110 => (impl_termReader_joinedB.l0 k a2 a3 bt110.1 bt110.2.1 bt110.2.2)
set_option maxHeartbeats 8000000 in
set_option maxRecDepth 100000 in
theorem impl_termReader_joinedB.calls (k : Nat) (g : Nat) (s0_0 : ByteArray) (s0_1 : Int) (a1 : Int) (a2 : Int) (a3 : Int) (r1 : List (S54)) (r2 : ByteArray) (r3 : Int) (w0 w : World) (hI : IsS66 w0 w g s0_0 s0_1) (hB : Below w0.heap.size w0 w) (h : impl_termReader_joinedB.f k s0_0 s0_1 a1 a2 a3 = some (r1, r2, r3)) :
  Calls Tryd.prog 52 #[.pointer (some ⟨g, 0, none⟩), .func (.func 53) #[.pointer (some ⟨g, 0, none⟩)] #[], .int .u8 a2, .int .i64 a3] w fun e w' => ∃ v0_ : Value, e = .returned (v0_) ∧ Kd.R k54 54 w' w.heap.size (fun _ => True) v0_ r1 ∧ IsS66 w0 w' g r2 r3 ∧ Below w0.heap.size w0 w' ∧ KeepBut w w' g none := by
 have hu54 := Tryd.underlying54; have HI0 := Aside0.mk hI; have HK := Aside0.mk (KeepBut.refl w g none); have HL := Aside0.mk hB.size; clear hI; have HW0 := Aside0.mk hB.size; have HB := Aside0.mk hB; clear hB; have H : ((impl_termReader_both.f 200 s0_0 s0_1).bind fun bt110 => (impl_termReader_joinedB.l0 k a2 a3 bt110.1 bt110.2.1 bt110.2.2)) = some (r1, r2, r3) := h; clear h; replace H := Option.bind_eq_some_iff.mp H; obtain ⟨⟨t110, t113, t114⟩, A50, H⟩ := H; replace H : (impl_termReader_joinedB.l0 k a2 a3 t110 t113 t114) = some (r1, r2, r3) := H; have A5 := Aside0.mk A50; clear A50; have H' := Aside0.mk H; clear H
 go_enter Tryd.func52, Tryd.ntmps52
 go_wp2_with (first | (go_at_call 53; (with_reducible refine (impl_termReader_both.calls 200 g s0_0 s0_1 t110 t113 t114 w0 _ ?side1 ?side2 A5.out).mono ?_); (case side1 => exact is66_1 HI0.out); (case side2 => exact bs_ HB.out (IsS66.ge HI0.out)); rintro e w6 ⟨v111, rfl, ho0, hi, hb, hk⟩; have n0_ := Aside0.mk (Kd.R_lower ho0 (keep_size (w := w) (g := g) (row := none) (ke_ HK.out))); have n1_ := Aside0.mk (KeepBut.trans (ke_ HK.out) hk (.inl rfl)); have n2_ := Aside0.mk (hb); have n3_ := Aside0.mk (hi); clear HK; clear HB; clear HI0; have HO112 := n0_; have HK := n1_; have HB := n2_; have HI0 := n3_; clear n0_ n1_ n2_ n3_; (try clear hb); (try clear hb2); (try clear hk); (try clear hi); (try clear ho0)))
 go_loopg [9] k (fun kq v9 w' => ∃ (x9_1 : List (S54)) (x1000_1 : ByteArray) (x1001_1 : Int), Aside0 (impl_termReader_joinedB.l0 kq a2 a3 x9_1 x1000_1 x1001_1 = some (r1, r2, r3)) ∧ Aside0 (kq ≤ k) ∧ Aside0 (Kd.R k54 54 w' w.heap.size (fun _ => True) v9 x9_1) ∧ Aside0 (IsS66 w0 w' g x1000_1 x1001_1) ∧ Aside0 (KeepBut w w' g none) ∧ Aside0 (Below w0.heap.size w0 w'))
 case atStart => exact ⟨(t110), (t113), (t114), H', ⟨Nat.le_refl _⟩, ⟨r_ HO112.out⟩, ⟨by exact is66_1 HI0.out⟩, ⟨ke_ HK.out⟩, ⟨bs_ HB.out (IsS66.ge HI0.out)⟩⟩
 case round =>
  clear H'; (try clear p2); (try clear c5); obtain ⟨x9_1, x1000_1, x1001_1, HA, HK1, HO_9, HI0, HK, HB⟩ := hrel
  cases gk with
  | zero => exact absurd HA.out (by simp [impl_termReader_joinedB.l0])
  | succ k1 =>
   have H := HA.out; clear HA
   simp only [impl_termReader_joinedB.l0] at H
   have HC7 := Aside0.mk H; clear H
   go_upto_region 2 with (fail)
   go_cut [21] (fun v21 wc => ∃ (kq : Nat) (x21_6 : Bool) (x1000_6 : ByteArray) (x1001_6 : Int), v21 = .bool x21_6 ∧ Aside0 (impl_termReader_joinedB.j1 kq a2 a3 x9_1 x21_6 x1000_6 x1001_6 = some (r1, r2, r3)) ∧ Aside0 (kq ≤ k1) ∧ Aside0 (Kd.R k54 54 wc w.heap.size (fun _ => True) u9 x9_1) ∧ Aside0 (IsS66 w0 wc g x1000_6 x1001_6) ∧ Aside0 (KeepBut w wc g none) ∧ Aside0 (Below w0.heap.size w0 wc))
   case first =>
    have H := HC7.out; clear HC7
    by_cases c8 : (x9_1.length : Int) > 0
    ·rw [if_pos c8] at H
     have c8b0 : decide (0 < (x9_1.length : Int)) = true := decide_eq_true c8; have c8b1 : decide (0 < x9_1.length) = true := decide_eq_true (by omega); clear c8
     (first | rw [c8b0] | (simp only [i64_w, i32_w]; rw [c8b0]) | skip)
     replace H := Option.bind_eq_some_iff.mp H; obtain ⟨⟨t115, t116, t117⟩, A90, H⟩ := H; replace H : (impl_termReader_joinedB.j1 k1 a2 a3 x9_1 (t115 == a2) t116 t117) = some (r1, r2, r3) := H; have A9 := Aside0.mk A90; clear A90; have H' := Aside0.mk H; clear H; obtain ⟨Ao10, co10, eo10⟩ := Kd.R_slice HO_9.out; subst eo10
     go_wp2_with (first | (go_at_call 59; (with_reducible refine (impl_termReader_peek.calls g x1000_1 x1001_1 t115 t116 t117 w0 _ ?side1 ?side2 A9.out).mono ?_); (case side1 => exact is66_1 HI0.out); (case side2 => exact bs_ HB.out (IsS66.ge HI0.out)); rintro e w11 ⟨rfl, hi, hb, hk⟩; have n0_ := Aside0.mk (Kd.R_mono (Kd.R_keep (IsS66.apart (show IsS66 w0 _ g x1000_1 x1001_1 from by exact is66_1 HI0.out) (r_ HO_9.out) (by decide)) hk (fun _ h => h.2)) (fun _ h => h.1)); have n1_ := Aside0.mk (KeepBut.trans (ke_ HK.out) hk (.inl rfl)); have n2_ := Aside0.mk (hb); have n3_ := Aside0.mk (hi); clear HO_9; clear HK; clear HB; clear HI0; have HO_9 := n0_; have HK := n1_; have HB := n2_; have HI0 := n3_; clear n0_ n1_ n2_ n3_; (try clear hb); (try clear hb2); (try clear hk); (try clear hi)))
     go_meet
     case rel => exact ⟨_, ((t115 == a2)), (t116), (t117), si_, H', ⟨by have := HK1.out; first | omega | exact Nat.le_refl _⟩, ⟨r_ HO_9.out⟩, ⟨by exact is66_1 HI0.out⟩, ⟨ke_ HK.out⟩, ⟨bs_ HB.out (IsS66.ge HI0.out)⟩⟩
    ·rw [if_neg c8] at H
     have c8b0 : decide (0 < (x9_1.length : Int)) = false := decide_eq_false c8; have c8b1 : decide (0 < x9_1.length) = false := decide_eq_false (by omega); clear c8
     (first | rw [c8b0] | (simp only [i64_w, i32_w]; rw [c8b0]) | skip)
     have H' := Aside0.mk H; clear H; obtain ⟨Ao12, co12, eo12⟩ := Kd.R_slice HO_9.out; subst eo12
     go_wp2
     go_meet
     case rel => exact ⟨_, (false), (x1000_1), (x1001_1), si_, H', ⟨by have := HK1.out; first | omega | exact Nat.le_refl _⟩, ⟨r_ HO_9.out⟩, ⟨by exact is66_1 HI0.out⟩, ⟨ke_ HK.out⟩, ⟨bs_ HB.out (IsS66.ge HI0.out)⟩⟩
   case rest =>
    clear HC7; (try clear p2); (try clear c5); (try clear c8); (try clear c8b0); (try clear c8b1); (try clear p2); obtain ⟨kq, x21_6, x1000_6, x1001_6, rfl, HA, HJ6, HO_9, HI0, HK, HB⟩ := hcut
    cases kq with
    | zero => exact absurd HA.out (by simp [impl_termReader_joinedB.j1])
    | succ kj6 =>
     have H := HA.out; clear HA
     simp only [impl_termReader_joinedB.j1] at H
     by_cases c13 : x21_6 = true
     ·subst c13
      have H1 : ((impl_termReader_both.f 200 x1000_6 (wrap64 (x1001_6 + 1))).bind fun bt118 => (if (bt118.1.length : Int) = 0 then (some (([] : List (S54)), bt118.2.1, bt118.2.2)) else (if x9_1.length + bt118.1.length < 5864062014805 then ((some (x9_1 ++ bt118.1 : List (S54))).bind fun y123 => (if y123.length < 5864062014805 then (impl_termReader_joinedB.l0 kj6 a2 a3 (y123 ++ [(⟨a3, 0, 0⟩ : S54)]) bt118.2.1 bt118.2.2) else (none))) else (none)))) = some (r1, r2, r3) := by rw [if_pos rfl] at H; exact H
      clear H; have H := H1; clear H1; replace H := Option.bind_eq_some_iff.mp H; obtain ⟨⟨t118, t121, t122⟩, A140, H⟩ := H; replace H : (if (t118.length : Int) = 0 then (some (([] : List (S54)), t121, t122)) else (if x9_1.length + t118.length < 5864062014805 then ((some (x9_1 ++ t118 : List (S54))).bind fun y123 => (if y123.length < 5864062014805 then (impl_termReader_joinedB.l0 kj6 a2 a3 (y123 ++ [(⟨a3, 0, 0⟩ : S54)]) t121 t122) else (none))) else (none))) = some (r1, r2, r3) := H; have A14 := Aside0.mk A140; clear A140
      by_cases c15 : (t118.length : Int) = 0
      ·rw [if_pos c15] at H
       have c15b0 : ((t118.length : Int) == 0) = true := beq_iff_eq.mpr c15; have c15b1 : ((t118.length : Int) != 0) = false := bne_eq_false_iff_eq.mpr c15; clear c15
       simp only [Option.some.injEq, Prod.mk.injEq] at H
       obtain ⟨rfl, rfl, rfl⟩ := H; obtain ⟨HGz16, hgz16⟩ := HI0.out; have hcz16_0 := cellS66_0 HGz16; have hcz16_1 := cellS66_1 HGz16; have hfz16_0 := blk_frozen HGz16 0; have hfz16_1 := blk_frozen HGz16 1; clear HGz16 hgz16
       go_wp2_with (first | (go_at_call 53; (with_reducible refine (impl_termReader_both.calls 200 g x1000_6 (wrap64 (x1001_6 + 1)) t118 t121 t122 w0 _ ?side1 ?side2 A14.out).mono ?_); (case side1 => exact is66_1 HI0.out); (case side2 => exact bs_ HB.out (IsS66.ge HI0.out)); rintro e w17 ⟨v119, rfl, ho0, hi, hb, hk⟩; have n0_ := Aside0.mk (Kd.R_mono (Kd.R_told (Kd.R_oldK (IsS66.apart (show IsS66 w0 _ g x1000_6 (wrap64 (x1001_6 + 1)) from by exact is66_1 HI0.out) (by (with_reducible repeat (first | apply Kd.R_alloc | apply Kd.R_drewN | apply Kd.R_drew)); exact (Kd.R_mono (Kd.R_far (p := ⟨g, 1, none⟩) (IsS66.apart HI0.out HO_9.out (by decide)) (fun _ hk => hk.2) (.int .i64 (wrap64 (x1001_6 + 1)))) (fun _ h_ => h_.1))) (by decide)) hk) (Kd.R_base ho0)) (fun _ h_ => h_.1)); have n1_ := Aside0.mk (Kd.R_lower (Kd.R_new' ho0 (Kd.R_lt (by (with_reducible repeat (first | apply Kd.R_alloc | apply Kd.R_drewN | apply Kd.R_drew)); exact (Kd.R_mono (Kd.R_far (p := ⟨g, 1, none⟩) (IsS66.apart HI0.out HO_9.out (by decide)) (fun _ hk => hk.2) (.int .i64 (wrap64 (x1001_6 + 1)))) (fun _ h_ => h_.1))))) (keep_size (w := w) (g := g) (row := none) (ke_ HK.out))); have n2_ := Aside0.mk (KeepBut.trans (ke_ HK.out) hk (.inl rfl)); have n3_ := Aside0.mk (hb); have n4_ := Aside0.mk (hi); clear HO_9; clear HK; clear HB; clear HI0; have HO_9 := n0_; have HO120 := n1_; have HK := n2_; have HB := n3_; have HI0 := n4_; clear n0_ n1_ n2_ n3_ n4_; (try clear hb); (try clear hb2); (try clear hk); (try clear hi); (try clear ho0); obtain ⟨Ao18, co18, eo18⟩ := Kd.R_slice HO120.out; subst eo18))
       go_ret
       exact ⟨_, by first | rfl | (simp [errW_none, errW_some] <;> rfl) | (simp [*, errW_none, errW_some] <;> rfl), by first | exact Kd.R_nil _ _ _ _ _ | exact Kd.N_nil _ _ _ _ _ | exact Kd.V_nil _ _ _ _ _ | exact Kd.Q_nil _ _ _ _ _ | exact Kd.S_nil _ _ _ _ _, by exact is66_1 HI0.out, bs_ HB.out (IsS66.ge HI0.out), ke_ HK.out⟩
      ·rw [if_neg c15] at H
       have c15b0 : ((t118.length : Int) == 0) = false := beq_eq_false_iff_ne.mpr c15; have c15b1 : ((t118.length : Int) != 0) = true := bne_iff_ne.mpr c15; have c15b2 : ¬ (t118 = []) := fun h_ => c15 (by rw [h_]; rfl)
       by_cases c19 : x9_1.length + t118.length < 5864062014805; rotate_left
       ·rw [if_neg c19] at H; exact absurd H (by simp)
       rw [if_pos c19] at H
       have LMc19 := Aside0.mk c19; clear c19; obtain ⟨y123, hy123⟩ : ∃ y_ : List (S54), y_ = (x9_1 ++ t118) := ⟨_, rfl⟩
       rw [← hy123] at H; (try with_reducible replace H := hb_ H); (try dsimp only at H)
       have Ny123 := Aside0.mk hy123; clear hy123
       by_cases c20 : y123.length < 5864062014805; rotate_left
       ·rw [if_neg c20] at H; exact absurd H (by simp)
       rw [if_pos c20] at H
       have LMc20 := Aside0.mk c20; clear c20; obtain ⟨y126, hy126⟩ : ∃ y_ : List (S54), y_ = (y123 ++ [(⟨a3, 0, 0⟩ : S54)]) := ⟨_, rfl⟩
       rw [← hy126] at H; (try with_reducible replace H := hb_ H); (try dsimp only at H)
       have Ny126 := Aside0.mk hy126; clear hy126; have H' := Aside0.mk H; clear H; obtain ⟨HGz21, hgz21⟩ := HI0.out; have hcz21_0 := cellS66_0 HGz21; have hcz21_1 := cellS66_1 HGz21; have hfz21_0 := blk_frozen HGz21 0; have hfz21_1 := blk_frozen HGz21 1; clear HGz21 hgz21
       go_wp2_with (first | (go_at_call 53; (with_reducible refine (impl_termReader_both.calls 200 g x1000_6 (wrap64 (x1001_6 + 1)) t118 t121 t122 w0 _ ?side1 ?side2 A14.out).mono ?_); (case side1 => exact is66_1 HI0.out); (case side2 => exact bs_ HB.out (IsS66.ge HI0.out)); rintro e w22 ⟨v119, rfl, ho0, hi, hb, hk⟩; have n0_ := Aside0.mk (Kd.R_mono (Kd.R_told (Kd.R_oldK (IsS66.apart (show IsS66 w0 _ g x1000_6 (wrap64 (x1001_6 + 1)) from by exact is66_1 HI0.out) (by (with_reducible repeat (first | apply Kd.R_alloc | apply Kd.R_drewN | apply Kd.R_drew)); exact (Kd.R_mono (Kd.R_far (p := ⟨g, 1, none⟩) (IsS66.apart HI0.out HO_9.out (by decide)) (fun _ hk => hk.2) (.int .i64 (wrap64 (x1001_6 + 1)))) (fun _ h_ => h_.1))) (by decide)) hk) (Kd.R_base ho0)) (fun _ h_ => h_.1)); have n1_ := Aside0.mk (Kd.R_lower (Kd.R_new' ho0 (Kd.R_lt (by (with_reducible repeat (first | apply Kd.R_alloc | apply Kd.R_drewN | apply Kd.R_drew)); exact (Kd.R_mono (Kd.R_far (p := ⟨g, 1, none⟩) (IsS66.apart HI0.out HO_9.out (by decide)) (fun _ hk => hk.2) (.int .i64 (wrap64 (x1001_6 + 1)))) (fun _ h_ => h_.1))))) (keep_size (w := w) (g := g) (row := none) (ke_ HK.out))); have n2_ := Aside0.mk (KeepBut.trans (ke_ HK.out) hk (.inl rfl)); have n3_ := Aside0.mk (hb); have n4_ := Aside0.mk (hi); clear HO_9; clear HK; clear HB; clear HI0; have HO_9 := n0_; have HO120 := n1_; have HK := n2_; have HB := n3_; have HI0 := n4_; clear n0_ n1_ n2_ n3_ n4_; (try clear hb); (try clear hb2); (try clear hk); (try clear hi); (try clear ho0); obtain ⟨Ao23, co23, eo23⟩ := Kd.R_slice HO120.out; subst eo23) | ((with_reducible refine gate_builtin (b := .append) (xs := #[.tmp 34, .tmp 35]) rfl ?_); at_builtin; refine Kd.R_append_rows k54 w.heap.size rfl (.tmp 34) (.tmp 35) 28 54 (.agg #[(.int .i64 0), (.int .i64 0), (.int .i64 0)]) 24 rfl Tryd.underlying28 info54 rfl (by decide) (by omega) u9 x9_1 t118 _ _ _ (fun k_ => some k_ ≠ (.slice Ao23 t118.length co23 : Value).ownBlock) (fun _ => False) rfl rfl ?aO ?aR (fun _ _ h => h) (fun _ h => h.elim) ?aF (Below.refl _ _) ?aS ?aL ?_; (case aR => repeat (first | exact (Kd.R_reads' HO120.out).2.2 | (with_reducible refine Kd.C_alloc ?_ _) | (with_reducible refine Kd.C_drewN ?_ _) | (with_reducible refine Kd.C_drew ?_))); (case aF => exact (fun k_ hk => Kd.fresh' (Kd.R_lt (r_ HO120.out)) k_ hk)); (case aO => exact (by (with_reducible repeat (first | apply Kd.R_alloc | apply Kd.R_drewN | apply Kd.R_drew)); exact Kd.R_mono HO_9.out (fun _ hk => hk.2))); (case aS => exact (keep_size (w := w) (g := g) (row := none) (ke_ HK.out))); (case aL => have := LMc19.out; omega); intro v124 w24 ho hb hg hat; rw [← Ny123.out] at ho; have n0_ := Aside0.mk (IsS66.grown (is66_1 HI0.out) hg (IsS66.own_ne HI0.out HO_9.out (by decide))); have n1_ := Aside0.mk (Kd.R_after (ok := (fun _ => True)) (r_ HO120.out) hg hat); have n2_ := Aside0.mk (below_weaken (bs_ HB.out (IsS66.ge HI0.out)) HL.out hb); have n3_ := Aside0.mk (KeepBut.trans (ke_ HK.out) (KeepBut.of_grown hg g) (Kd.R_base2 HO_9.out)); have n4_ := Aside0.mk (ho); clear HI0; clear HO120; clear HB; clear HK; clear HO_9; have HI0 := n0_; have HO120 := n1_; have HB := n2_; have HK := n3_; have HO125 := n4_; clear n0_ n1_ n2_ n3_ n4_; clear ho hb hg hat) | ((with_reducible refine gate_builtin (b := .append) (xs := #[.tmp 36, .tmp 39]) rfl ?_); at_builtin; refine Kd.R_append k54 w.heap.size rfl (.tmp 36) (.tmp 39) 28 54 (.agg #[(.int .i64 0), (.int .i64 0), (.int .i64 0)]) 24 rfl Tryd.underlying28 info54 rfl (by decide) (by omega) v124 y123 (⟨a3, 0, 0⟩ : S54) [.int .i64 a3, .int .i64 0, .int .i64 0] (fun k_ => some k_ ≠ (.slice Ao23 t118.length co23 : Value).ownBlock) (fun _ => False) rfl rfl ?aP (fun _ hk => hk.elim) ?aF ?aO (Below.refl _ _) ?aS ?aL ?_; (case aP => exact k54_mkM _ _ _ (⟨a3, 0, 0⟩ : S54)); (case aF => exact (fun k_ hk => Kd.fresh' (Kd.R_lt (r_ HO120.out)) k_ hk)); (case aO => exact (r_ HO125.out)); (case aS => exact (keep_size (w := w) (g := g) (row := none) (ke_ HK.out))); (case aL => have := LMc20.out; omega); intro v127 w25 ho hb hg hat; rw [← Ny126.out] at ho; have n0_ := Aside0.mk (IsS66.grown (is66_1 HI0.out) hg (IsS66.own_ne HI0.out HO125.out (by decide))); have n1_ := Aside0.mk (Kd.R_after (ok := (fun _ => True)) (r_ HO120.out) hg hat); have n2_ := Aside0.mk (below_weaken (bs_ HB.out (IsS66.ge HI0.out)) HL.out hb); have n3_ := Aside0.mk (KeepBut.trans (ke_ HK.out) (KeepBut.of_grown hg g) (Kd.R_base2 HO125.out)); have n4_ := Aside0.mk (ho); clear HI0; clear HO120; clear HB; clear HK; clear HO125; have HI0 := n0_; have HO120 := n1_; have HB := n2_; have HK := n3_; have HO128 := n4_; clear n0_ n1_ n2_ n3_ n4_; clear ho hb hg hat))
       go_roundg kj6
       case measure => have := HK1.out; have := HJ6.out; omega
       case rel => exact ⟨(y126), (t121), (t122), H', ⟨by have := HK1.out; have := HJ6.out; omega⟩, ⟨by (with_reducible repeat (first | apply Kd.R_alloc | apply Kd.R_drewN | apply Kd.R_drew)); exact Kd.R_mono HO128.out (fun _ hk => trivial)⟩, ⟨by exact is66_1 HI0.out⟩, ⟨ke_ HK.out⟩, ⟨bs_ HB.out (IsS66.ge HI0.out)⟩⟩
     ·replace c13 := Bool.eq_false_iff.mpr c13
      subst c13
      have H1 : (some (x9_1, x1000_6, x1001_6)) = some (r1, r2, r3) := by rw [if_neg (show ¬ (false = true) by decide)] at H; exact H
      clear H; have H := H1; clear H1
      simp only [Option.some.injEq, Prod.mk.injEq] at H
      obtain ⟨rfl, rfl, rfl⟩ := H
      go_wp2
      go_ret
      exact ⟨_, by first | rfl | (simp [errW_none, errW_some] <;> rfl) | (simp [*, errW_none, errW_some] <;> rfl), r_ HO_9.out, by exact is66_1 HI0.out, bs_ HB.out (IsS66.ge HI0.out), ke_ HK.out⟩

/-! ### impl_termReader_eitherG: function 39 -/
def impl_termReader_eitherG.f (k : Nat) (s0_0 : ByteArray) (s0_1 : Int) : Option ((List (S54)) × ByteArray × Int) := (impl_termReader_joinedB.f k s0_0 s0_1 0 124 2).bind fun bt129 => (some (bt129.1, bt129.2.1, bt129.2.2))
set_option maxHeartbeats 8000000 in
set_option maxRecDepth 100000 in
theorem impl_termReader_eitherG.calls (k : Nat) (g : Nat) (s0_0 : ByteArray) (s0_1 : Int) (r1 : List (S54)) (r2 : ByteArray) (r3 : Int) (w0 w : World) (hI : IsS66 w0 w g s0_0 s0_1) (hB : Below w0.heap.size w0 w) (h : impl_termReader_eitherG.f k s0_0 s0_1 = some (r1, r2, r3)) :
  Calls Tryd.prog 39 #[.pointer (some ⟨g, 0, none⟩)] w fun e w' => ∃ v0_ : Value, e = .returned (v0_) ∧ Kd.R k54 54 w' w.heap.size (fun _ => True) v0_ r1 ∧ IsS66 w0 w' g r2 r3 ∧ Below w0.heap.size w0 w' ∧ KeepBut w w' g none := by
 have HI0 := Aside0.mk hI; have HK := Aside0.mk (KeepBut.refl w g none); have HL := Aside0.mk hB.size; clear hI; have HW0 := Aside0.mk hB.size; have HB := Aside0.mk hB; clear hB; have H : ((impl_termReader_joinedB.f k s0_0 s0_1 0 124 2).bind fun bt129 => (some (bt129.1, bt129.2.1, bt129.2.2))) = some (r1, r2, r3) := h; clear h; replace H := Option.bind_eq_some_iff.mp H; obtain ⟨⟨t129, t132, t133⟩, A20, H⟩ := H; replace H : (some (t129, t132, t133)) = some (r1, r2, r3) := H; have A2 := Aside0.mk A20; clear A20
 simp only [Option.some.injEq, Prod.mk.injEq] at H
 obtain ⟨rfl, rfl, rfl⟩ := H
 go_enter Tryd.func39, Tryd.ntmps39
 go_wp2_with (first | ((with_reducible refine gate_callee (f := 52) rfl ?_); refine goesL_ (some 6) rfl rfl Tryd.func52 (by kernel_rfl) rfl #[.pointer (some ⟨g, 0, none⟩), .func (.func 53) #[.pointer (some ⟨g, 0, none⟩)] #[], .int .u8 124, .int .i64 2] rfl ga_ ?_; (with_reducible refine (impl_termReader_joinedB.calls k g s0_0 s0_1 0 124 2 t129 t132 t133 w0 _ ?side1 ?side2 A2.out).mono ?_); (case side1 => exact is66_1 HI0.out); (case side2 => exact bs_ HB.out (IsS66.ge HI0.out)); rintro e w3 ⟨v130, rfl, ho0, hi, hb, hk⟩; refine ⟨_, rfl, ?_⟩; have n0_ := Aside0.mk (Kd.R_lower ho0 (keep_size (w := w) (g := g) (row := none) (ke_ HK.out))); have n1_ := Aside0.mk (KeepBut.trans (ke_ HK.out) hk (.inl rfl)); have n2_ := Aside0.mk (hb); have n3_ := Aside0.mk (hi); clear HK; clear HB; clear HI0; have HO131 := n0_; have HK := n1_; have HB := n2_; have HI0 := n3_; clear n0_ n1_ n2_ n3_; (try clear hb); (try clear hb2); (try clear hk); (try clear hi); (try clear ho0)))
 go_ret
 exact ⟨_, by first | rfl | (simp [errW_none, errW_some] <;> rfl) | (simp [*, errW_none, errW_some] <;> rfl), r_ HO131.out, by exact is66_1 HI0.out, bs_ HB.out (IsS66.ge HI0.out), ke_ HK.out⟩

end

set_option warn.classDefReducibility false in
/-- The readers, one within the other, so deep. -/
def rdr : Nat → Rdr
 | 0 => ⟨fun _ _ => none, fun _ _ _ _ _ _ _ _ _ _ h => by cases h⟩
 | n + 1 => ⟨@impl_termReader_eitherG.f (rdr n) 200, fun g s0_0 s0_1 r1 r2 r3 w0 w hI hB h => @impl_termReader_eitherG.calls (rdr n) 200 g s0_0 s0_1 r1 r2 r3 w0 w hI hB h⟩
/-! ### impl_termReader_either: function 39 -/
def impl_termReader_either.f (s0_0 : ByteArray) (s0_1 : Int) : Option ((List (S54)) × ByteArray × Int) := (rdr 90).f s0_0 s0_1
theorem impl_termReader_either.calls (g : Nat) (s0_0 : ByteArray) (s0_1 : Int) (r1 : List (S54)) (r2 : ByteArray) (r3 : Int) (w0 w : World) (hI : IsS66 w0 w g s0_0 s0_1) (hB : Below w0.heap.size w0 w) (h : impl_termReader_either.f s0_0 s0_1 = some (r1, r2, r3)) :
  Calls Tryd.prog 39 #[.pointer (some ⟨g, 0, none⟩)] w fun e w' => ∃ v0_ : Value, e = .returned (v0_) ∧ Kd.R k54 54 w' w.heap.size (fun _ => True) v0_ r1 ∧ IsS66 w0 w' g r2 r3 ∧ Below w0.heap.size w0 w' ∧ KeepBut w w' g none := (rdr 90).calls g s0_0 s0_1 r1 r2 r3 w0 w hI hB h


end Go.Proofs.YtoifikhcnioagaaDoor.PFnReadTerm
