/- Walks of the functions that this law reaches, one by one, written by a program. No condition. -/
import Derived.Test.YtoifikhcnioagaaDoorPFnExactReadTermx0
import Derived.Test.YtoifikhcnioagaaDoorPFnExactReadTermx4
namespace Go.Proofs.YtoifikhcnioagaaDoor.PFnExactReadTerm
open Go.RowKit Go.Proofs.YtoifikhcnioagaaDoorW.PrintWords Go.Proofs.YtoifikhcnioagaaDoorW.PrintLast Go.Proofs.YtoifikhcnioagaaDoorW.PrintMore
attribute [local go_sem] max2_int min2_int max_two min_two max_three min_three max_four min_four   -- for this text's walks alone
set_option linter.unusedVariables false
set_option linter.unusedSimpArgs false

/-! ### impl_termText: function 31 -/
def impl_termText.l0 : Nat → List (S73) → List (S54) → Int → Int → Option (ByteArray)
 | 0, _, _, _, _ => none
 | k + 1, x3, x10, x11, x12 => if x12 < x11 then (if 0 ≤ x12 then (if x12 < (x10.length : Int) then (if ((rd_T54 x10 x12).f0) = 0 then (if 0 ≤ ((rd_T54 x10 x12).f1) then (if ((rd_T54 x10 x12).f1) ≤ (wrap64 (((rd_T54 x10 x12).f1) + 1)) then (if (wrap64 (((rd_T54 x10 x12).f1) + 1)) ≤ 4 then ((strconv_Itoa.f k ((rd_T54 x10 x12).f2)).bind fun t134 => (if ((⟨#[65, 66, 67, 68]⟩ : ByteArray).extract (((rd_T54 x10 x12).f1) : Int).toNat ((wrap64 (((rd_T54 x10 x12).f1) + 1)) : Int).toNat).size + t134.size ≤ 9223372036854775807 then (if x3.length < 4398046511104 then (impl_termText.l0 k (x3 ++ [(⟨((⟨#[65, 66, 67, 68]⟩ : ByteArray).extract (((rd_T54 x10 x12).f1) : Int).toNat ((wrap64 (((rd_T54 x10 x12).f1) + 1)) : Int).toNat) ++ t134, false, 1⟩ : S73)]) x10 x11 (wrap64 (x12 + 1))) else (none)) else (none))) else (none)) else (none)) else (none)) else (if 0 ≤ (wrap64 ((x3.length : Int) - 2)) then (if (wrap64 ((x3.length : Int) - 2)) < (x3.length : Int) then (if 0 ≤ (wrap64 ((x3.length : Int) - 1)) then (if (wrap64 ((x3.length : Int) - 1)) < (x3.length : Int) then (if ((rd_T54 x10 x12).f0) = 2 then (if ((rd_T73 x3 (wrap64 ((x3.length : Int) - 2))).f0).size + 1 ≤ 9223372036854775807 then ((impl_wrapped.f ((rd_T73 x3 (wrap64 ((x3.length : Int) - 1))).f0) ((rd_T73 x3 (wrap64 ((x3.length : Int) - 1))).f1)).bind fun t143 => (if (((rd_T73 x3 (wrap64 ((x3.length : Int) - 2))).f0) ++ (⟨#[124]⟩ : ByteArray)).size + t143.size ≤ 9223372036854775807 then (if (wrap64 ((x3.length : Int) - 2)) ≤ (x3.length : Int) then ((some (x3.take ((wrap64 ((x3.length : Int) - 2)) : Int).toNat : List (S73))).bind fun y144 => (if y144.length < 4398046511104 then (impl_termText.l0 k (y144 ++ [(⟨(((rd_T73 x3 (wrap64 ((x3.length : Int) - 2))).f0) ++ (⟨#[124]⟩ : ByteArray)) ++ t143, (((rd_T54 x10 x12).f0) == 2), wrap64 ((wrap64 (((rd_T73 x3 (wrap64 ((x3.length : Int) - 2))).f2) + ((rd_T73 x3 (wrap64 ((x3.length : Int) - 1))).f2))) + 1)⟩ : S73)]) x10 x11 (wrap64 (x12 + 1))) else (none))) else (none)) else (none))) else (none)) else ((impl_wrapped.f ((rd_T73 x3 (wrap64 ((x3.length : Int) - 2))).f0) ((rd_T73 x3 (wrap64 ((x3.length : Int) - 2))).f1)).bind fun t150 => (if t150.size + 1 ≤ 9223372036854775807 then ((impl_wrapped.f ((rd_T73 x3 (wrap64 ((x3.length : Int) - 1))).f0) (decide (((rd_T73 x3 (wrap64 ((x3.length : Int) - 1))).f2) > 1))).bind fun t151 => (if (t150 ++ (⟨#[38]⟩ : ByteArray)).size + t151.size ≤ 9223372036854775807 then (if (wrap64 ((x3.length : Int) - 2)) ≤ (x3.length : Int) then ((some (x3.take ((wrap64 ((x3.length : Int) - 2)) : Int).toNat : List (S73))).bind fun y152 => (if y152.length < 4398046511104 then (impl_termText.l0 k (y152 ++ [(⟨(t150 ++ (⟨#[38]⟩ : ByteArray)) ++ t151, (((rd_T54 x10 x12).f0) == 2), wrap64 ((wrap64 (((rd_T73 x3 (wrap64 ((x3.length : Int) - 2))).f2) + ((rd_T73 x3 (wrap64 ((x3.length : Int) - 1))).f2))) + 1)⟩ : S73)]) x10 x11 (wrap64 (x12 + 1))) else (none))) else (none)) else (none))) else (none)))) else (none)) else (none)) else (none)) else (none))) else (none)) else (none)) else (if 0 < (x3.length : Int) then (some ((rd_T73 x3 0).f0)) else (none))
def impl_termText.f (k : Nat) (l0 : List (S54)) : Option (ByteArray) := impl_termText.l0 k (([] : List (S73))) l0 (l0.length : Int) 0
theorem impl_termText.mono_l : ∀ k, (∀ y0 y1 y2 y3, LeO (impl_termText.l0 k y0 y1 y2 y3) (impl_termText.l0 (k + 1) y0 y1 y2 y3))
 | 0 => fun _ _ _ _ r h => by simp [impl_termText.l0] at h
 | k + 1 => by
  have ih0 := impl_termText.mono_l k
  ·intro y0 y1 y2 y3
   unfold impl_termText.l0
   repeat' first
   | (with_reducible exact ih0 _ _ _ _)
   | (with_reducible exact strconv_Itoa.mono _ _)
   | (with_reducible exact LeO.refl _)
   | (with_reducible exact LeO.none _)
   | (with_reducible refine LeO.ite ?_ ?_)
   | (with_reducible refine LeO.bind ?_ (fun _ => ?_))
   | exact ih0 _ _ _ _
   | exact strconv_Itoa.mono _ _
   | exact LeO.none _
   | refine LeO.ite ?_ ?_
   | refine LeO.bind ?_ (fun _ => ?_)
theorem impl_termText.mono : ∀ a0 k, LeO (impl_termText.f k a0) (impl_termText.f (k + 1) a0) := by
 intro a0 k; have ih0 := impl_termText.mono_l k
 unfold impl_termText.f
 repeat' first
   | (with_reducible exact ih0 _ _ _ _)
   | (with_reducible exact strconv_Itoa.mono _ _)
   | (with_reducible exact LeO.refl _)
   | (with_reducible exact LeO.none _)
   | (with_reducible refine LeO.ite ?_ ?_)
   | (with_reducible refine LeO.bind ?_ (fun _ => ?_))
   | exact ih0 _ _ _ _
   | exact strconv_Itoa.mono _ _
   | exact LeO.none _
   | refine LeO.ite ?_ ?_
   | refine LeO.bind ?_ (fun _ => ?_)
def impl_termText.T6 : Bool × List (List Nat × List Nat) := (true, [([], []), ([], []), ([1], [1]), ([], []), ([3], [3]), ([4], [4]), ([2, 5], [2, 5]), ([], []), ([7], [7]), ([8], [8]), ([6, 9], [6, 9]), ([10], [10]), ([11], [11]), ([0, 12, 9], [0, 12]), ([13, 13, 0, 1, 2, 3, 4, 5, 6, 7, 8, 9, 10, 11, 12, 13], [0, 13])])
def impl_termText.B6 : List Nat := [0, 0, 2, 0, 8, 24, 62, 0, 128, 384, 1022, 2046, 4094, 8191, 16383]
theorem impl_termText.tab6 : rtab .any (opsOf Tryd.f31 6) = impl_termText.T6 := by kernel_rfl
theorem impl_termText.bits6 : waitsOk impl_termText.T6.2 impl_termText.B6 = true := by kernel_rfl
def impl_termText.T7 : Bool × List (List Nat × List Nat) := (true, [([], []), ([], []), ([1], [1]), ([2], [2]), ([0, 3], [0, 3]), ([4], [4]), ([], []), ([], []), ([7], [7]), ([8], [8]), ([6, 9], [6, 9]), ([10], [10]), ([], []), ([], []), ([12, 5, 0, 1, 2, 3, 4, 5, 12, 13], [5, 12]), ([13, 11, 14, 0, 1, 2, 3, 4, 5, 6, 7, 8, 9, 10, 11, 12, 13, 14], [11, 13])])
def impl_termText.B7 : List Nat := [0, 0, 2, 6, 15, 31, 0, 0, 128, 384, 960, 1984, 0, 0, 12351, 32767]
theorem impl_termText.tab7 : rtab .any (opsOf Tryd.f31 7) = impl_termText.T7 := by kernel_rfl
theorem impl_termText.bits7 : waitsOk impl_termText.T7.2 impl_termText.B7 = true := by kernel_rfl
def impl_termText.T10 : Bool × List (List Nat × List Nat) := (true, [([], []), ([0], [0]), ([1], [1]), ([], []), ([3], [3]), ([], []), ([5], [5]), ([4, 6], [4, 6]), ([2, 7], [2, 7]), ([0, 1, 2, 3, 4, 5, 6, 7, 8], []), ([9, 8, 7, 0, 1, 2, 3, 4, 5, 6, 7, 8], [8, 9])])
def impl_termText.B10 : List Nat := [0, 1, 3, 0, 8, 0, 32, 120, 255, 511, 1023]
theorem impl_termText.tab10 : rtab .any (opsOf Tryd.f31 10) = impl_termText.T10 := by kernel_rfl
theorem impl_termText.bits10 : waitsOk impl_termText.T10.2 impl_termText.B10 = true := by kernel_rfl
def impl_termText.T11 : Bool × List (List Nat × List Nat) := (true, [([], []), ([0], [0]), ([], []), ([2], [2]), ([1, 3], [1, 3]), ([4], [4]), ([], []), ([6], [6]), ([], []), ([8], [8]), ([9], [9]), ([7, 10, 4], [7, 10]), ([5, 11], [5, 11]), ([0, 1, 2, 3, 4, 5, 6, 7, 8, 9, 10, 11, 12], []), ([13, 12, 11, 0, 1, 2, 3, 4, 5, 6, 7, 8, 9, 10, 11, 12], [12, 13])])
def impl_termText.B11 : List Nat := [0, 1, 0, 4, 15, 31, 0, 64, 0, 256, 768, 2015, 4095, 8191, 16383]
theorem impl_termText.tab11 : rtab .any (opsOf Tryd.f31 11) = impl_termText.T11 := by kernel_rfl
theorem impl_termText.bits11 : waitsOk impl_termText.T11.2 impl_termText.B11 = true := by kernel_rfl
def impl_termText.T12 : Bool × List (List Nat × List Nat) := (true, [([], []), ([], []), ([1], [1]), ([2], [2]), ([0, 3], [0, 3]), ([], []), ([5], [5]), ([4, 6], [4, 6]), ([7, 7, 0, 1, 2, 3, 4, 5, 6, 7], [0, 1, 7])])
def impl_termText.B12 : List Nat := [0, 0, 2, 6, 15, 0, 32, 127, 255]
theorem impl_termText.tab12 : rtab .any (opsOf Tryd.f31 12) = impl_termText.T12 := by kernel_rfl
theorem impl_termText.bits12 : waitsOk impl_termText.T12.2 impl_termText.B12 = true := by kernel_rfl
set_option maxHeartbeats 8000000 in
set_option maxRecDepth 100000 in
theorem impl_termText.calls (k : Nat) (A0 : Option Addr) (c0 : Nat) (l0 : List (S54)) (r : ByteArray) (w : World) (hr0 : Kd.C k54 w A0 l0.length l0) (hc0 : l0.length ≤ c0) (h : impl_termText.f k l0 = some r) :
  Calls Tryd.prog 31 #[.slice A0 l0.length c0] w fun e w' => e = .returned (.string r) ∧ Below w.heap.size w w' := by
 have hu54 := Tryd.underlying54; have hu73 := Tryd.underlying73; have HR0 := Aside0.mk hr0; have HC0 := Aside0.mk hc0; clear hr0 hc0; have HB := Aside0.mk (Below.refl w.heap.size w); have H := h; clear h
 unfold impl_termText.f at H
 obtain ⟨y128, hy128⟩ : ∃ y_ : List (S73), y_ = (([] : List (S73))) := ⟨_, rfl⟩
 replace H : (impl_termText.l0 k y128 l0 (l0.length : Int) 0) = some r := by first | (rw [hy128]; with_reducible exact H) | (have H2_ := (Option.bind_some _ _).symm.trans H; rw [hy128]; with_reducible exact H2_) | (have H2_ := (Option.bind_some _ _).symm.trans H; with_reducible exact H2_) | with_reducible exact H | (rw [hy128]; exact H) | exact H
 have Ny128 := Aside0.mk hy128; clear hy128; have H' := Aside0.mk H; clear H
 go_enter Tryd.func31, Tryd.ntmps31
 go_wp2_with (first | ((with_reducible refine gate_dst (N := 9) rfl ?_); refine Kd.R_lit k73 _ 73 ?hg (N := 9) ?hd (xs := ([] : List (S73))) (inner := []) (ok := fun _ => True) (okp := fun _ => True) ?hr ?hp (fun _ hk => hk) trivial (Below.refl _ _) (Nat.le_refl _) (by simp) ?_; (case hd => rfl); (case hg => rfl); (case hr => first | (go_simp; done) | (go_simp; rfl)); (case hp => exact (Reps.none _ _)); intro v129 w2 ho3 hb hg_ hnew_; clear hg_ hnew_; (first | rw [← Ny128.out] at ho3 | (simp only [Int.reduceToNat] at ho3; rw [← Ny128.out] at ho3)); have n0_ := Aside0.mk (Kd.R_lower ho3 (below_size (bl_ HB.out))); have n1_ := Aside0.mk (below_step (bl_ HB.out) hb); clear HB; have HO130 := n0_; have HB := n1_; clear n0_ n1_; clear hb ho3))
 go_loopg [3, 12] k (fun kq v3 v12 w' => ∃ (x3_1 : List (S73)) (x12_1 : Int), v12 = .int .i64 x12_1 ∧ Aside0 (impl_termText.l0 kq x3_1 l0 (l0.length : Int) x12_1 = some r) ∧ Aside0 (kq ≤ k) ∧ Aside0 (Kd.R k73 73 w' w.heap.size (fun _ => True) v3 x3_1) ∧ Aside0 (Below w.heap.size w w'))
 case atStart => exact ⟨(y128), (0), si_, H', ⟨Nat.le_refl _⟩, ⟨r_ HO130.out⟩, ⟨bl_ HB.out⟩⟩
 case round =>
  clear H'; (try clear p2); (try clear c3); obtain ⟨x3_1, x12_1, rfl, HA, HK1, HO_3, HB⟩ := hrel
  cases gk with
  | zero => exact absurd HA.out (by simp [impl_termText.l0])
  | succ k1 =>
   have H := HA.out; clear HA
   simp only [impl_termText.l0] at H
   by_cases c4 : x12_1 < (l0.length : Int)
   ·rw [if_pos c4] at H
    have c4b0 : decide (x12_1 < (l0.length : Int)) = true := decide_eq_true c4; clear c4
    by_cases c5 : 0 ≤ x12_1
    ·rw [if_pos c5] at H
     have c5b0 : decide (0 ≤ x12_1) = true := decide_eq_true c5; clear c5
     by_cases c6 : x12_1 < (l0.length : Int)
     ·rw [if_pos c6] at H
      have c6b0 : decide (x12_1 < (l0.length : Int)) = true := decide_eq_true c6; clear c6
      by_cases c7 : ((rd_T54 l0 x12_1).f0) = 0
      ·rw [if_pos c7] at H
       have c7b0 : (((rd_T54 l0 x12_1).f0) == 0) = true := beq_iff_eq.mpr c7; have c7b1 : (((rd_T54 l0 x12_1).f0) != 0) = false := bne_eq_false_iff_eq.mpr c7; clear c7
       by_cases c8 : 0 ≤ ((rd_T54 l0 x12_1).f1)
       ·rw [if_pos c8] at H
        have c8b0 := eq_true c8; have c8b1 : decide (0 ≤ ((rd_T54 l0 x12_1).f1)) = true := decide_eq_true c8; clear c8
        by_cases c9 : ((rd_T54 l0 x12_1).f1) ≤ (wrap64 (((rd_T54 l0 x12_1).f1) + 1))
        ·rw [if_pos c9] at H
         have c9b0 := eq_true c9; have c9b1 : decide (((rd_T54 l0 x12_1).f1) ≤ (wrap64 (((rd_T54 l0 x12_1).f1) + 1))) = true := decide_eq_true c9
         by_cases c10 : (wrap64 (((rd_T54 l0 x12_1).f1) + 1)) ≤ 4
         ·rw [if_pos c10] at H
          have c10b0 := eq_true c10; have c10b1 : decide ((wrap64 (((rd_T54 l0 x12_1).f1) + 1)) ≤ 4) = true := decide_eq_true c10; replace H := Option.bind_eq_some_iff.mp H; obtain ⟨t134, A110, H⟩ := H
          try dsimp only at H
          have A11 := Aside0.mk A110; clear A110
          by_cases c12 : ((⟨#[65, 66, 67, 68]⟩ : ByteArray).extract (((rd_T54 l0 x12_1).f1) : Int).toNat ((wrap64 (((rd_T54 l0 x12_1).f1) + 1)) : Int).toNat).size + t134.size ≤ 9223372036854775807
          ·rw [if_pos c12] at H
           have c12b0 := eq_true c12; have c12b1 : decide (((⟨#[65, 66, 67, 68]⟩ : ByteArray).extract (((rd_T54 l0 x12_1).f1) : Int).toNat ((wrap64 (((rd_T54 l0 x12_1).f1) + 1)) : Int).toNat).size + t134.size ≤ 9223372036854775807) = true := decide_eq_true c12
           try have c12b2 : (9223372036854775807 < ((⟨#[65, 66, 67, 68]⟩ : ByteArray).extract (((rd_T54 l0 x12_1).f1) : Int).toNat ((wrap64 (((rd_T54 l0 x12_1).f1) + 1)) : Int).toNat).size + t134.size) = False := eq_false (Nat.not_lt.2 c12)
           have cq_ : (wrap64 (((rd_T54 l0 x12_1).f1) + 1)).toNat - ((rd_T54 l0 x12_1).f1).toNat + t134.size ≤ 9223372036854775807 := by
            have h_ := c12; have h2_ := of_eq_true c10b0
            rw [ByteArray.size_extract] at h_
            have h3_ : (wrap64 (((rd_T54 l0 x12_1).f1) + 1)).toNat ≤ (⟨#[65, 66, 67, 68]⟩ : ByteArray).size := by show _ ≤ 4; generalize wrap64 (((rd_T54 l0 x12_1).f1) + 1) = z_ at h2_ ⊢; omega
            rw [Nat.min_eq_left h3_] at h_
            exact h_
           have c12b3 := eq_false (Nat.not_lt.2 cq_); have c12b4 := eq_true cq_; clear cq_
           by_cases c13 : x3_1.length < 4398046511104
           ·rw [if_pos c13] at H
            have LMc13 := Aside0.mk c13; clear c13; obtain ⟨y135, hy135⟩ : ∃ y_ : List (S73), y_ = (x3_1 ++ [(⟨((⟨#[65, 66, 67, 68]⟩ : ByteArray).extract (((rd_T54 l0 x12_1).f1) : Int).toNat ((wrap64 (((rd_T54 l0 x12_1).f1) + 1)) : Int).toNat) ++ t134, false, 1⟩ : S73)]) := ⟨_, rfl⟩
            replace H : (impl_termText.l0 k1 y135 l0 (l0.length : Int) (wrap64 (x12_1 + 1))) = some r := by first | (rw [hy135]; with_reducible exact H) | (have H2_ := (Option.bind_some _ _).symm.trans H; rw [hy135]; with_reducible exact H2_) | (have H2_ := (Option.bind_some _ _).symm.trans H; with_reducible exact H2_) | with_reducible exact H | (rw [hy135]; exact H) | exact H
            have Ny135 := Aside0.mk hy135; clear hy135; have H' := Aside0.mk H; clear H; have p132 : 0 ≤ (x12_1 : Int) := of_decide_eq_true as_; have q132 : x12_1 < (l0.length : Int) := of_decide_eq_true as_; obtain ⟨ad132, e132, hx132_0, hx132_1, hx132_2⟩ := at_T54 HR0.out x12_1 p132 q132; cases e132; replace hx132_0 := (HB.out.cell (World.block_lt_of_cell? w _ hx132_0)).trans hx132_0; replace hx132_1 := (HB.out.cell (World.block_lt_of_cell? w _ hx132_1)).trans hx132_1; replace hx132_2 := (HB.out.cell (World.block_lt_of_cell? w _ hx132_2)).trans hx132_2; replace p132 := eq_true p132; replace q132 := eq_true q132
            try go_wp2_with (first | ((with_reducible refine gate_dst (N := 5) rfl ?_); refine box_event ?hg (N := 5) ?hd (cs := #[.int .i64 0, .int .i64 0, .int .i64 0]) (t := 54) ?hr ?_; (case hd => rfl); (case hg => rfl); (case hr => first | (go_simp; done) | (go_simp; rfl)); intro gb133 hg w14 hbox hb; have n0_ := Aside0.mk (Kd.R_below (r_ HO_3.out) hb); have n1_ := Aside0.mk (below_step (bl_ HB.out) hb); have n2_ := Aside0.mk (hbox); have n3_ := Aside0.mk ((by rw [hg]; exact (below_size (bl_ HB.out)) : w.heap.size ≤ gb133)); have n4_ := Aside0.mk ((by rw [hg]; exact (below_size (bl_ HB.out)) : w.heap.size ≤ gb133)); clear HO_3; clear HB; have HO_3 := n0_; have HB := n1_; have BK133 := n2_; have GW133 := n3_; have GE133 := n4_; clear n0_ n1_ n2_ n3_ n4_; clear hb hbox hg; have hcz15_0 : w14.cell? ⟨gb133, 0, none⟩ = some (.int .i64 0) := (blk_cell BK133.out 0).trans rfl; have hcz15_1 : w14.cell? ⟨gb133, 1, none⟩ = some (.int .i64 0) := (blk_cell BK133.out 1).trans rfl; have hcz15_2 : w14.cell? ⟨gb133, 2, none⟩ = some (.int .i64 0) := (blk_cell BK133.out 2).trans rfl; have hfz15_0 := blk_frozen BK133.out 0; have hfz15_1 := blk_frozen BK133.out 1; have hfz15_2 := blk_frozen BK133.out 2))
            have n0_ : Aside0 (Kd.R k73 73 (((w14.setCell ⟨gb133, 0, none⟩ (.int .i64 ((rd_T54 l0 x12_1).f0))).setCell ⟨gb133, 1, none⟩ (.int .i64 ((rd_T54 l0 x12_1).f1))).setCell ⟨gb133, 2, none⟩ (.int .i64 ((rd_T54 l0 x12_1).f2))) w.heap.size (fun _ => True) u3 x3_1) := ⟨by (with_reducible repeat (first | apply Kd.R_alloc | apply Kd.R_drewN | apply Kd.R_drew)); exact Kd.R_mono (Kd.R_far (p := ⟨gb133, 2, none⟩) (Kd.R_far (p := ⟨gb133, 1, none⟩) (Kd.R_far (p := ⟨gb133, 0, none⟩) (Kd.R_types HO_3.out BK133.out (by decide)) (fun _ hk => hk.2) (.int .i64 ((rd_T54 l0 x12_1).f0))) (fun _ hk => hk.2) (.int .i64 ((rd_T54 l0 x12_1).f1))) (fun _ hk => hk.2) (.int .i64 ((rd_T54 l0 x12_1).f2))) (fun _ hk => trivial)⟩; have n1_ : Aside0 ((((w14.setCell ⟨gb133, 0, none⟩ (.int .i64 ((rd_T54 l0 x12_1).f0))).setCell ⟨gb133, 1, none⟩ (.int .i64 ((rd_T54 l0 x12_1).f1))).setCell ⟨gb133, 2, none⟩ (.int .i64 ((rd_T54 l0 x12_1).f2))).heap[gb133]? = some (.cells #[.int .i64 ((rd_T54 l0 x12_1).f0), .int .i64 ((rd_T54 l0 x12_1).f1), .int .i64 ((rd_T54 l0 x12_1).f2)] 54 (0, 0))) := ⟨by refine sb_ ?_; refine blk_put (cs := #[.int .i64 ((rd_T54 l0 x12_1).f0), .int .i64 ((rd_T54 l0 x12_1).f1), .int .i64 0]) ?_ 2 _ rfl; refine sb_ ?_; refine blk_put (cs := #[.int .i64 ((rd_T54 l0 x12_1).f0), .int .i64 0, .int .i64 0]) ?_ 1 _ rfl; refine sb_ ?_; refine blk_put (cs := #[.int .i64 0, .int .i64 0, .int .i64 0]) ?_ 0 _ rfl; refine sb_ ?_; exact BK133.out⟩; have n2_ : Aside0 (Below w.heap.size w (((w14.setCell ⟨gb133, 0, none⟩ (.int .i64 ((rd_T54 l0 x12_1).f0))).setCell ⟨gb133, 1, none⟩ (.int .i64 ((rd_T54 l0 x12_1).f1))).setCell ⟨gb133, 2, none⟩ (.int .i64 ((rd_T54 l0 x12_1).f2)))) := ⟨bs_ HB.out GE133.out⟩
            (try clear HO_3)
            (try clear BK133)
            (try clear HB)
            generalize (((w14.setCell ⟨gb133, 0, none⟩ (.int .i64 ((rd_T54 l0 x12_1).f0))).setCell ⟨gb133, 1, none⟩ (.int .i64 ((rd_T54 l0 x12_1).f1))).setCell ⟨gb133, 2, none⟩ (.int .i64 ((rd_T54 l0 x12_1).f2))) = w16 at n0_ n1_ n2_ ⊢
            have HO_3 := n0_; have BK133 := n1_; have HB := n2_; clear n0_ n1_ n2_; have n0_ := Aside0.mk (Kd.R_drew HO_3.out); have n1_ := Aside0.mk (blk_drew BK133.out); have n2_ := Aside0.mk (below_drew1 HB.out); clear HO_3 BK133 HB; have HO_3 := n0_; have BK133 := n1_; have HB := n2_; clear n0_ n1_ n2_
            refine start_ (n := 15) (S := fun w' => w'.cell? ⟨gb133, 0, none⟩ = some (.int .i64 ((rd_T54 l0 x12_1).f0)) ∧ w'.cell? ⟨gb133, 1, none⟩ = some (.int .i64 ((rd_T54 l0 x12_1).f1)) ∧ w'.cell? ⟨gb133, 2, none⟩ = some (.int .i64 ((rd_T54 l0 x12_1).f2))) (ds := []) #[false, false, false, false, false, false, false, false, false, false, false, false, false, false, false] (by kernel_rfl) rfl rfl ⟨(blk_cell BK133.out 0).trans rfl, (blk_cell BK133.out 1).trans rfl, (blk_cell BK133.out 2).trans rfl⟩ (fun hHeld => ?_); refine with_tabW impl_termText.tab6 impl_termText.bits6 (fun HT_ HW_ => ?_)
            generalize w16.drew = w17 at HO_3 BK133 HB hHeld ⊢
            refine pure_ (i := 0) (N := some 19) (v := ?_) (a' := ?_) #[true, false, false, false, false, false, false, false, false, false, false, false, false, false, false] rfl rfl (any_of HT_.out (by kernel_rfl)) (fun _ _ _ h => h) (Or.inl ⟨by rfl, ?_⟩) ?_ ?_
            rotate_left
            ·intro w'
             go_simp
             with_reducible rfl
            rotate_left
            ·simp only [Act.put, List.setIfInBounds_toArray, List.set_cons_zero, List.set_cons_succ, i64_w, i32_w]
             rfl
            refine pure_ (i := 1) (N := some 20) (v := ?_) (a' := ?_) #[true, true, false, false, false, false, false, false, false, false, false, false, false, false, false] rfl rfl (any_of HT_.out (by kernel_rfl)) (fun _ _ _ h => h) (Or.inl ⟨by rfl, ?_⟩) ?_ ?_
            rotate_left
            ·intro w'
             go_simp
             with_reducible rfl
            rotate_left
            ·simp only [Act.put, List.setIfInBounds_toArray, List.set_cons_zero, List.set_cons_succ, i64_w, i32_w]
             rfl
            refine pure_ (i := 3) (N := some 22) (v := ?_) (a' := ?_) #[true, true, false, true, false, false, false, false, false, false, false, false, false, false, false] rfl rfl (any_of HT_.out (by kernel_rfl)) (fun _ _ _ h => h) (Or.inl ⟨by rfl, ?_⟩) ?_ ?_
            rotate_left
            ·intro w'
             go_simp
             with_reducible rfl
            rotate_left
            ·simp only [Act.put, List.setIfInBounds_toArray, List.set_cons_zero, List.set_cons_succ, i64_w, i32_w]
             rfl
            refine pure_ (i := 7) (N := some 26) (v := ?_) (a' := ?_) #[true, true, false, true, false, false, false, true, false, false, false, false, false, false, false] rfl rfl (any_of HT_.out (by kernel_rfl)) (fun _ _ _ h => h) (Or.inl ⟨by rfl, ?_⟩) ?_ ?_
            rotate_left
            ·intro w'
             go_simp
             with_reducible rfl
            rotate_left
            ·simp only [Act.put, List.setIfInBounds_toArray, List.set_cons_zero, List.set_cons_succ, i64_w, i32_w]
             rfl
            refine take_ (i := 2) (N := some 21) (v := ?_) (a' := ?_) #[true, true, true, true, false, false, false, true, false, false, false, false, false, false, false] rfl rfl (take_ofW HT_.out HW_.out (by kernel_rfl)) (fun _ _ _ h => h) (Or.inl ⟨by rfl, ?_⟩) hHeld ?_ ?_
            rotate_left
            ·rintro w' ⟨s0, s1, s2⟩
             go_simp
             with_reducible rfl
            rotate_left
            ·simp only [Act.put, List.setIfInBounds_toArray, List.set_cons_zero, List.set_cons_succ, i64_w, i32_w]
             rfl
            refine take_ (i := 4) (N := some 23) (v := ?_) (a' := ?_) #[true, true, true, true, true, false, false, true, false, false, false, false, false, false, false] rfl rfl (take_ofW HT_.out HW_.out (by kernel_rfl)) (fun _ _ _ h => h) (Or.inl ⟨by rfl, ?_⟩) hHeld ?_ ?_
            rotate_left
            ·rintro w' ⟨s0, s1, s2⟩
             go_simp
             with_reducible rfl
            rotate_left
            ·simp only [Act.put, List.setIfInBounds_toArray, List.set_cons_zero, List.set_cons_succ, i64_w, i32_w]
             rfl
            refine pure_ (i := 5) (N := some 24) (v := ?_) (a' := ?_) #[true, true, true, true, true, true, false, true, false, false, false, false, false, false, false] rfl rfl (any_of HT_.out (by kernel_rfl)) (fun _ _ _ h => h) (Or.inl ⟨by rfl, ?_⟩) ?_ ?_
            rotate_left
            ·intro w'
             go_simp
             with_reducible rfl
            rotate_left
            ·simp only [Act.put, List.setIfInBounds_toArray, List.set_cons_zero, List.set_cons_succ, i64_w, i32_w]
             rfl
            refine pure_ (i := 6) (N := some 25) (v := ?_) (a' := ?_) #[true, true, true, true, true, true, true, true, false, false, false, false, false, false, false] rfl rfl (any_of HT_.out (by kernel_rfl)) (fun _ _ _ h => h) (Or.inl ⟨by rfl, ?_⟩) ?_ ?_
            rotate_left
            ·intro w'
             go_simp
             with_reducible rfl
            rotate_left
            ·simp only [Act.put, List.setIfInBounds_toArray, List.set_cons_zero, List.set_cons_succ, i64_w, i32_w]
             rfl
            refine take_ (i := 8) (N := some 27) (v := ?_) (a' := ?_) #[true, true, true, true, true, true, true, true, true, false, false, false, false, false, false] rfl rfl (take_ofW HT_.out HW_.out (by kernel_rfl)) (fun _ _ _ h => h) (Or.inl ⟨by rfl, ?_⟩) hHeld ?_ ?_
            rotate_left
            ·rintro w' ⟨s0, s1, s2⟩
             go_simp
             with_reducible rfl
            rotate_left
            ·simp only [Act.put, List.setIfInBounds_toArray, List.set_cons_zero, List.set_cons_succ, i64_w, i32_w]
             rfl
            refine one_ (i := 9) (N := some 28) #[true, true, true, true, true, true, true, true, true, true, false, false, false, false, false] rfl rfl (one_of HT_.out (by kernel_rfl)) (by decide) (fun K hK => ?_)
            refine goes_ Tryd.func49 (by kernel_rfl) rfl #[.int .i64 ((rd_T54 l0 x12_1).f2)] (by rfl) rfl rfl ga_ ?_
            with_reducible refine (strconv_Itoa.calls k1 ((rd_T54 l0 x12_1).f2) t134 _ A11.out).mono ?_
            rintro e w18 ⟨rfl, hb⟩
            refine ⟨_, rfl, ?_⟩
            have n0_ := Aside0.mk (Kd.R_below (r_ HO_3.out) hb); have n1_ := Aside0.mk (blk_below (g := gb133) (o := .cells #[.int .i64 ((rd_T54 l0 x12_1).f0), .int .i64 ((rd_T54 l0 x12_1).f1), .int .i64 ((rd_T54 l0 x12_1).f2)] 54 (0, 0)) (bk_ BK133.out) hb); have n2_ := Aside0.mk (below_step (bs_ HB.out GE133.out) hb); clear HO_3 BK133 HB; have HO_3 := n0_; have BK133 := n1_; have HB := n2_; clear n0_ n1_ n2_
            (try clear hb)
            (try clear hb2)
            (try clear hk)
            (try clear hi)
            refine hK.out _ _ ⟨(blk_cell BK133.out 0).trans rfl, (blk_cell BK133.out 1).trans rfl, (blk_cell BK133.out 2).trans rfl⟩ (fun hHeld => ?_)
            clear hK K
            refine norm_ (a' := ?_) ?_ ?_
            rotate_left
            ·show Act.put _ (some 28) _ = _
             simp only [Act.put, List.setIfInBounds_toArray, List.set_cons_zero, List.set_cons_succ, i64_w, i32_w]
             rfl
            refine pure_ (i := 10) (N := some 29) (v := ?_) (a' := ?_) #[true, true, true, true, true, true, true, true, true, true, true, false, false, false, false] rfl rfl (any_of HT_.out (by kernel_rfl)) (fun _ _ _ h => h) (Or.inl ⟨by rfl, ?_⟩) ?_ ?_
            rotate_left
            ·intro w'
             go_simp
             with_reducible rfl
            rotate_left
            ·simp only [Act.put, List.setIfInBounds_toArray, List.set_cons_zero, List.set_cons_succ, i64_w, i32_w]
             rfl
            refine pure_ (i := 11) (N := some 30) (v := ?_) (a' := ?_) #[true, true, true, true, true, true, true, true, true, true, true, true, false, false, false] rfl rfl (any_of HT_.out (by kernel_rfl)) (fun _ _ _ h => h) (Or.inl ⟨by rfl, ?_⟩) ?_ ?_
            rotate_left
            ·intro w'
             go_simp
             with_reducible rfl
            rotate_left
            ·simp only [Act.put, List.setIfInBounds_toArray, List.set_cons_zero, List.set_cons_succ, i64_w, i32_w]
             rfl
            refine one_ (i := 12) (N := some 31) #[true, true, true, true, true, true, true, true, true, true, true, true, true, false, false] rfl rfl (one_of HT_.out (by kernel_rfl)) (by decide) (fun K hK => ?_)
            refine value_ (w1 := ?_) (v := ?_) (by rfl) rfl ?_ ?_
            rotate_left 2
            ·go_simp
             constructor
             ·rfl
             ·rfl
            refine hK.out _ _ ⟨(blk_cell (blk_alloc BK133.out _) 0).trans rfl, (blk_cell (blk_alloc BK133.out _) 1).trans rfl, (blk_cell (blk_alloc BK133.out _) 2).trans rfl⟩ (fun hHeld => ?_)
            clear hK K
            refine norm_ (a' := ?_) ?_ ?_
            rotate_left
            ·show Act.put _ (some 31) _ = _
             simp only [Act.put, List.setIfInBounds_toArray, List.set_cons_zero, List.set_cons_succ, i64_w, i32_w]
             rfl
            refine one_ (i := 13) (N := some 32) #[true, true, true, true, true, true, true, true, true, true, true, true, true, true, false] rfl rfl (one_of HT_.out (by kernel_rfl)) (by decide) (fun K hK => ?_)
            refine Kd.R_append_step k73 (w0 := w) w.heap.size (by rfl) (.tmp 19) (.tmp 31) 71 73 (.agg #[(.string ⟨#[]⟩), (.bool false), (.int .i64 0)]) 32 rfl Tryd.underlying71 info73 rfl (by decide) (by omega) u3 x3_1 (⟨((⟨#[65, 66, 67, 68]⟩ : ByteArray).extract (((rd_T54 l0 x12_1).f1) : Int).toNat ((wrap64 (((rd_T54 l0 x12_1).f1) + 1)) : Int).toNat) ++ t134, false, 1⟩ : S73) [.string (((⟨#[65, 66, 67, 68]⟩ : ByteArray).extract (((rd_T54 l0 x12_1).f1) : Int).toNat ((wrap64 (((rd_T54 l0 x12_1).f1) + 1)) : Int).toNat) ++ t134), .bool false, .int .i64 1] (fun _ => True) (fun _ => False) rfl rfl ?aP (fun _ hk => hk.elim) ?aF ?aO ?aB ?aS ?aL ?_
            (case aP => exact k73_mkM _ _ _ (⟨((⟨#[65, 66, 67, 68]⟩ : ByteArray).extract (((rd_T54 l0 x12_1).f1) : Int).toNat ((wrap64 (((rd_T54 l0 x12_1).f1) + 1)) : Int).toNat) ++ t134, false, 1⟩ : S73))
            (case aB => exact (bs_ HB.out GE133.out))
            (case aF => exact (fun _ _ => trivial))
            (case aO => exact (r_ HO_3.out))
            (case aS => exact (below_size (bs_ HB.out GE133.out)))
            (case aL => have := LMc13.out; omega)
            intro v136 w19 ho hb hg hat
            rw [← Ny135.out] at ho
            have n0_ := Aside0.mk (blk_grown (g := gb133) (o := .cells #[.int .i64 ((rd_T54 l0 x12_1).f0), .int .i64 ((rd_T54 l0 x12_1).f1), .int .i64 ((rd_T54 l0 x12_1).f2)] 54 (0, 0)) (bk_ BK133.out) hg (Kd.R_ne HO_3.out BK133.out (by decide))); have n1_ := Aside0.mk (hb); have n2_ := Aside0.mk (ho); clear BK133 HB HO_3; have BK133 := n0_; have HB := n1_; have HO137 := n2_; clear n0_ n1_ n2_ ho hb hg hat
            refine hK.out _ _ ⟨(blk_cell BK133.out 0).trans rfl, (blk_cell BK133.out 1).trans rfl, (blk_cell BK133.out 2).trans rfl⟩ (fun hHeld => ?_)
            clear hK K
            refine norm_ (a' := ?_) ?_ ?_
            rotate_left
            ·show Act.put _ (some 32) _ = _
             simp only [Act.put, List.setIfInBounds_toArray, List.set_cons_zero, List.set_cons_succ, i64_w, i32_w]
             rfl
            refine pure_ (i := 14) (N := some 3) (v := ?_) (a' := ?_) #[true, true, true, true, true, true, true, true, true, true, true, true, true, true, true] rfl rfl (any_of HT_.out (by kernel_rfl)) (fun _ _ _ h => h) (Or.inl ⟨by rfl, ?_⟩) ?_ ?_
            rotate_left
            ·intro w'
             go_simp
             with_reducible rfl
            rotate_left
            ·simp only [Act.put, List.setIfInBounds_toArray, List.set_cons_zero, List.set_cons_succ, i64_w, i32_w]
             rfl
            refine done_ (done_of HT_.out (by kernel_rfl)) ?_
            try go_wp2
            go_roundg k1
            case measure => have := HK1.out; omega
            case rel => exact ⟨(y135), (wrap64 (x12_1 + 1)), si_, H', ⟨by have := HK1.out; omega⟩, ⟨r_ HO137.out⟩, ⟨bs_ HB.out GE133.out⟩⟩
           ·rw [if_neg c13] at H
            exact absurd H (by simp)
          ·rw [if_neg c12] at H
           exact absurd H (by simp)
         ·rw [if_neg c10] at H
          exact absurd H (by simp)
        ·rw [if_neg c9] at H
         exact absurd H (by simp)
       ·rw [if_neg c8] at H
        exact absurd H (by simp)
      ·rw [if_neg c7] at H
       have c7b0 : (((rd_T54 l0 x12_1).f0) == 0) = false := beq_eq_false_iff_ne.mpr c7; have c7b1 : (((rd_T54 l0 x12_1).f0) != 0) = true := bne_iff_ne.mpr c7; obtain ⟨ji20, hji20⟩ : ∃ j_ : Int, (wrap64 ((x3_1.length : Int) - 2)) = j_ := ⟨_, rfl⟩
       first | rw [hji20] at H | simp only [hji20] at H
       have hji20w : (IntKind.i64.wrap ((x3_1.length : Int) - 2)) = ji20 := (i64_w _).trans hji20
       by_cases c21 : 0 ≤ (ji20)
       ·rw [if_pos c21] at H
        have c21b0 : decide (0 ≤ (ji20)) = true := decide_eq_true c21; clear c21
        by_cases c22 : (ji20) < (x3_1.length : Int)
        ·rw [if_pos c22] at H
         have c22b0 : decide ((ji20) < (x3_1.length : Int)) = true := decide_eq_true c22; clear c22; obtain ⟨ji23, hji23⟩ : ∃ j_ : Int, (wrap64 ((x3_1.length : Int) - 1)) = j_ := ⟨_, rfl⟩
         first | rw [hji23] at H | simp only [hji23] at H
         have hji23w : (IntKind.i64.wrap ((x3_1.length : Int) - 1)) = ji23 := (i64_w _).trans hji23
         by_cases c24 : 0 ≤ (ji23)
         ·rw [if_pos c24] at H
          have c24b0 : decide (0 ≤ (ji23)) = true := decide_eq_true c24; clear c24
          by_cases c25 : (ji23) < (x3_1.length : Int)
          ·rw [if_pos c25] at H
           have c25b0 : decide ((ji23) < (x3_1.length : Int)) = true := decide_eq_true c25; clear c25
           by_cases c26 : ((rd_T54 l0 x12_1).f0) = 2
           ·rw [if_pos c26] at H
            have c26b0 : (((rd_T54 l0 x12_1).f0) == 2) = true := beq_iff_eq.mpr c26
            rw [c26b0] at H
            have c26b1 : (((rd_T54 l0 x12_1).f0) != 2) = false := bne_eq_false_iff_eq.mpr c26; clear c26
            by_cases c27 : ((rd_T73 x3_1 (ji20)).f0).size + 1 ≤ 9223372036854775807
            ·rw [if_pos c27] at H
             have c27b0 := eq_true c27; have c27b1 : decide (((rd_T73 x3_1 (ji20)).f0).size + 1 ≤ 9223372036854775807) = true := decide_eq_true c27
             try have c27b2 : (9223372036854775807 < ((rd_T73 x3_1 (ji20)).f0).size + 1) = False := eq_false (Nat.not_lt.2 c27)
             replace H := Option.bind_eq_some_iff.mp H; obtain ⟨t143, A280, H⟩ := H
             try dsimp only at H
             have A28 := Aside0.mk A280; clear A280
             by_cases c29 : (((rd_T73 x3_1 (ji20)).f0) ++ (⟨#[124]⟩ : ByteArray)).size + t143.size ≤ 9223372036854775807
             ·rw [if_pos c29] at H
              have c29b0 := eq_true c29; have c29b1 : decide ((((rd_T73 x3_1 (ji20)).f0) ++ (⟨#[124]⟩ : ByteArray)).size + t143.size ≤ 9223372036854775807) = true := decide_eq_true c29
              try have c29b2 : (9223372036854775807 < (((rd_T73 x3_1 (ji20)).f0) ++ (⟨#[124]⟩ : ByteArray)).size + t143.size) = False := eq_false (Nat.not_lt.2 c29)
              try have c29b3 : (9223372036854775807 < ((rd_T73 x3_1 (ji20)).f0).size + 1 + t143.size) = False := eq_false (Nat.not_lt.2 (by have h_ := c29; simp only [ByteArray.size_append] at h_; exact h_))
              try have c29b4 : (((rd_T73 x3_1 (ji20)).f0).size + 1 + t143.size ≤ 9223372036854775807) = True := eq_true (by have h_ := c29; simp only [ByteArray.size_append] at h_; exact h_)
              by_cases c30 : (ji20) ≤ (x3_1.length : Int)
              ·rw [if_pos c30] at H
               have c30b0 := eq_true c30; have c30b1 : decide ((ji20) ≤ (x3_1.length : Int)) = true := decide_eq_true c30; clear c30; obtain ⟨y144, hy144⟩ : ∃ y_ : List (S73), y_ = (x3_1.take ((ji20) : Int).toNat) := ⟨_, rfl⟩
               replace H : (if y144.length < 4398046511104 then (impl_termText.l0 k1 (y144 ++ [(⟨(((rd_T73 x3_1 (ji20)).f0) ++ (⟨#[124]⟩ : ByteArray)) ++ t143, true, wrap64 ((wrap64 (((rd_T73 x3_1 (ji20)).f2) + ((rd_T73 x3_1 (ji23)).f2))) + 1)⟩ : S73)]) l0 (l0.length : Int) (wrap64 (x12_1 + 1))) else (none)) = some r := by first | (rw [hy144]; with_reducible exact H) | (have H2_ := (Option.bind_some _ _).symm.trans H; rw [hy144]; with_reducible exact H2_) | (have H2_ := (Option.bind_some _ _).symm.trans H; with_reducible exact H2_) | with_reducible exact H | (rw [hy144]; exact H) | exact H
               have Ny144 := Aside0.mk hy144; clear hy144
               by_cases c31 : y144.length < 4398046511104
               ·rw [if_pos c31] at H
                have LMc31 := Aside0.mk c31; clear c31; obtain ⟨y147, hy147⟩ : ∃ y_ : List (S73), y_ = (y144 ++ [(⟨(((rd_T73 x3_1 (ji20)).f0) ++ (⟨#[124]⟩ : ByteArray)) ++ t143, true, wrap64 ((wrap64 (((rd_T73 x3_1 (ji20)).f2) + ((rd_T73 x3_1 (ji23)).f2))) + 1)⟩ : S73)]) := ⟨_, rfl⟩
                replace H : (impl_termText.l0 k1 y147 l0 (l0.length : Int) (wrap64 (x12_1 + 1))) = some r := by first | (rw [hy147]; with_reducible exact H) | (have H2_ := (Option.bind_some _ _).symm.trans H; rw [hy147]; with_reducible exact H2_) | (have H2_ := (Option.bind_some _ _).symm.trans H; with_reducible exact H2_) | with_reducible exact H | (rw [hy147]; exact H) | exact H
                have Ny147 := Aside0.mk hy147; clear hy147; have H' := Aside0.mk H; clear H; have p132 : 0 ≤ (x12_1 : Int) := of_decide_eq_true as_; have q132 : x12_1 < (l0.length : Int) := of_decide_eq_true as_; obtain ⟨ad132, e132, hx132_0, hx132_1, hx132_2⟩ := at_T54 HR0.out x12_1 p132 q132; cases e132; replace hx132_0 := (HB.out.cell (World.block_lt_of_cell? w _ hx132_0)).trans hx132_0; replace hx132_1 := (HB.out.cell (World.block_lt_of_cell? w _ hx132_1)).trans hx132_1; replace hx132_2 := (HB.out.cell (World.block_lt_of_cell? w _ hx132_2)).trans hx132_2; replace p132 := eq_true p132; replace q132 := eq_true q132
                try go_wp2_with (first | ((with_reducible refine gate_dst (N := 5) rfl ?_); refine box_event ?hg (N := 5) ?hd (cs := #[.int .i64 0, .int .i64 0, .int .i64 0]) (t := 54) ?hr ?_; (case hd => rfl); (case hg => rfl); (case hr => first | (go_simp; done) | (go_simp; rfl)); intro gb133 hg w32 hbox hb; have n0_ := Aside0.mk (Kd.R_below (r_ HO_3.out) hb); have n1_ := Aside0.mk (below_step (bl_ HB.out) hb); have n2_ := Aside0.mk (hbox); have n3_ := Aside0.mk ((by rw [hg]; exact (below_size (bl_ HB.out)) : w.heap.size ≤ gb133)); have n4_ := Aside0.mk ((by rw [hg]; exact (below_size (bl_ HB.out)) : w.heap.size ≤ gb133)); clear HO_3; clear HB; have HO_3 := n0_; have HB := n1_; have BK133 := n2_; have GW133 := n3_; have GE133 := n4_; clear n0_ n1_ n2_ n3_ n4_; clear hb hbox hg; have hcz33_0 : w32.cell? ⟨gb133, 0, none⟩ = some (.int .i64 0) := (blk_cell BK133.out 0).trans rfl; have hcz33_1 : w32.cell? ⟨gb133, 1, none⟩ = some (.int .i64 0) := (blk_cell BK133.out 1).trans rfl; have hcz33_2 : w32.cell? ⟨gb133, 2, none⟩ = some (.int .i64 0) := (blk_cell BK133.out 2).trans rfl; have hfz33_0 := blk_frozen BK133.out 0; have hfz33_1 := blk_frozen BK133.out 1; have hfz33_2 := blk_frozen BK133.out 2))
                have n0_ : Aside0 (Kd.R k73 73 (((w32.setCell ⟨gb133, 0, none⟩ (.int .i64 ((rd_T54 l0 x12_1).f0))).setCell ⟨gb133, 1, none⟩ (.int .i64 ((rd_T54 l0 x12_1).f1))).setCell ⟨gb133, 2, none⟩ (.int .i64 ((rd_T54 l0 x12_1).f2))) w.heap.size (fun _ => True) u3 x3_1) := ⟨by (with_reducible repeat (first | apply Kd.R_alloc | apply Kd.R_drewN | apply Kd.R_drew)); exact Kd.R_mono (Kd.R_far (p := ⟨gb133, 2, none⟩) (Kd.R_far (p := ⟨gb133, 1, none⟩) (Kd.R_far (p := ⟨gb133, 0, none⟩) (Kd.R_types HO_3.out BK133.out (by decide)) (fun _ hk => hk.2) (.int .i64 ((rd_T54 l0 x12_1).f0))) (fun _ hk => hk.2) (.int .i64 ((rd_T54 l0 x12_1).f1))) (fun _ hk => hk.2) (.int .i64 ((rd_T54 l0 x12_1).f2))) (fun _ hk => trivial)⟩; have n1_ : Aside0 ((((w32.setCell ⟨gb133, 0, none⟩ (.int .i64 ((rd_T54 l0 x12_1).f0))).setCell ⟨gb133, 1, none⟩ (.int .i64 ((rd_T54 l0 x12_1).f1))).setCell ⟨gb133, 2, none⟩ (.int .i64 ((rd_T54 l0 x12_1).f2))).heap[gb133]? = some (.cells #[.int .i64 ((rd_T54 l0 x12_1).f0), .int .i64 ((rd_T54 l0 x12_1).f1), .int .i64 ((rd_T54 l0 x12_1).f2)] 54 (0, 0))) := ⟨by refine sb_ ?_; refine blk_put (cs := #[.int .i64 ((rd_T54 l0 x12_1).f0), .int .i64 ((rd_T54 l0 x12_1).f1), .int .i64 0]) ?_ 2 _ rfl; refine sb_ ?_; refine blk_put (cs := #[.int .i64 ((rd_T54 l0 x12_1).f0), .int .i64 0, .int .i64 0]) ?_ 1 _ rfl; refine sb_ ?_; refine blk_put (cs := #[.int .i64 0, .int .i64 0, .int .i64 0]) ?_ 0 _ rfl; refine sb_ ?_; exact BK133.out⟩; have n2_ : Aside0 (Below w.heap.size w (((w32.setCell ⟨gb133, 0, none⟩ (.int .i64 ((rd_T54 l0 x12_1).f0))).setCell ⟨gb133, 1, none⟩ (.int .i64 ((rd_T54 l0 x12_1).f1))).setCell ⟨gb133, 2, none⟩ (.int .i64 ((rd_T54 l0 x12_1).f2)))) := ⟨bs_ HB.out GE133.out⟩
                (try clear HO_3)
                (try clear BK133)
                (try clear HB)
                generalize (((w32.setCell ⟨gb133, 0, none⟩ (.int .i64 ((rd_T54 l0 x12_1).f0))).setCell ⟨gb133, 1, none⟩ (.int .i64 ((rd_T54 l0 x12_1).f1))).setCell ⟨gb133, 2, none⟩ (.int .i64 ((rd_T54 l0 x12_1).f2))) = w34 at n0_ n1_ n2_ ⊢
                have HO_3 := n0_; have BK133 := n1_; have HB := n2_; clear n0_ n1_ n2_; have n0_ := Aside0.mk (Kd.R_drew HO_3.out); have n1_ := Aside0.mk (blk_drew BK133.out); have n2_ := Aside0.mk (below_drew1 HB.out); clear HO_3 BK133 HB; have HO_3 := n0_; have BK133 := n1_; have HB := n2_; clear n0_ n1_ n2_; obtain ⟨Ao36, co36, eo36⟩ := Kd.R_slice HO_3.out
                (first | subst eo36 | (injection eo36 with f1_ f2_ f3_; have f4_ := f1_.symm; have f5_ := f3_.symm; clear f1_ f2_ f3_; subst f4_; subst f5_))
                have p138 : 0 ≤ ((ji20) : Int) := of_decide_eq_true as_; have q138 : (ji20) < (x3_1.length : Int) := of_decide_eq_true as_; obtain ⟨ad138, e138, hx138_0, hx138_1, hx138_2⟩ := at_T73 (Kd.R_reads' HO_3.out).2.2 (ji20) p138 q138; cases e138; replace p138 := eq_true p138; replace q138 := eq_true q138; have p139 : 0 ≤ ((ji23) : Int) := of_decide_eq_true as_; have q139 : (ji23) < (x3_1.length : Int) := of_decide_eq_true as_; obtain ⟨ad139, e139, hx139_0, hx139_1, hx139_2⟩ := at_T73 (Kd.R_reads' HO_3.out).2.2 (ji23) p139 q139; obtain rfl : ad138 = ad139 := (by injection e139); replace p139 := eq_true p139; replace q139 := eq_true q139
                refine start_ (n := 16) (S := fun w' => w'.cell? (ad138.add (((ji20)).toNat * 3)) = some (.string ((rd_T73 x3_1 (ji20)).f0)) ∧ w'.cell? ⟨(ad138.add (((ji20)).toNat * 3)).block, (ad138.add (((ji20)).toNat * 3)).off + 1, none⟩ = some (.bool ((rd_T73 x3_1 (ji20)).f1)) ∧ w'.cell? ⟨(ad138.add (((ji20)).toNat * 3)).block, (ad138.add (((ji20)).toNat * 3)).off + 2, none⟩ = some (.int .i64 ((rd_T73 x3_1 (ji20)).f2)) ∧ w'.cell? (ad138.add (((ji23)).toNat * 3)) = some (.string ((rd_T73 x3_1 (ji23)).f0)) ∧ w'.cell? ⟨(ad138.add (((ji23)).toNat * 3)).block, (ad138.add (((ji23)).toNat * 3)).off + 1, none⟩ = some (.bool ((rd_T73 x3_1 (ji23)).f1)) ∧ w'.cell? ⟨(ad138.add (((ji23)).toNat * 3)).block, (ad138.add (((ji23)).toNat * 3)).off + 2, none⟩ = some (.int .i64 ((rd_T73 x3_1 (ji23)).f2))) (ds := []) #[false, false, false, false, false, false, false, false, false, false, false, false, false, false, false, false] (by kernel_rfl) rfl rfl ⟨hx138_0, hx138_1, hx138_2, hx139_0, hx139_1, hx139_2⟩ (fun hHeld => ?_); refine with_tabW impl_termText.tab7 impl_termText.bits7 (fun HT_ HW_ => ?_)
                generalize w34.drew = w35 at HO_3 BK133 HB hx138_0 hx138_1 hx138_2 hx139_0 hx139_1 hx139_2 hHeld ⊢
                refine pure_ (i := 0) (N := some 33) (v := ?_) (a' := ?_) #[true, false, false, false, false, false, false, false, false, false, false, false, false, false, false, false] rfl rfl (any_of HT_.out (by kernel_rfl)) (fun _ _ _ h => h) (Or.inl ⟨by rfl, ?_⟩) ?_ ?_
                rotate_left
                ·intro w'
                 go_simp
                 with_reducible rfl
                rotate_left
                ·simp only [Act.put, List.setIfInBounds_toArray, List.set_cons_zero, List.set_cons_succ, i64_w, i32_w]
                 rfl
                refine pure_ (i := 1) (N := some 34) (v := ?_) (a' := ?_) #[true, true, false, false, false, false, false, false, false, false, false, false, false, false, false, false] rfl rfl (any_of HT_.out (by kernel_rfl)) (fun _ _ _ h => h) (Or.inl ⟨by rfl, ?_⟩) ?_ ?_
                rotate_left
                ·intro w'
                 go_simp
                 with_reducible rfl
                rotate_left
                ·simp only [Act.put, List.setIfInBounds_toArray, List.set_cons_zero, List.set_cons_succ, i64_w, i32_w]
                 rfl
                refine pure_ (i := 2) (N := some 35) (v := ?_) (a' := ?_) #[true, true, true, false, false, false, false, false, false, false, false, false, false, false, false, false] rfl rfl (any_of HT_.out (by kernel_rfl)) (fun _ _ _ h => h) (Or.inl ⟨by rfl, ?_⟩) ?_ ?_
                rotate_left
                ·intro w'
                 go_simp
                 with_reducible rfl
                rotate_left
                ·simp only [Act.put, List.setIfInBounds_toArray, List.set_cons_zero, List.set_cons_succ, i64_w, i32_w]
                 rfl
                refine pure_ (i := 3) (N := some 36) (v := ?_) (a' := ?_) #[true, true, true, true, false, false, false, false, false, false, false, false, false, false, false, false] rfl rfl (any_of HT_.out (by kernel_rfl)) (fun _ _ _ h => h) (Or.inl ⟨by rfl, ?_⟩) ?_ ?_
                rotate_left
                ·intro w'
                 go_simp
                 with_reducible rfl
                rotate_left
                ·simp only [Act.put, List.setIfInBounds_toArray, List.set_cons_zero, List.set_cons_succ, i64_w, i32_w]
                 rfl
                refine pure_ (i := 4) (N := some 37) (v := ?_) (a' := ?_) #[true, true, true, true, true, false, false, false, false, false, false, false, false, false, false, false] rfl rfl (any_of HT_.out (by kernel_rfl)) (fun _ _ _ h => h) (Or.inl ⟨by rfl, ?_⟩) ?_ ?_
                rotate_left
                ·intro w'
                 go_simp
                 with_reducible rfl
                rotate_left
                ·simp only [Act.put, List.setIfInBounds_toArray, List.set_cons_zero, List.set_cons_succ, i64_w, i32_w]
                 rfl
                refine pure_ (i := 6) (N := some 39) (v := ?_) (a' := ?_) #[true, true, true, true, true, false, true, false, false, false, false, false, false, false, false, false] rfl rfl (any_of HT_.out (by kernel_rfl)) (fun _ _ _ h => h) (Or.inl ⟨by rfl, ?_⟩) ?_ ?_
                rotate_left
                ·intro w'
                 go_simp
                 with_reducible rfl
                rotate_left
                ·simp only [Act.put, List.setIfInBounds_toArray, List.set_cons_zero, List.set_cons_succ, i64_w, i32_w]
                 rfl
                refine pure_ (i := 7) (N := some 40) (v := ?_) (a' := ?_) #[true, true, true, true, true, false, true, true, false, false, false, false, false, false, false, false] rfl rfl (any_of HT_.out (by kernel_rfl)) (fun _ _ _ h => h) (Or.inl ⟨by rfl, ?_⟩) ?_ ?_
                rotate_left
                ·intro w'
                 go_simp
                 with_reducible rfl
                rotate_left
                ·simp only [Act.put, List.setIfInBounds_toArray, List.set_cons_zero, List.set_cons_succ, i64_w, i32_w]
                 rfl
                refine pure_ (i := 8) (N := some 41) (v := ?_) (a' := ?_) #[true, true, true, true, true, false, true, true, true, false, false, false, false, false, false, false] rfl rfl (any_of HT_.out (by kernel_rfl)) (fun _ _ _ h => h) (Or.inl ⟨by rfl, ?_⟩) ?_ ?_
                rotate_left
                ·intro w'
                 go_simp
                 with_reducible rfl
                rotate_left
                ·simp only [Act.put, List.setIfInBounds_toArray, List.set_cons_zero, List.set_cons_succ, i64_w, i32_w]
                 rfl
                refine pure_ (i := 9) (N := some 42) (v := ?_) (a' := ?_) #[true, true, true, true, true, false, true, true, true, true, false, false, false, false, false, false] rfl rfl (any_of HT_.out (by kernel_rfl)) (fun _ _ _ h => h) (Or.inl ⟨by rfl, ?_⟩) ?_ ?_
                rotate_left
                ·intro w'
                 go_simp
                 with_reducible rfl
                rotate_left
                ·simp only [Act.put, List.setIfInBounds_toArray, List.set_cons_zero, List.set_cons_succ, i64_w, i32_w]
                 rfl
                refine pure_ (i := 10) (N := some 43) (v := ?_) (a' := ?_) #[true, true, true, true, true, false, true, true, true, true, true, false, false, false, false, false] rfl rfl (any_of HT_.out (by kernel_rfl)) (fun _ _ _ h => h) (Or.inl ⟨by rfl, ?_⟩) ?_ ?_
                rotate_left
                ·intro w'
                 go_simp
                 with_reducible rfl
                rotate_left
                ·simp only [Act.put, List.setIfInBounds_toArray, List.set_cons_zero, List.set_cons_succ, i64_w, i32_w]
                 rfl
                refine take_ (i := 5) (N := some 38) (v := ?_) (a' := ?_) #[true, true, true, true, true, true, true, true, true, true, true, false, false, false, false, false] rfl rfl (take_ofW HT_.out HW_.out (by kernel_rfl)) (fun _ _ _ h => h) (Or.inl ⟨by rfl, ?_⟩) hHeld ?_ ?_
                rotate_left
                ·rintro w' ⟨s0, s1, s2, s3, s4, s5⟩
                 go_simp
                 with_reducible rfl
                rotate_left
                ·simp only [Act.put, List.setIfInBounds_toArray, List.set_cons_zero, List.set_cons_succ, i64_w, i32_w]
                 rfl
                refine take_ (i := 11) (N := some 44) (v := ?_) (a' := ?_) #[true, true, true, true, true, true, true, true, true, true, true, true, false, false, false, false] rfl rfl (take_ofW HT_.out HW_.out (by kernel_rfl)) (fun _ _ _ h => h) (Or.inl ⟨by rfl, ?_⟩) hHeld ?_ ?_
                rotate_left
                ·rintro w' ⟨s0, s1, s2, s3, s4, s5⟩
                 go_simp
                 with_reducible rfl
                rotate_left
                ·simp only [Act.put, List.setIfInBounds_toArray, List.set_cons_zero, List.set_cons_succ, i64_w, i32_w]
                 rfl
                refine join_ (σ := Nat × Nat) 2 #[true, true, true, true, true, true, true, true, true, true, true, true, true, true, false, false] (fun s_ => [(6, .pointer (some ⟨s_.1, 0, none⟩)), (7, .pointer (some ⟨s_.2, 0, none⟩))]) (fun s_ w' => (w'.cell? (ad138.add (((ji20)).toNat * 3)) = some (.string ((rd_T73 x3_1 (ji20)).f0)) ∧ w'.cell? ⟨(ad138.add (((ji20)).toNat * 3)).block, (ad138.add (((ji20)).toNat * 3)).off + 1, none⟩ = some (.bool ((rd_T73 x3_1 (ji20)).f1)) ∧ w'.cell? ⟨(ad138.add (((ji20)).toNat * 3)).block, (ad138.add (((ji20)).toNat * 3)).off + 2, none⟩ = some (.int .i64 ((rd_T73 x3_1 (ji20)).f2)) ∧ w'.cell? (ad138.add (((ji23)).toNat * 3)) = some (.string ((rd_T73 x3_1 (ji23)).f0)) ∧ w'.cell? ⟨(ad138.add (((ji23)).toNat * 3)).block, (ad138.add (((ji23)).toNat * 3)).off + 1, none⟩ = some (.bool ((rd_T73 x3_1 (ji23)).f1)) ∧ w'.cell? ⟨(ad138.add (((ji23)).toNat * 3)).block, (ad138.add (((ji23)).toNat * 3)).off + 2, none⟩ = some (.int .i64 ((rd_T73 x3_1 (ji23)).f2))) ∧ (Kd.R k73 73 w' w.heap.size (fun k_ => k_ ≠ s_.1 ∧ k_ ≠ s_.2) (.slice (some ad138) x3_1.length co36) x3_1) ∧ (w'.heap[gb133]? = some (.cells #[.int .i64 ((rd_T54 l0 x12_1).f0), .int .i64 ((rd_T54 l0 x12_1).f1), .int .i64 ((rd_T54 l0 x12_1).f2)] 54 (0, 0))) ∧ (w'.heap[s_.1]? = some (.cells #[.string (⟨#[]⟩ : ByteArray), .bool false, .int .i64 0] 73 (0, 0))) ∧ (w'.heap[s_.2]? = some (.cells #[.string (⟨#[]⟩ : ByteArray), .bool false, .int .i64 0] 73 (0, 0))) ∧ (w.heap.size ≤ s_.1) ∧ (w.heap.size ≤ s_.1) ∧ (gb133 ≠ s_.1) ∧ (s_.1 ≠ gb133) ∧ (s_.2 ≠ s_.1) ∧ (s_.1 ≠ s_.2) ∧ (w.heap.size ≤ s_.2) ∧ (w.heap.size ≤ s_.2) ∧ (gb133 ≠ s_.2) ∧ (s_.2 ≠ gb133) ∧ (Below w.heap.size w w')) ?_ ?_
                rotate_left
                ·intro hCont
                 refine two_ (i := 12) (j := 13) (Ni := some 6) (Nj := some 7) #[true, true, true, true, true, true, true, true, true, true, true, true, true, false, false, false] #[true, true, true, true, true, true, true, true, true, true, true, true, false, true, false, false] rfl rfl rfl rfl (two_of HT_.out (by kernel_rfl)) (by decide) (by decide) (fun K hK => ?_) (fun K hK => ?_)
                 ·skip
                  refine box_step ?hg (N := 6) ?hd (cs := #[.string (⟨#[]⟩ : ByteArray), .bool false, .int .i64 0]) (t := 73) ?hr ?_; (case hd => rfl); (case hg => rfl); (case hr => first | (go_simp; done) | (go_simp; rfl))
                  intro gb140 hg w37 hbox hb; have HS0_ := (hb.cell (World.block_lt_of_cell? _ _ (hHeld.1))).trans (hHeld.1); have HS1_ := (hb.cell (World.block_lt_of_cell? _ _ (hHeld.2.1))).trans (hHeld.2.1); have HS2_ := (hb.cell (World.block_lt_of_cell? _ _ (hHeld.2.2.1))).trans (hHeld.2.2.1); have HS3_ := (hb.cell (World.block_lt_of_cell? _ _ (hHeld.2.2.2.1))).trans (hHeld.2.2.2.1); have HS4_ := (hb.cell (World.block_lt_of_cell? _ _ (hHeld.2.2.2.2.1))).trans (hHeld.2.2.2.2.1); have HS5_ := (hb.cell (World.block_lt_of_cell? _ _ (hHeld.2.2.2.2.2))).trans (hHeld.2.2.2.2.2); have n0_ := Aside0.mk (Kd.R_below (Kd.R_elderB (r_ HO_3.out) gb140 (Nat.le_of_eq hg.symm)) hb); have n1_ := Aside0.mk (blk_below (g := gb133) (o := .cells #[.int .i64 ((rd_T54 l0 x12_1).f0), .int .i64 ((rd_T54 l0 x12_1).f1), .int .i64 ((rd_T54 l0 x12_1).f2)] 54 (0, 0)) (bk_ BK133.out) hb); have n2_ := Aside0.mk (below_step (bs_ HB.out GE133.out) hb); have n3_ := Aside0.mk (hbox); have n4_ := Aside0.mk ((by rw [hg]; exact (below_size (bs_ HB.out GE133.out)) : w.heap.size ≤ gb140)); have n5_ := Aside0.mk ((by rw [hg]; exact (below_size (bs_ HB.out GE133.out)) : w.heap.size ≤ gb140)); have n6_ := Aside0.mk ((by rw [hg]; exact Nat.ne_of_lt (blk_lt (g := gb133) (o := .cells #[.int .i64 ((rd_T54 l0 x12_1).f0), .int .i64 ((rd_T54 l0 x12_1).f1), .int .i64 ((rd_T54 l0 x12_1).f2)] 54 (0, 0)) (bk_ BK133.out)) : gb133 ≠ gb140)); have n7_ := Aside0.mk ((by rw [hg]; exact Nat.ne_of_gt (blk_lt (g := gb133) (o := .cells #[.int .i64 ((rd_T54 l0 x12_1).f0), .int .i64 ((rd_T54 l0 x12_1).f1), .int .i64 ((rd_T54 l0 x12_1).f2)] 54 (0, 0)) (bk_ BK133.out)) : gb140 ≠ gb133)); clear HO_3 BK133 HB; have HO_3 := n0_; have BK133 := n1_; have HB := n2_; have BK140 := n3_; have GW140 := n4_; have GE140 := n5_; have NB133_140 := n6_; have NB140_133 := n7_; clear n0_ n1_ n2_ n3_ n4_ n5_ n6_ n7_ hb hbox hg
                  refine hK.out _ _ ⟨HS0_, HS1_, HS2_, HS3_, HS4_, HS5_⟩ (fun hHeld => ?_)
                  clear hK K
                  refine norm_ (a' := ?_) ?_ ?_
                  rotate_left
                  ·show Act.put _ (some 6) _ = _
                   simp only [Act.put, List.setIfInBounds_toArray, List.set_cons_zero, List.set_cons_succ, i64_w, i32_w]
                   rfl
                  refine one_ (i := 13) (N := some 7) #[true, true, true, true, true, true, true, true, true, true, true, true, true, true, false, false] rfl rfl (one_of HT_.out (by kernel_rfl)) (by decide) (fun K hK => ?_)
                  refine box_step ?hg (N := 7) ?hd (cs := #[.string (⟨#[]⟩ : ByteArray), .bool false, .int .i64 0]) (t := 73) ?hr ?_; (case hd => rfl); (case hg => rfl); (case hr => first | (go_simp; done) | (go_simp; rfl))
                  intro gb141 hg w38 hbox hb; have HS0_ := (hb.cell (World.block_lt_of_cell? _ _ (hHeld.1))).trans (hHeld.1); have HS1_ := (hb.cell (World.block_lt_of_cell? _ _ (hHeld.2.1))).trans (hHeld.2.1); have HS2_ := (hb.cell (World.block_lt_of_cell? _ _ (hHeld.2.2.1))).trans (hHeld.2.2.1); have HS3_ := (hb.cell (World.block_lt_of_cell? _ _ (hHeld.2.2.2.1))).trans (hHeld.2.2.2.1); have HS4_ := (hb.cell (World.block_lt_of_cell? _ _ (hHeld.2.2.2.2.1))).trans (hHeld.2.2.2.2.1); have HS5_ := (hb.cell (World.block_lt_of_cell? _ _ (hHeld.2.2.2.2.2))).trans (hHeld.2.2.2.2.2); have n0_ := Aside0.mk (Kd.R_below (Kd.R_elderB (r_ HO_3.out) gb141 (Nat.le_of_eq hg.symm)) hb); have n1_ := Aside0.mk (blk_below (g := gb133) (o := .cells #[.int .i64 ((rd_T54 l0 x12_1).f0), .int .i64 ((rd_T54 l0 x12_1).f1), .int .i64 ((rd_T54 l0 x12_1).f2)] 54 (0, 0)) (bk_ BK133.out) hb); have n2_ := Aside0.mk (blk_below (g := gb140) (o := .cells #[.string (⟨#[]⟩ : ByteArray), .bool false, .int .i64 0] 73 (0, 0)) (bk_ BK140.out) hb); have n3_ := Aside0.mk (below_step (bt_ HB.out GE133.out GE140.out) hb); have n4_ := Aside0.mk (hbox); have n5_ := Aside0.mk ((by rw [hg]; exact (below_size (bt_ HB.out GE133.out GE140.out)) : w.heap.size ≤ gb141)); have n6_ := Aside0.mk ((by rw [hg]; exact (below_size (bt_ HB.out GE133.out GE140.out)) : w.heap.size ≤ gb141)); have n7_ := Aside0.mk ((by rw [hg]; exact Nat.ne_of_lt (blk_lt (g := gb133) (o := .cells #[.int .i64 ((rd_T54 l0 x12_1).f0), .int .i64 ((rd_T54 l0 x12_1).f1), .int .i64 ((rd_T54 l0 x12_1).f2)] 54 (0, 0)) (bk_ BK133.out)) : gb133 ≠ gb141)); have n8_ := Aside0.mk ((by rw [hg]; exact Nat.ne_of_gt (blk_lt (g := gb133) (o := .cells #[.int .i64 ((rd_T54 l0 x12_1).f0), .int .i64 ((rd_T54 l0 x12_1).f1), .int .i64 ((rd_T54 l0 x12_1).f2)] 54 (0, 0)) (bk_ BK133.out)) : gb141 ≠ gb133)); have n9_ := Aside0.mk ((by rw [hg]; exact Nat.ne_of_lt (blk_lt (g := gb140) (o := .cells #[.string (⟨#[]⟩ : ByteArray), .bool false, .int .i64 0] 73 (0, 0)) (bk_ BK140.out)) : gb140 ≠ gb141)); have n10_ := Aside0.mk ((by rw [hg]; exact Nat.ne_of_gt (blk_lt (g := gb140) (o := .cells #[.string (⟨#[]⟩ : ByteArray), .bool false, .int .i64 0] 73 (0, 0)) (bk_ BK140.out)) : gb141 ≠ gb140)); clear HO_3 BK133 BK140 HB; have HO_3 := n0_; have BK133 := n1_; have BK140 := n2_; have HB := n3_; have BK141 := n4_; have GW141 := n5_; have GE141 := n6_; have NB133_141 := n7_; have NB141_133 := n8_; have NB140_141 := n9_; have NB141_140 := n10_; clear n0_ n1_ n2_ n3_ n4_ n5_ n6_ n7_ n8_ n9_ n10_ hb hbox hg
                  refine hK.out _ _ ⟨HS0_, HS1_, HS2_, HS3_, HS4_, HS5_⟩ (fun hHeld => ?_)
                  clear hK K
                  refine norm_ (a' := ?_) ?_ ?_
                  rotate_left
                  ·show Act.put _ (some 7) _ = _
                   simp only [Act.put, List.setIfInBounds_toArray, List.set_cons_zero, List.set_cons_succ, i64_w, i32_w]
                   rfl
                  exact norm_ (by simp only [putAll, Act.put, List.setIfInBounds_toArray, List.set_cons_zero, List.set_cons_succ]) (hCont (gb140, gb141) _ ⟨hHeld, (by (with_reducible repeat (first | apply Kd.R_alloc | apply Kd.R_drewN | apply Kd.R_drew)); exact Kd.R_mono HO_3.out (fun _ hk => ⟨hk.1.2, hk.2⟩)), (bk_ BK133.out), (bk_ BK140.out), (bk_ BK141.out), GW140.out, GE140.out, NB133_140.out, NB140_133.out, NB141_140.out, NB140_141.out, GW141.out, GE141.out, NB133_141.out, NB141_133.out, (bu_ HB.out GE133.out GE140.out GE141.out)⟩)
                 ·skip
                  refine box_step ?hg (N := 7) ?hd (cs := #[.string (⟨#[]⟩ : ByteArray), .bool false, .int .i64 0]) (t := 73) ?hr ?_; (case hd => rfl); (case hg => rfl); (case hr => first | (go_simp; done) | (go_simp; rfl))
                  intro gb141 hg w37 hbox hb; have HS0_ := (hb.cell (World.block_lt_of_cell? _ _ (hHeld.1))).trans (hHeld.1); have HS1_ := (hb.cell (World.block_lt_of_cell? _ _ (hHeld.2.1))).trans (hHeld.2.1); have HS2_ := (hb.cell (World.block_lt_of_cell? _ _ (hHeld.2.2.1))).trans (hHeld.2.2.1); have HS3_ := (hb.cell (World.block_lt_of_cell? _ _ (hHeld.2.2.2.1))).trans (hHeld.2.2.2.1); have HS4_ := (hb.cell (World.block_lt_of_cell? _ _ (hHeld.2.2.2.2.1))).trans (hHeld.2.2.2.2.1); have HS5_ := (hb.cell (World.block_lt_of_cell? _ _ (hHeld.2.2.2.2.2))).trans (hHeld.2.2.2.2.2); have n0_ := Aside0.mk (Kd.R_below (Kd.R_elderB (r_ HO_3.out) gb141 (Nat.le_of_eq hg.symm)) hb); have n1_ := Aside0.mk (blk_below (g := gb133) (o := .cells #[.int .i64 ((rd_T54 l0 x12_1).f0), .int .i64 ((rd_T54 l0 x12_1).f1), .int .i64 ((rd_T54 l0 x12_1).f2)] 54 (0, 0)) (bk_ BK133.out) hb); have n2_ := Aside0.mk (below_step (bs_ HB.out GE133.out) hb); have n3_ := Aside0.mk (hbox); have n4_ := Aside0.mk ((by rw [hg]; exact (below_size (bs_ HB.out GE133.out)) : w.heap.size ≤ gb141)); have n5_ := Aside0.mk ((by rw [hg]; exact (below_size (bs_ HB.out GE133.out)) : w.heap.size ≤ gb141)); have n6_ := Aside0.mk ((by rw [hg]; exact Nat.ne_of_lt (blk_lt (g := gb133) (o := .cells #[.int .i64 ((rd_T54 l0 x12_1).f0), .int .i64 ((rd_T54 l0 x12_1).f1), .int .i64 ((rd_T54 l0 x12_1).f2)] 54 (0, 0)) (bk_ BK133.out)) : gb133 ≠ gb141)); have n7_ := Aside0.mk ((by rw [hg]; exact Nat.ne_of_gt (blk_lt (g := gb133) (o := .cells #[.int .i64 ((rd_T54 l0 x12_1).f0), .int .i64 ((rd_T54 l0 x12_1).f1), .int .i64 ((rd_T54 l0 x12_1).f2)] 54 (0, 0)) (bk_ BK133.out)) : gb141 ≠ gb133)); clear HO_3 BK133 HB; have HO_3 := n0_; have BK133 := n1_; have HB := n2_; have BK141 := n3_; have GW141 := n4_; have GE141 := n5_; have NB133_141 := n6_; have NB141_133 := n7_; clear n0_ n1_ n2_ n3_ n4_ n5_ n6_ n7_ hb hbox hg
                  refine hK.out _ _ ⟨HS0_, HS1_, HS2_, HS3_, HS4_, HS5_⟩ (fun hHeld => ?_)
                  clear hK K
                  refine norm_ (a' := ?_) ?_ ?_
                  rotate_left
                  ·show Act.put _ (some 7) _ = _
                   simp only [Act.put, List.setIfInBounds_toArray, List.set_cons_zero, List.set_cons_succ, i64_w, i32_w]
                   rfl
                  refine one_ (i := 12) (N := some 6) #[true, true, true, true, true, true, true, true, true, true, true, true, true, true, false, false] rfl rfl (one_of HT_.out (by kernel_rfl)) (by decide) (fun K hK => ?_)
                  refine box_step ?hg (N := 6) ?hd (cs := #[.string (⟨#[]⟩ : ByteArray), .bool false, .int .i64 0]) (t := 73) ?hr ?_; (case hd => rfl); (case hg => rfl); (case hr => first | (go_simp; done) | (go_simp; rfl))
                  intro gb140 hg w38 hbox hb; have HS0_ := (hb.cell (World.block_lt_of_cell? _ _ (hHeld.1))).trans (hHeld.1); have HS1_ := (hb.cell (World.block_lt_of_cell? _ _ (hHeld.2.1))).trans (hHeld.2.1); have HS2_ := (hb.cell (World.block_lt_of_cell? _ _ (hHeld.2.2.1))).trans (hHeld.2.2.1); have HS3_ := (hb.cell (World.block_lt_of_cell? _ _ (hHeld.2.2.2.1))).trans (hHeld.2.2.2.1); have HS4_ := (hb.cell (World.block_lt_of_cell? _ _ (hHeld.2.2.2.2.1))).trans (hHeld.2.2.2.2.1); have HS5_ := (hb.cell (World.block_lt_of_cell? _ _ (hHeld.2.2.2.2.2))).trans (hHeld.2.2.2.2.2); have n0_ := Aside0.mk (Kd.R_below (Kd.R_elderB (r_ HO_3.out) gb140 (Nat.le_of_eq hg.symm)) hb); have n1_ := Aside0.mk (blk_below (g := gb133) (o := .cells #[.int .i64 ((rd_T54 l0 x12_1).f0), .int .i64 ((rd_T54 l0 x12_1).f1), .int .i64 ((rd_T54 l0 x12_1).f2)] 54 (0, 0)) (bk_ BK133.out) hb); have n2_ := Aside0.mk (blk_below (g := gb141) (o := .cells #[.string (⟨#[]⟩ : ByteArray), .bool false, .int .i64 0] 73 (0, 0)) (bk_ BK141.out) hb); have n3_ := Aside0.mk (below_step (bt_ HB.out GE133.out GE141.out) hb); have n4_ := Aside0.mk (hbox); have n5_ := Aside0.mk ((by rw [hg]; exact (below_size (bt_ HB.out GE133.out GE141.out)) : w.heap.size ≤ gb140)); have n6_ := Aside0.mk ((by rw [hg]; exact (below_size (bt_ HB.out GE133.out GE141.out)) : w.heap.size ≤ gb140)); have n7_ := Aside0.mk ((by rw [hg]; exact Nat.ne_of_lt (blk_lt (g := gb133) (o := .cells #[.int .i64 ((rd_T54 l0 x12_1).f0), .int .i64 ((rd_T54 l0 x12_1).f1), .int .i64 ((rd_T54 l0 x12_1).f2)] 54 (0, 0)) (bk_ BK133.out)) : gb133 ≠ gb140)); have n8_ := Aside0.mk ((by rw [hg]; exact Nat.ne_of_gt (blk_lt (g := gb133) (o := .cells #[.int .i64 ((rd_T54 l0 x12_1).f0), .int .i64 ((rd_T54 l0 x12_1).f1), .int .i64 ((rd_T54 l0 x12_1).f2)] 54 (0, 0)) (bk_ BK133.out)) : gb140 ≠ gb133)); have n9_ := Aside0.mk ((by rw [hg]; exact Nat.ne_of_lt (blk_lt (g := gb141) (o := .cells #[.string (⟨#[]⟩ : ByteArray), .bool false, .int .i64 0] 73 (0, 0)) (bk_ BK141.out)) : gb141 ≠ gb140)); have n10_ := Aside0.mk ((by rw [hg]; exact Nat.ne_of_gt (blk_lt (g := gb141) (o := .cells #[.string (⟨#[]⟩ : ByteArray), .bool false, .int .i64 0] 73 (0, 0)) (bk_ BK141.out)) : gb140 ≠ gb141)); clear HO_3 BK133 BK141 HB; have HO_3 := n0_; have BK133 := n1_; have BK141 := n2_; have HB := n3_; have BK140 := n4_; have GW140 := n5_; have GE140 := n6_; have NB133_140 := n7_; have NB140_133 := n8_; have NB141_140 := n9_; have NB140_141 := n10_; clear n0_ n1_ n2_ n3_ n4_ n5_ n6_ n7_ n8_ n9_ n10_ hb hbox hg
                  refine hK.out _ _ ⟨HS0_, HS1_, HS2_, HS3_, HS4_, HS5_⟩ (fun hHeld => ?_)
                  clear hK K
                  refine norm_ (a' := ?_) ?_ ?_
                  rotate_left
                  ·show Act.put _ (some 6) _ = _
                   simp only [Act.put, List.setIfInBounds_toArray, List.set_cons_zero, List.set_cons_succ, i64_w, i32_w]
                   rfl
                  exact norm_ (by simp only [putAll, Act.put, List.setIfInBounds_toArray, List.set_cons_zero, List.set_cons_succ]) (hCont (gb140, gb141) _ ⟨hHeld, (by (with_reducible repeat (first | apply Kd.R_alloc | apply Kd.R_drewN | apply Kd.R_drew)); exact Kd.R_mono HO_3.out (fun _ hk => ⟨hk.2, hk.1.2⟩)), (bk_ BK133.out), (bk_ BK140.out), (bk_ BK141.out), GW140.out, GE140.out, NB133_140.out, NB140_133.out, NB141_140.out, NB140_141.out, GW141.out, GE141.out, NB133_141.out, NB141_133.out, (bu_ HB.out GE133.out GE141.out GE140.out)⟩)
                rintro ⟨gb140, gb141⟩ w39 ⟨hS_, h0_, h1_, h2_, h3_, h4_, h5_, h6_, h7_, h8_, h9_, h10_, h11_, h12_, h13_, h14_⟩; have n0_ : Aside0 (Kd.R k73 73 w39 w.heap.size (fun k_ => k_ ≠ gb140 ∧ k_ ≠ gb141) (.slice (some ad138) x3_1.length co36) x3_1) := ⟨h0_⟩; have n1_ : Aside0 (w39.heap[gb133]? = some (.cells #[.int .i64 ((rd_T54 l0 x12_1).f0), .int .i64 ((rd_T54 l0 x12_1).f1), .int .i64 ((rd_T54 l0 x12_1).f2)] 54 (0, 0))) := ⟨h1_⟩; have n2_ : Aside0 (w39.heap[gb140]? = some (.cells #[.string (⟨#[]⟩ : ByteArray), .bool false, .int .i64 0] 73 (0, 0))) := ⟨h2_⟩; have n3_ : Aside0 (w39.heap[gb141]? = some (.cells #[.string (⟨#[]⟩ : ByteArray), .bool false, .int .i64 0] 73 (0, 0))) := ⟨h3_⟩; have n4_ : Aside0 (w.heap.size ≤ gb140) := ⟨h4_⟩; have n5_ : Aside0 (w.heap.size ≤ gb140) := ⟨h5_⟩; have n6_ : Aside0 (gb133 ≠ gb140) := ⟨h6_⟩; have n7_ : Aside0 (gb140 ≠ gb133) := ⟨h7_⟩; have n8_ : Aside0 (gb141 ≠ gb140) := ⟨h8_⟩; have n9_ : Aside0 (gb140 ≠ gb141) := ⟨h9_⟩; have n10_ : Aside0 (w.heap.size ≤ gb141) := ⟨h10_⟩; have n11_ : Aside0 (w.heap.size ≤ gb141) := ⟨h11_⟩; have n12_ : Aside0 (gb133 ≠ gb141) := ⟨h12_⟩; have n13_ : Aside0 (gb141 ≠ gb133) := ⟨h13_⟩; have n14_ : Aside0 (Below w.heap.size w w39) := ⟨h14_⟩; clear HO_3 BK133 HB h0_ h1_ h2_ h3_ h4_ h5_ h6_ h7_ h8_ h9_ h10_ h11_ h12_ h13_ h14_; have HO_3 := n0_; have BK133 := n1_; have BK140 := n2_; have BK141 := n3_; have GW140 := n4_; have GE140 := n5_; have NB133_140 := n6_; have NB140_133 := n7_; have NB141_140 := n8_; have NB140_141 := n9_; have GW141 := n10_; have GE141 := n11_; have NB133_141 := n12_; have NB141_133 := n13_; have HB := n14_; clear n0_ n1_ n2_ n3_ n4_ n5_ n6_ n7_ n8_ n9_ n10_ n11_ n12_ n13_ n14_; have hHeld : w39.cell? (ad138.add (((ji20)).toNat * 3)) = some (.string ((rd_T73 x3_1 (ji20)).f0)) ∧ w39.cell? ⟨(ad138.add (((ji20)).toNat * 3)).block, (ad138.add (((ji20)).toNat * 3)).off + 1, none⟩ = some (.bool ((rd_T73 x3_1 (ji20)).f1)) ∧ w39.cell? ⟨(ad138.add (((ji20)).toNat * 3)).block, (ad138.add (((ji20)).toNat * 3)).off + 2, none⟩ = some (.int .i64 ((rd_T73 x3_1 (ji20)).f2)) ∧ w39.cell? (ad138.add (((ji23)).toNat * 3)) = some (.string ((rd_T73 x3_1 (ji23)).f0)) ∧ w39.cell? ⟨(ad138.add (((ji23)).toNat * 3)).block, (ad138.add (((ji23)).toNat * 3)).off + 1, none⟩ = some (.bool ((rd_T73 x3_1 (ji23)).f1)) ∧ w39.cell? ⟨(ad138.add (((ji23)).toNat * 3)).block, (ad138.add (((ji23)).toNat * 3)).off + 2, none⟩ = some (.int .i64 ((rd_T73 x3_1 (ji23)).f2)) := hS_
                refine norm_ (a' := ?_) ?_ ?_
                rotate_left
                ·simp only [putAll, Act.put, List.setIfInBounds_toArray, List.set_cons_zero, List.set_cons_succ]
                 rfl
                refine one_ (i := 14) (N := none) #[true, true, true, true, true, true, true, true, true, true, true, true, true, true, true, false] rfl rfl (one_of HT_.out (by kernel_rfl)) (by decide) (fun K hK => ?_)
                have hs40 : w39.cell? ⟨gb140, 0, none⟩ = some (.string (⟨#[]⟩ : ByteArray)) := (blk_cell BK140.out 0).trans rfl; have hfs40 := blk_frozen BK140.out 0; have hns40_0 := NB133_140.out; have hns40_2 := NB141_140.out; have hms40_0 := NB140_133.out; have hms40_2 := NB140_141.out; have hs41 : w39.cell? ⟨gb140, 1, none⟩ = some (.bool false) := (blk_cell BK140.out 1).trans rfl; have hfs41 := blk_frozen BK140.out 1; have hns41_0 := NB133_140.out; have hns41_2 := NB141_140.out; have hms41_0 := NB140_133.out; have hms41_2 := NB140_141.out; have hs42 : w39.cell? ⟨gb140, 2, none⟩ = some (.int .i64 0) := (blk_cell BK140.out 2).trans rfl; have hfs42 := blk_frozen BK140.out 2; have hns42_0 := NB133_140.out; have hns42_2 := NB141_140.out; have hms42_0 := NB140_133.out; have hms42_2 := NB140_141.out
                refine skip_ (w1 := ?_) (by rfl) rfl ?_ ?_
                rotate_left
                ·go_simp
                 rfl
                refine hK.out _ _ ⟨((cell_far (p := ⟨gb140, _, none⟩) (fb_ (Kd.own_blk (Kd.R_away HO_3.out (fun _ hk => hk.1)))) _).trans (((cell_far (p := ⟨gb140, _, none⟩) (fb_ (Kd.own_blk (Kd.R_away HO_3.out (fun _ hk => hk.1)))) _).trans (((cell_far (p := ⟨gb140, _, none⟩) (fb_ (Kd.own_blk (Kd.R_away HO_3.out (fun _ hk => hk.1)))) _).trans (hHeld.1)))))), ((cell_far (p := ⟨gb140, _, none⟩) (fb_ (Kd.own_blk (Kd.R_away HO_3.out (fun _ hk => hk.1)))) _).trans (((cell_far (p := ⟨gb140, _, none⟩) (fb_ (Kd.own_blk (Kd.R_away HO_3.out (fun _ hk => hk.1)))) _).trans (((cell_far (p := ⟨gb140, _, none⟩) (fb_ (Kd.own_blk (Kd.R_away HO_3.out (fun _ hk => hk.1)))) _).trans (hHeld.2.1)))))), ((cell_far (p := ⟨gb140, _, none⟩) (fb_ (Kd.own_blk (Kd.R_away HO_3.out (fun _ hk => hk.1)))) _).trans (((cell_far (p := ⟨gb140, _, none⟩) (fb_ (Kd.own_blk (Kd.R_away HO_3.out (fun _ hk => hk.1)))) _).trans (((cell_far (p := ⟨gb140, _, none⟩) (fb_ (Kd.own_blk (Kd.R_away HO_3.out (fun _ hk => hk.1)))) _).trans (hHeld.2.2.1)))))), ((cell_far (p := ⟨gb140, _, none⟩) (fb_ (Kd.own_blk (Kd.R_away HO_3.out (fun _ hk => hk.1)))) _).trans (((cell_far (p := ⟨gb140, _, none⟩) (fb_ (Kd.own_blk (Kd.R_away HO_3.out (fun _ hk => hk.1)))) _).trans (((cell_far (p := ⟨gb140, _, none⟩) (fb_ (Kd.own_blk (Kd.R_away HO_3.out (fun _ hk => hk.1)))) _).trans (hHeld.2.2.2.1)))))), ((cell_far (p := ⟨gb140, _, none⟩) (fb_ (Kd.own_blk (Kd.R_away HO_3.out (fun _ hk => hk.1)))) _).trans (((cell_far (p := ⟨gb140, _, none⟩) (fb_ (Kd.own_blk (Kd.R_away HO_3.out (fun _ hk => hk.1)))) _).trans (((cell_far (p := ⟨gb140, _, none⟩) (fb_ (Kd.own_blk (Kd.R_away HO_3.out (fun _ hk => hk.1)))) _).trans (hHeld.2.2.2.2.1)))))), ((cell_far (p := ⟨gb140, _, none⟩) (fb_ (Kd.own_blk (Kd.R_away HO_3.out (fun _ hk => hk.1)))) _).trans (((cell_far (p := ⟨gb140, _, none⟩) (fb_ (Kd.own_blk (Kd.R_away HO_3.out (fun _ hk => hk.1)))) _).trans (((cell_far (p := ⟨gb140, _, none⟩) (fb_ (Kd.own_blk (Kd.R_away HO_3.out (fun _ hk => hk.1)))) _).trans (hHeld.2.2.2.2.2))))))⟩ (fun hHeld => ?_)
                clear hK K
                refine one_ (i := 15) (N := none) #[true, true, true, true, true, true, true, true, true, true, true, true, true, true, true, true] rfl rfl (one_of HT_.out (by kernel_rfl)) (by decide) (fun K hK => ?_)
                have hs43 : w39.cell? ⟨gb141, 0, none⟩ = some (.string (⟨#[]⟩ : ByteArray)) := (blk_cell BK141.out 0).trans rfl; have hfs43 := blk_frozen BK141.out 0; have hns43_0 := NB133_141.out; have hns43_1 := NB140_141.out; have hms43_0 := NB141_133.out; have hms43_1 := NB141_140.out; have hs44 : w39.cell? ⟨gb141, 1, none⟩ = some (.bool false) := (blk_cell BK141.out 1).trans rfl; have hfs44 := blk_frozen BK141.out 1; have hns44_0 := NB133_141.out; have hns44_1 := NB140_141.out; have hms44_0 := NB141_133.out; have hms44_1 := NB141_140.out; have hs45 : w39.cell? ⟨gb141, 2, none⟩ = some (.int .i64 0) := (blk_cell BK141.out 2).trans rfl; have hfs45 := blk_frozen BK141.out 2; have hns45_0 := NB133_141.out; have hns45_1 := NB140_141.out; have hms45_0 := NB141_133.out; have hms45_1 := NB141_140.out
                refine skip_ (w1 := ?_) (by rfl) rfl ?_ ?_
                rotate_left
                ·go_simp
                 rfl
                refine hK.out _ _ ⟨((cell_far (p := ⟨gb141, _, none⟩) (fb_ (Kd.own_blk (Kd.R_away HO_3.out (fun _ hk => hk.2)))) _).trans (((cell_far (p := ⟨gb141, _, none⟩) (fb_ (Kd.own_blk (Kd.R_away HO_3.out (fun _ hk => hk.2)))) _).trans (((cell_far (p := ⟨gb141, _, none⟩) (fb_ (Kd.own_blk (Kd.R_away HO_3.out (fun _ hk => hk.2)))) _).trans (hHeld.1)))))), ((cell_far (p := ⟨gb141, _, none⟩) (fb_ (Kd.own_blk (Kd.R_away HO_3.out (fun _ hk => hk.2)))) _).trans (((cell_far (p := ⟨gb141, _, none⟩) (fb_ (Kd.own_blk (Kd.R_away HO_3.out (fun _ hk => hk.2)))) _).trans (((cell_far (p := ⟨gb141, _, none⟩) (fb_ (Kd.own_blk (Kd.R_away HO_3.out (fun _ hk => hk.2)))) _).trans (hHeld.2.1)))))), ((cell_far (p := ⟨gb141, _, none⟩) (fb_ (Kd.own_blk (Kd.R_away HO_3.out (fun _ hk => hk.2)))) _).trans (((cell_far (p := ⟨gb141, _, none⟩) (fb_ (Kd.own_blk (Kd.R_away HO_3.out (fun _ hk => hk.2)))) _).trans (((cell_far (p := ⟨gb141, _, none⟩) (fb_ (Kd.own_blk (Kd.R_away HO_3.out (fun _ hk => hk.2)))) _).trans (hHeld.2.2.1)))))), ((cell_far (p := ⟨gb141, _, none⟩) (fb_ (Kd.own_blk (Kd.R_away HO_3.out (fun _ hk => hk.2)))) _).trans (((cell_far (p := ⟨gb141, _, none⟩) (fb_ (Kd.own_blk (Kd.R_away HO_3.out (fun _ hk => hk.2)))) _).trans (((cell_far (p := ⟨gb141, _, none⟩) (fb_ (Kd.own_blk (Kd.R_away HO_3.out (fun _ hk => hk.2)))) _).trans (hHeld.2.2.2.1)))))), ((cell_far (p := ⟨gb141, _, none⟩) (fb_ (Kd.own_blk (Kd.R_away HO_3.out (fun _ hk => hk.2)))) _).trans (((cell_far (p := ⟨gb141, _, none⟩) (fb_ (Kd.own_blk (Kd.R_away HO_3.out (fun _ hk => hk.2)))) _).trans (((cell_far (p := ⟨gb141, _, none⟩) (fb_ (Kd.own_blk (Kd.R_away HO_3.out (fun _ hk => hk.2)))) _).trans (hHeld.2.2.2.2.1)))))), ((cell_far (p := ⟨gb141, _, none⟩) (fb_ (Kd.own_blk (Kd.R_away HO_3.out (fun _ hk => hk.2)))) _).trans (((cell_far (p := ⟨gb141, _, none⟩) (fb_ (Kd.own_blk (Kd.R_away HO_3.out (fun _ hk => hk.2)))) _).trans (((cell_far (p := ⟨gb141, _, none⟩) (fb_ (Kd.own_blk (Kd.R_away HO_3.out (fun _ hk => hk.2)))) _).trans (hHeld.2.2.2.2.2))))))⟩ (fun hHeld => ?_)
                clear hK K
                refine done_ (done_of HT_.out (by kernel_rfl)) ?_
                have hnb46 := NB133_140.out; have hnc46 := NB140_133.out; have hnb47 := NB133_141.out; have hnc47 := NB141_133.out; have hcz48_0 : w39.cell? ⟨gb133, 0, none⟩ = some (.int .i64 ((rd_T54 l0 x12_1).f0)) := (blk_cell BK133.out 0).trans rfl; have hcz48_1 : w39.cell? ⟨gb133, 1, none⟩ = some (.int .i64 ((rd_T54 l0 x12_1).f1)) := (blk_cell BK133.out 1).trans rfl; have hcz48_2 : w39.cell? ⟨gb133, 2, none⟩ = some (.int .i64 ((rd_T54 l0 x12_1).f2)) := (blk_cell BK133.out 2).trans rfl; have hfz48_0 := blk_frozen BK133.out 0; have hfz48_1 := blk_frozen BK133.out 1; have hfz48_2 := blk_frozen BK133.out 2; have hnb49 := NB140_141.out; have hnc49 := NB141_140.out; have hcz50_0 : w39.cell? ⟨gb140, 0, none⟩ = some (.string (⟨#[]⟩ : ByteArray)) := (blk_cell BK140.out 0).trans rfl; have hcz50_1 : w39.cell? ⟨gb140, 1, none⟩ = some (.bool false) := (blk_cell BK140.out 1).trans rfl; have hcz50_2 : w39.cell? ⟨gb140, 2, none⟩ = some (.int .i64 0) := (blk_cell BK140.out 2).trans rfl; have hfz50_0 := blk_frozen BK140.out 0; have hfz50_1 := blk_frozen BK140.out 1; have hfz50_2 := blk_frozen BK140.out 2; have hcz51_0 : w39.cell? ⟨gb141, 0, none⟩ = some (.string (⟨#[]⟩ : ByteArray)) := (blk_cell BK141.out 0).trans rfl; have hcz51_1 : w39.cell? ⟨gb141, 1, none⟩ = some (.bool false) := (blk_cell BK141.out 1).trans rfl; have hcz51_2 : w39.cell? ⟨gb141, 2, none⟩ = some (.int .i64 0) := (blk_cell BK141.out 2).trans rfl; have hfz51_0 := blk_frozen BK141.out 0; have hfz51_1 := blk_frozen BK141.out 1; have hfz51_2 := blk_frozen BK141.out 2
                try go_wp2_with (first | ((with_reducible refine gate_dst (N := 8) rfl ?_); refine box_event ?hg (N := 8) ?hd (cs := #[.string (⟨#[]⟩ : ByteArray), .bool false, .int .i64 0]) (t := 73) ?hr ?_; (case hd => rfl); (case hg => rfl); (case hr => first | (go_simp; done) | (go_simp; rfl)); intro gb142 hg w52 hbox hb; have n0_ := Aside0.mk (Kd.R_below (Kd.R_elderB (by (with_reducible repeat (first | apply Kd.R_alloc | apply Kd.R_drewN | apply Kd.R_drew)); exact (Kd.R_mono (Kd.R_mono (Kd.R_far (p := ⟨gb141, 2, none⟩) (Kd.R_far (p := ⟨gb141, 1, none⟩) (Kd.R_far (p := ⟨gb141, 0, none⟩) (Kd.R_far (p := ⟨gb140, 2, none⟩) (Kd.R_far (p := ⟨gb140, 1, none⟩) (Kd.R_far (p := ⟨gb140, 0, none⟩) (Kd.R_mono (Kd.R_mono HO_3.out (fun k_ hk => (⟨hk, hk.1⟩ : _ ∧ k_ ≠ gb140))) (fun k_ hk => (⟨hk, hk.1.2⟩ : _ ∧ k_ ≠ gb141))) (fun _ hk => hk.1.2) (.string ((rd_T73 x3_1 (ji20)).f0))) (fun _ hk => hk.1.2) (.bool ((rd_T73 x3_1 (ji20)).f1))) (fun _ hk => hk.1.2) (.int .i64 ((rd_T73 x3_1 (ji20)).f2))) (fun _ hk => hk.2) (.string ((rd_T73 x3_1 (ji23)).f0))) (fun _ hk => hk.2) (.bool ((rd_T73 x3_1 (ji23)).f1))) (fun _ hk => hk.2) (.int .i64 ((rd_T73 x3_1 (ji23)).f2))) (fun _ h_ => h_.1)) (fun _ h_ => h_.1))) gb142 (Nat.le_of_eq hg.symm)) hb); have n1_ := Aside0.mk (blk_below (g := gb133) (o := .cells #[.int .i64 ((rd_T54 l0 x12_1).f0), .int .i64 ((rd_T54 l0 x12_1).f1), .int .i64 ((rd_T54 l0 x12_1).f2)] 54 (0, 0)) (by refine sb_ ?_; refine blk_far ?_ NB133_141.out _; refine sb_ ?_; refine blk_far ?_ NB133_141.out _; refine sb_ ?_; refine blk_far ?_ NB133_141.out _; refine sb_ ?_; refine blk_far ?_ NB133_140.out _; refine sb_ ?_; refine blk_far ?_ NB133_140.out _; refine sb_ ?_; refine blk_far ?_ NB133_140.out _; refine sb_ ?_; exact BK133.out) hb); have n2_ := Aside0.mk (blk_below (g := gb140) (o := .cells #[.string ((rd_T73 x3_1 (ji20)).f0), .bool ((rd_T73 x3_1 (ji20)).f1), .int .i64 ((rd_T73 x3_1 (ji20)).f2)] 73 (0, 0)) (by refine sb_ ?_; refine blk_far ?_ NB140_141.out _; refine sb_ ?_; refine blk_far ?_ NB140_141.out _; refine sb_ ?_; refine blk_far ?_ NB140_141.out _; refine sb_ ?_; refine blk_put (cs := #[.string ((rd_T73 x3_1 (ji20)).f0), .bool ((rd_T73 x3_1 (ji20)).f1), .int .i64 0]) ?_ 2 _ rfl; refine sb_ ?_; refine blk_put (cs := #[.string ((rd_T73 x3_1 (ji20)).f0), .bool false, .int .i64 0]) ?_ 1 _ rfl; refine sb_ ?_; refine blk_put (cs := #[.string (⟨#[]⟩ : ByteArray), .bool false, .int .i64 0]) ?_ 0 _ rfl; refine sb_ ?_; exact BK140.out) hb); have n3_ := Aside0.mk (blk_below (g := gb141) (o := .cells #[.string ((rd_T73 x3_1 (ji23)).f0), .bool ((rd_T73 x3_1 (ji23)).f1), .int .i64 ((rd_T73 x3_1 (ji23)).f2)] 73 (0, 0)) (by refine sb_ ?_; refine blk_put (cs := #[.string ((rd_T73 x3_1 (ji23)).f0), .bool ((rd_T73 x3_1 (ji23)).f1), .int .i64 0]) ?_ 2 _ rfl; refine sb_ ?_; refine blk_put (cs := #[.string ((rd_T73 x3_1 (ji23)).f0), .bool false, .int .i64 0]) ?_ 1 _ rfl; refine sb_ ?_; refine blk_put (cs := #[.string (⟨#[]⟩ : ByteArray), .bool false, .int .i64 0]) ?_ 0 _ rfl; refine sb_ ?_; refine blk_far ?_ NB141_140.out _; refine sb_ ?_; refine blk_far ?_ NB141_140.out _; refine sb_ ?_; refine blk_far ?_ NB141_140.out _; refine sb_ ?_; exact BK141.out) hb); have n4_ := Aside0.mk (below_step (bu_ HB.out GE133.out GE140.out GE141.out) hb); have n5_ := Aside0.mk (hbox); have n6_ := Aside0.mk ((by rw [hg]; exact (below_size (bu_ HB.out GE133.out GE140.out GE141.out)) : w.heap.size ≤ gb142)); have n7_ := Aside0.mk ((by rw [hg]; exact (below_size (bu_ HB.out GE133.out GE140.out GE141.out)) : w.heap.size ≤ gb142)); have n8_ := Aside0.mk ((by rw [hg]; exact Nat.ne_of_lt (blk_lt (g := gb133) (o := .cells #[.int .i64 ((rd_T54 l0 x12_1).f0), .int .i64 ((rd_T54 l0 x12_1).f1), .int .i64 ((rd_T54 l0 x12_1).f2)] 54 (0, 0)) (by refine sb_ ?_; refine blk_far ?_ NB133_141.out _; refine sb_ ?_; refine blk_far ?_ NB133_141.out _; refine sb_ ?_; refine blk_far ?_ NB133_141.out _; refine sb_ ?_; refine blk_far ?_ NB133_140.out _; refine sb_ ?_; refine blk_far ?_ NB133_140.out _; refine sb_ ?_; refine blk_far ?_ NB133_140.out _; refine sb_ ?_; exact BK133.out)) : gb133 ≠ gb142)); have n9_ := Aside0.mk ((by rw [hg]; exact Nat.ne_of_gt (blk_lt (g := gb133) (o := .cells #[.int .i64 ((rd_T54 l0 x12_1).f0), .int .i64 ((rd_T54 l0 x12_1).f1), .int .i64 ((rd_T54 l0 x12_1).f2)] 54 (0, 0)) (by refine sb_ ?_; refine blk_far ?_ NB133_141.out _; refine sb_ ?_; refine blk_far ?_ NB133_141.out _; refine sb_ ?_; refine blk_far ?_ NB133_141.out _; refine sb_ ?_; refine blk_far ?_ NB133_140.out _; refine sb_ ?_; refine blk_far ?_ NB133_140.out _; refine sb_ ?_; refine blk_far ?_ NB133_140.out _; refine sb_ ?_; exact BK133.out)) : gb142 ≠ gb133)); have n10_ := Aside0.mk ((by rw [hg]; exact Nat.ne_of_lt (blk_lt (g := gb140) (o := .cells #[.string ((rd_T73 x3_1 (ji20)).f0), .bool ((rd_T73 x3_1 (ji20)).f1), .int .i64 ((rd_T73 x3_1 (ji20)).f2)] 73 (0, 0)) (by refine sb_ ?_; refine blk_far ?_ NB140_141.out _; refine sb_ ?_; refine blk_far ?_ NB140_141.out _; refine sb_ ?_; refine blk_far ?_ NB140_141.out _; refine sb_ ?_; refine blk_put (cs := #[.string ((rd_T73 x3_1 (ji20)).f0), .bool ((rd_T73 x3_1 (ji20)).f1), .int .i64 0]) ?_ 2 _ rfl; refine sb_ ?_; refine blk_put (cs := #[.string ((rd_T73 x3_1 (ji20)).f0), .bool false, .int .i64 0]) ?_ 1 _ rfl; refine sb_ ?_; refine blk_put (cs := #[.string (⟨#[]⟩ : ByteArray), .bool false, .int .i64 0]) ?_ 0 _ rfl; refine sb_ ?_; exact BK140.out)) : gb140 ≠ gb142)); have n11_ := Aside0.mk ((by rw [hg]; exact Nat.ne_of_gt (blk_lt (g := gb140) (o := .cells #[.string ((rd_T73 x3_1 (ji20)).f0), .bool ((rd_T73 x3_1 (ji20)).f1), .int .i64 ((rd_T73 x3_1 (ji20)).f2)] 73 (0, 0)) (by refine sb_ ?_; refine blk_far ?_ NB140_141.out _; refine sb_ ?_; refine blk_far ?_ NB140_141.out _; refine sb_ ?_; refine blk_far ?_ NB140_141.out _; refine sb_ ?_; refine blk_put (cs := #[.string ((rd_T73 x3_1 (ji20)).f0), .bool ((rd_T73 x3_1 (ji20)).f1), .int .i64 0]) ?_ 2 _ rfl; refine sb_ ?_; refine blk_put (cs := #[.string ((rd_T73 x3_1 (ji20)).f0), .bool false, .int .i64 0]) ?_ 1 _ rfl; refine sb_ ?_; refine blk_put (cs := #[.string (⟨#[]⟩ : ByteArray), .bool false, .int .i64 0]) ?_ 0 _ rfl; refine sb_ ?_; exact BK140.out)) : gb142 ≠ gb140)); have n12_ := Aside0.mk ((by rw [hg]; exact Nat.ne_of_lt (blk_lt (g := gb141) (o := .cells #[.string ((rd_T73 x3_1 (ji23)).f0), .bool ((rd_T73 x3_1 (ji23)).f1), .int .i64 ((rd_T73 x3_1 (ji23)).f2)] 73 (0, 0)) (by refine sb_ ?_; refine blk_put (cs := #[.string ((rd_T73 x3_1 (ji23)).f0), .bool ((rd_T73 x3_1 (ji23)).f1), .int .i64 0]) ?_ 2 _ rfl; refine sb_ ?_; refine blk_put (cs := #[.string ((rd_T73 x3_1 (ji23)).f0), .bool false, .int .i64 0]) ?_ 1 _ rfl; refine sb_ ?_; refine blk_put (cs := #[.string (⟨#[]⟩ : ByteArray), .bool false, .int .i64 0]) ?_ 0 _ rfl; refine sb_ ?_; refine blk_far ?_ NB141_140.out _; refine sb_ ?_; refine blk_far ?_ NB141_140.out _; refine sb_ ?_; refine blk_far ?_ NB141_140.out _; refine sb_ ?_; exact BK141.out)) : gb141 ≠ gb142)); have n13_ := Aside0.mk ((by rw [hg]; exact Nat.ne_of_gt (blk_lt (g := gb141) (o := .cells #[.string ((rd_T73 x3_1 (ji23)).f0), .bool ((rd_T73 x3_1 (ji23)).f1), .int .i64 ((rd_T73 x3_1 (ji23)).f2)] 73 (0, 0)) (by refine sb_ ?_; refine blk_put (cs := #[.string ((rd_T73 x3_1 (ji23)).f0), .bool ((rd_T73 x3_1 (ji23)).f1), .int .i64 0]) ?_ 2 _ rfl; refine sb_ ?_; refine blk_put (cs := #[.string ((rd_T73 x3_1 (ji23)).f0), .bool false, .int .i64 0]) ?_ 1 _ rfl; refine sb_ ?_; refine blk_put (cs := #[.string (⟨#[]⟩ : ByteArray), .bool false, .int .i64 0]) ?_ 0 _ rfl; refine sb_ ?_; refine blk_far ?_ NB141_140.out _; refine sb_ ?_; refine blk_far ?_ NB141_140.out _; refine sb_ ?_; refine blk_far ?_ NB141_140.out _; refine sb_ ?_; exact BK141.out)) : gb142 ≠ gb141)); clear HO_3; clear BK133; clear BK140; clear BK141; clear HB; have HO_3 := n0_; have BK133 := n1_; have BK140 := n2_; have BK141 := n3_; have HB := n4_; have BK142 := n5_; have GW142 := n6_; have GE142 := n7_; have NB133_142 := n8_; have NB142_133 := n9_; have NB140_142 := n10_; have NB142_140 := n11_; have NB141_142 := n12_; have NB142_141 := n13_; clear n0_ n1_ n2_ n3_ n4_ n5_ n6_ n7_ n8_ n9_ n10_ n11_ n12_ n13_; clear hb hbox hg; have hnb53 := NB142_133.out; have hnc53 := NB133_142.out; have hnb54 := NB142_140.out; have hnc54 := NB140_142.out; have hnb55 := NB142_141.out; have hnc55 := NB141_142.out; have hcz56_0 : w52.cell? ⟨gb142, 0, none⟩ = some (.string (⟨#[]⟩ : ByteArray)) := (blk_cell BK142.out 0).trans rfl; have hcz56_1 : w52.cell? ⟨gb142, 1, none⟩ = some (.bool false) := (blk_cell BK142.out 1).trans rfl; have hcz56_2 : w52.cell? ⟨gb142, 2, none⟩ = some (.int .i64 0) := (blk_cell BK142.out 2).trans rfl; have hfz56_0 := blk_frozen BK142.out 0; have hfz56_1 := blk_frozen BK142.out 1; have hfz56_2 := blk_frozen BK142.out 2))
                have n0_ : Aside0 (Kd.R k73 73 (((w52.setCell ⟨gb142, 0, none⟩ (.string (⟨#[]⟩ : ByteArray))).setCell ⟨gb142, 1, none⟩ (.bool true)).setCell ⟨gb142, 2, none⟩ (.int .i64 (wrap64 ((wrap64 (((rd_T73 x3_1 (ji20)).f2) + ((rd_T73 x3_1 (ji23)).f2))) + 1)))) w.heap.size (fun k_ => k_ ≠ gb140 ∧ k_ ≠ gb141 ∧ k_ ≠ gb142) (.slice (some ad138) x3_1.length co36) x3_1) := ⟨by (with_reducible repeat (first | apply Kd.R_alloc | apply Kd.R_drewN | apply Kd.R_drew)); exact Kd.R_mono (Kd.R_far (p := ⟨gb142, 2, none⟩) (Kd.R_far (p := ⟨gb142, 1, none⟩) (Kd.R_far (p := ⟨gb142, 0, none⟩) (Kd.R_mono HO_3.out (fun k_ hk => (⟨hk, hk.2⟩ : _ ∧ k_ ≠ gb142))) (fun _ hk => hk.2) (.string (⟨#[]⟩ : ByteArray))) (fun _ hk => hk.2) (.bool true)) (fun _ hk => hk.2) (.int .i64 (wrap64 ((wrap64 (((rd_T73 x3_1 (ji20)).f2) + ((rd_T73 x3_1 (ji23)).f2))) + 1)))) (fun _ hk => ⟨hk.1.1.1, ⟨hk.1.1.2, hk.1.2⟩⟩)⟩; have n1_ : Aside0 ((((w52.setCell ⟨gb142, 0, none⟩ (.string (⟨#[]⟩ : ByteArray))).setCell ⟨gb142, 1, none⟩ (.bool true)).setCell ⟨gb142, 2, none⟩ (.int .i64 (wrap64 ((wrap64 (((rd_T73 x3_1 (ji20)).f2) + ((rd_T73 x3_1 (ji23)).f2))) + 1)))).heap[gb133]? = some (.cells #[.int .i64 ((rd_T54 l0 x12_1).f0), .int .i64 ((rd_T54 l0 x12_1).f1), .int .i64 ((rd_T54 l0 x12_1).f2)] 54 (0, 0))) := ⟨by refine sb_ ?_; refine blk_far ?_ NB133_142.out _; refine sb_ ?_; refine blk_far ?_ NB133_142.out _; refine sb_ ?_; refine blk_far ?_ NB133_142.out _; refine sb_ ?_; exact BK133.out⟩; have n2_ : Aside0 ((((w52.setCell ⟨gb142, 0, none⟩ (.string (⟨#[]⟩ : ByteArray))).setCell ⟨gb142, 1, none⟩ (.bool true)).setCell ⟨gb142, 2, none⟩ (.int .i64 (wrap64 ((wrap64 (((rd_T73 x3_1 (ji20)).f2) + ((rd_T73 x3_1 (ji23)).f2))) + 1)))).heap[gb140]? = some (.cells #[.string ((rd_T73 x3_1 (ji20)).f0), .bool ((rd_T73 x3_1 (ji20)).f1), .int .i64 ((rd_T73 x3_1 (ji20)).f2)] 73 (0, 0))) := ⟨by refine sb_ ?_; refine blk_far ?_ NB140_142.out _; refine sb_ ?_; refine blk_far ?_ NB140_142.out _; refine sb_ ?_; refine blk_far ?_ NB140_142.out _; refine sb_ ?_; exact BK140.out⟩; have n3_ : Aside0 ((((w52.setCell ⟨gb142, 0, none⟩ (.string (⟨#[]⟩ : ByteArray))).setCell ⟨gb142, 1, none⟩ (.bool true)).setCell ⟨gb142, 2, none⟩ (.int .i64 (wrap64 ((wrap64 (((rd_T73 x3_1 (ji20)).f2) + ((rd_T73 x3_1 (ji23)).f2))) + 1)))).heap[gb141]? = some (.cells #[.string ((rd_T73 x3_1 (ji23)).f0), .bool ((rd_T73 x3_1 (ji23)).f1), .int .i64 ((rd_T73 x3_1 (ji23)).f2)] 73 (0, 0))) := ⟨by refine sb_ ?_; refine blk_far ?_ NB141_142.out _; refine sb_ ?_; refine blk_far ?_ NB141_142.out _; refine sb_ ?_; refine blk_far ?_ NB141_142.out _; refine sb_ ?_; exact BK141.out⟩; have n4_ : Aside0 ((((w52.setCell ⟨gb142, 0, none⟩ (.string (⟨#[]⟩ : ByteArray))).setCell ⟨gb142, 1, none⟩ (.bool true)).setCell ⟨gb142, 2, none⟩ (.int .i64 (wrap64 ((wrap64 (((rd_T73 x3_1 (ji20)).f2) + ((rd_T73 x3_1 (ji23)).f2))) + 1)))).heap[gb142]? = some (.cells #[.string (⟨#[]⟩ : ByteArray), .bool true, .int .i64 (wrap64 ((wrap64 (((rd_T73 x3_1 (ji20)).f2) + ((rd_T73 x3_1 (ji23)).f2))) + 1))] 73 (0, 0))) := ⟨by refine sb_ ?_; refine blk_put (cs := #[.string (⟨#[]⟩ : ByteArray), .bool true, .int .i64 0]) ?_ 2 _ rfl; refine sb_ ?_; refine blk_put (cs := #[.string (⟨#[]⟩ : ByteArray), .bool false, .int .i64 0]) ?_ 1 _ rfl; refine sb_ ?_; refine blk_put (cs := #[.string (⟨#[]⟩ : ByteArray), .bool false, .int .i64 0]) ?_ 0 _ rfl; refine sb_ ?_; exact BK142.out⟩; have n5_ : Aside0 (Below w.heap.size w (((w52.setCell ⟨gb142, 0, none⟩ (.string (⟨#[]⟩ : ByteArray))).setCell ⟨gb142, 1, none⟩ (.bool true)).setCell ⟨gb142, 2, none⟩ (.int .i64 (wrap64 ((wrap64 (((rd_T73 x3_1 (ji20)).f2) + ((rd_T73 x3_1 (ji23)).f2))) + 1))))) := ⟨by repeat (first | (with_reducible first | exact HB.out | apply below_alloc | apply pw_below_drewN | apply below_drew1 | refine below_set ?_ GE133.out | refine below_set ?_ GE140.out | refine below_set ?_ GE141.out | refine below_set ?_ GE142.out) | exact HB.out)⟩
                (try clear HO_3)
                (try clear BK133)
                (try clear BK140)
                (try clear BK141)
                (try clear BK142)
                (try clear HB)
                generalize (((w52.setCell ⟨gb142, 0, none⟩ (.string (⟨#[]⟩ : ByteArray))).setCell ⟨gb142, 1, none⟩ (.bool true)).setCell ⟨gb142, 2, none⟩ (.int .i64 (wrap64 ((wrap64 (((rd_T73 x3_1 (ji20)).f2) + ((rd_T73 x3_1 (ji23)).f2))) + 1)))) = w57 at n0_ n1_ n2_ n3_ n4_ n5_ ⊢
                have HO_3 := n0_; have BK133 := n1_; have BK140 := n2_; have BK141 := n3_; have BK142 := n4_; have HB := n5_; clear n0_ n1_ n2_ n3_ n4_ n5_; have n0_ := Aside0.mk (Kd.R_drew HO_3.out); have n1_ := Aside0.mk (blk_drew BK133.out); have n2_ := Aside0.mk (blk_drew BK140.out); have n3_ := Aside0.mk (blk_drew BK141.out); have n4_ := Aside0.mk (blk_drew BK142.out); have n5_ := Aside0.mk (below_drew1 HB.out); clear HO_3 BK133 BK140 BK141 BK142 HB; have HO_3 := n0_; have BK133 := n1_; have BK140 := n2_; have BK141 := n3_; have BK142 := n4_; have HB := n5_; clear n0_ n1_ n2_ n3_ n4_ n5_
                refine start_ (n := 11) (S := fun w' => w'.cell? ⟨gb140, 0, none⟩ = some (.string ((rd_T73 x3_1 (ji20)).f0)) ∧ w'.cell? ⟨gb140, 1, none⟩ = some (.bool ((rd_T73 x3_1 (ji20)).f1)) ∧ w'.cell? ⟨gb140, 2, none⟩ = some (.int .i64 ((rd_T73 x3_1 (ji20)).f2)) ∧ w'.cell? ⟨gb141, 0, none⟩ = some (.string ((rd_T73 x3_1 (ji23)).f0)) ∧ w'.cell? ⟨gb141, 1, none⟩ = some (.bool ((rd_T73 x3_1 (ji23)).f1)) ∧ w'.cell? ⟨gb141, 2, none⟩ = some (.int .i64 ((rd_T73 x3_1 (ji23)).f2))) (ds := []) #[false, false, false, false, false, false, false, false, false, false, false] (by kernel_rfl) rfl rfl ⟨(blk_cell BK140.out 0).trans rfl, (blk_cell BK140.out 1).trans rfl, (blk_cell BK140.out 2).trans rfl, (blk_cell BK141.out 0).trans rfl, (blk_cell BK141.out 1).trans rfl, (blk_cell BK141.out 2).trans rfl⟩ (fun hHeld => ?_); refine with_tabW impl_termText.tab10 impl_termText.bits10 (fun HT_ HW_ => ?_)
                generalize w57.drew = w58 at HO_3 BK133 BK140 BK141 BK142 HB hHeld ⊢
                refine pure_ (i := 0) (N := some 57) (v := ?_) (a' := ?_) #[true, false, false, false, false, false, false, false, false, false, false] rfl rfl (any_of HT_.out (by kernel_rfl)) (fun _ _ _ h => h) (Or.inl ⟨by rfl, ?_⟩) ?_ ?_
                rotate_left
                ·intro w'
                 go_simp
                 with_reducible rfl
                rotate_left
                ·simp only [Act.put, List.setIfInBounds_toArray, List.set_cons_zero, List.set_cons_succ, i64_w, i32_w]
                 rfl
                refine pure_ (i := 3) (N := some 60) (v := ?_) (a' := ?_) #[true, false, false, true, false, false, false, false, false, false, false] rfl rfl (any_of HT_.out (by kernel_rfl)) (fun _ _ _ h => h) (Or.inl ⟨by rfl, ?_⟩) ?_ ?_
                rotate_left
                ·intro w'
                 go_simp
                 with_reducible rfl
                rotate_left
                ·simp only [Act.put, List.setIfInBounds_toArray, List.set_cons_zero, List.set_cons_succ, i64_w, i32_w]
                 rfl
                refine pure_ (i := 5) (N := some 62) (v := ?_) (a' := ?_) #[true, false, false, true, false, true, false, false, false, false, false] rfl rfl (any_of HT_.out (by kernel_rfl)) (fun _ _ _ h => h) (Or.inl ⟨by rfl, ?_⟩) ?_ ?_
                rotate_left
                ·intro w'
                 go_simp
                 with_reducible rfl
                rotate_left
                ·simp only [Act.put, List.setIfInBounds_toArray, List.set_cons_zero, List.set_cons_succ, i64_w, i32_w]
                 rfl
                refine take_ (i := 1) (N := some 58) (v := ?_) (a' := ?_) #[true, true, false, true, false, true, false, false, false, false, false] rfl rfl (take_ofW HT_.out HW_.out (by kernel_rfl)) (fun _ _ _ h => h) (Or.inl ⟨by rfl, ?_⟩) hHeld ?_ ?_
                rotate_left
                ·rintro w' ⟨s0, s1, s2, s3, s4, s5⟩
                 go_simp
                 with_reducible rfl
                rotate_left
                ·simp only [Act.put, List.setIfInBounds_toArray, List.set_cons_zero, List.set_cons_succ, i64_w, i32_w]
                 rfl
                refine pure_ (i := 2) (N := some 59) (v := ?_) (a' := ?_) #[true, true, true, true, false, true, false, false, false, false, false] rfl rfl (any_of HT_.out (by kernel_rfl)) (fun _ _ _ h => h) (Or.inl ⟨by rfl, ?_⟩) ?_ ?_
                rotate_left
                ·intro w'
                 go_simp
                 with_reducible rfl
                rotate_left
                ·simp only [Act.put, List.setIfInBounds_toArray, List.set_cons_zero, List.set_cons_succ, i64_w, i32_w]
                 rfl
                refine take_ (i := 4) (N := some 61) (v := ?_) (a' := ?_) #[true, true, true, true, true, true, false, false, false, false, false] rfl rfl (take_ofW HT_.out HW_.out (by kernel_rfl)) (fun _ _ _ h => h) (Or.inl ⟨by rfl, ?_⟩) hHeld ?_ ?_
                rotate_left
                ·rintro w' ⟨s0, s1, s2, s3, s4, s5⟩
                 go_simp
                 with_reducible rfl
                rotate_left
                ·simp only [Act.put, List.setIfInBounds_toArray, List.set_cons_zero, List.set_cons_succ, i64_w, i32_w]
                 rfl
                refine take_ (i := 6) (N := some 63) (v := ?_) (a' := ?_) #[true, true, true, true, true, true, true, false, false, false, false] rfl rfl (take_ofW HT_.out HW_.out (by kernel_rfl)) (fun _ _ _ h => h) (Or.inl ⟨by rfl, ?_⟩) hHeld ?_ ?_
                rotate_left
                ·rintro w' ⟨s0, s1, s2, s3, s4, s5⟩
                 go_simp
                 with_reducible rfl
                rotate_left
                ·simp only [Act.put, List.setIfInBounds_toArray, List.set_cons_zero, List.set_cons_succ, i64_w, i32_w]
                 rfl
                refine one_ (i := 7) (N := some 64) #[true, true, true, true, true, true, true, true, false, false, false] rfl rfl (one_of HT_.out (by kernel_rfl)) (by decide) (fun K hK => ?_)
                refine goes_ Tryd.func50 (by kernel_rfl) rfl #[.string ((rd_T73 x3_1 (ji23)).f0), .bool ((rd_T73 x3_1 (ji23)).f1)] (by rfl) rfl rfl (by (try simp only [List.map_toArray, List.map_cons, List.map_nil]); first | done | (simp only [hji23]; rfl) | rfl | (simp only [List.length_drop, List.length_take]; rfl)) ?_
                with_reducible refine (impl_wrapped.calls ((rd_T73 x3_1 (ji23)).f0) ((rd_T73 x3_1 (ji23)).f1) t143 _ A28.out).mono ?_
                rintro e w' ⟨rfl, ⟨nd, rfl⟩⟩
                refine ⟨_, rfl, ?_⟩
                refine hK.out _ _ ⟨(blk_cell BK140.out 0).trans rfl, (blk_cell BK140.out 1).trans rfl, (blk_cell BK140.out 2).trans rfl, (blk_cell BK141.out 0).trans rfl, (blk_cell BK141.out 1).trans rfl, (blk_cell BK141.out 2).trans rfl⟩ (fun hHeld => ?_)
                clear hK K; have n0_ := Aside0.mk (Kd.R_drewN HO_3.out nd); have n1_ := Aside0.mk (blk_drewN BK133.out nd); have n2_ := Aside0.mk (blk_drewN BK140.out nd); have n3_ := Aside0.mk (blk_drewN BK141.out nd); have n4_ := Aside0.mk (blk_drewN BK142.out nd); have n5_ := Aside0.mk (pw_below_drewN HB.out nd); clear HO_3 BK133 BK140 BK141 BK142 HB
                generalize w58.drewN nd = w58 at n0_ n1_ n2_ n3_ n4_ n5_ hHeld ⊢
                have HO_3 := n0_; have BK133 := n1_; have BK140 := n2_; have BK141 := n3_; have BK142 := n4_; have HB := n5_; clear n0_ n1_ n2_ n3_ n4_ n5_
                refine norm_ (a' := ?_) ?_ ?_
                rotate_left
                ·show Act.put _ (some 64) _ = _
                 simp only [Act.put, List.setIfInBounds_toArray, List.set_cons_zero, List.set_cons_succ, i64_w, i32_w]
                 rfl
                refine pure_ (i := 8) (N := some 65) (v := ?_) (a' := ?_) #[true, true, true, true, true, true, true, true, true, false, false] rfl rfl (any_of HT_.out (by kernel_rfl)) (fun _ _ _ h => h) (Or.inl ⟨by rfl, ?_⟩) ?_ ?_
                rotate_left
                ·intro w'
                 go_simp
                 with_reducible rfl
                rotate_left
                ·simp only [Act.put, List.setIfInBounds_toArray, List.set_cons_zero, List.set_cons_succ, i64_w, i32_w]
                 rfl
                refine pure_ (i := 9) (N := some 66) (v := ?_) (a' := ?_) #[true, true, true, true, true, true, true, true, true, true, false] rfl rfl (any_of HT_.out (by kernel_rfl)) (fun _ _ _ h => h) (Or.inl ⟨by rfl, ?_⟩) ?_ ?_
                rotate_left
                ·intro w'
                 go_simp
                 with_reducible rfl
                rotate_left
                ·simp only [Act.put, List.setIfInBounds_toArray, List.set_cons_zero, List.set_cons_succ, i64_w, i32_w]
                 rfl
                refine one_ (i := 10) (N := none) #[true, true, true, true, true, true, true, true, true, true, true] rfl rfl (one_of HT_.out (by kernel_rfl)) (by decide) (fun K hK => ?_)
                have hs59 : w58.cell? ⟨gb142, 0, none⟩ = some (.string (⟨#[]⟩ : ByteArray)) := (blk_cell BK142.out 0).trans rfl; have hfs59 := blk_frozen BK142.out 0; have hns59_0 := NB133_142.out; have hns59_1 := NB140_142.out; have hns59_2 := NB141_142.out; have hms59_0 := NB142_133.out; have hms59_1 := NB142_140.out; have hms59_2 := NB142_141.out
                refine skip_ (w1 := ?_) (by rfl) rfl ?_ ?_
                rotate_left
                ·go_simp
                 rfl
                refine hK.out _ _ ⟨((cell_far (p := ⟨gb142, _, none⟩) NB140_142.out _).trans (hHeld.1)), ((cell_far (p := ⟨gb142, _, none⟩) NB140_142.out _).trans (hHeld.2.1)), ((cell_far (p := ⟨gb142, _, none⟩) NB140_142.out _).trans (hHeld.2.2.1)), ((cell_far (p := ⟨gb142, _, none⟩) NB141_142.out _).trans (hHeld.2.2.2.1)), ((cell_far (p := ⟨gb142, _, none⟩) NB141_142.out _).trans (hHeld.2.2.2.2.1)), ((cell_far (p := ⟨gb142, _, none⟩) NB141_142.out _).trans (hHeld.2.2.2.2.2))⟩ (fun hHeld => ?_)
                clear hK K
                refine done_ (done_of HT_.out (by kernel_rfl)) ?_
                try go_wp2
                have n0_ : Aside0 (Kd.R k73 73 (w58.setCell ⟨gb142, 0, none⟩ (.string ((((rd_T73 x3_1 (ji20)).f0) ++ (⟨#[124]⟩ : ByteArray)) ++ t143))) w.heap.size (fun k_ => k_ ≠ gb140 ∧ k_ ≠ gb141 ∧ k_ ≠ gb142) (.slice (some ad138) x3_1.length co36) x3_1) := ⟨by (with_reducible repeat (first | apply Kd.R_alloc | apply Kd.R_drewN | apply Kd.R_drew)); exact Kd.R_mono (Kd.R_far (p := ⟨gb142, 0, none⟩) (Kd.R_mono HO_3.out (fun k_ hk => (⟨hk, hk.2.2⟩ : _ ∧ k_ ≠ gb142))) (fun _ hk => hk.2) (.string ((((rd_T73 x3_1 (ji20)).f0) ++ (⟨#[124]⟩ : ByteArray)) ++ t143))) (fun _ hk => ⟨hk.1.1, ⟨hk.1.2.1, hk.1.2.2⟩⟩)⟩; have n1_ : Aside0 ((w58.setCell ⟨gb142, 0, none⟩ (.string ((((rd_T73 x3_1 (ji20)).f0) ++ (⟨#[124]⟩ : ByteArray)) ++ t143))).heap[gb133]? = some (.cells #[.int .i64 ((rd_T54 l0 x12_1).f0), .int .i64 ((rd_T54 l0 x12_1).f1), .int .i64 ((rd_T54 l0 x12_1).f2)] 54 (0, 0))) := ⟨by refine sb_ ?_; refine blk_far ?_ NB133_142.out _; refine sb_ ?_; exact BK133.out⟩; have n2_ : Aside0 ((w58.setCell ⟨gb142, 0, none⟩ (.string ((((rd_T73 x3_1 (ji20)).f0) ++ (⟨#[124]⟩ : ByteArray)) ++ t143))).heap[gb140]? = some (.cells #[.string ((rd_T73 x3_1 (ji20)).f0), .bool ((rd_T73 x3_1 (ji20)).f1), .int .i64 ((rd_T73 x3_1 (ji20)).f2)] 73 (0, 0))) := ⟨by refine sb_ ?_; refine blk_far ?_ NB140_142.out _; refine sb_ ?_; exact BK140.out⟩; have n3_ : Aside0 ((w58.setCell ⟨gb142, 0, none⟩ (.string ((((rd_T73 x3_1 (ji20)).f0) ++ (⟨#[124]⟩ : ByteArray)) ++ t143))).heap[gb141]? = some (.cells #[.string ((rd_T73 x3_1 (ji23)).f0), .bool ((rd_T73 x3_1 (ji23)).f1), .int .i64 ((rd_T73 x3_1 (ji23)).f2)] 73 (0, 0))) := ⟨by refine sb_ ?_; refine blk_far ?_ NB141_142.out _; refine sb_ ?_; exact BK141.out⟩; have n4_ : Aside0 ((w58.setCell ⟨gb142, 0, none⟩ (.string ((((rd_T73 x3_1 (ji20)).f0) ++ (⟨#[124]⟩ : ByteArray)) ++ t143))).heap[gb142]? = some (.cells #[.string ((((rd_T73 x3_1 (ji20)).f0) ++ (⟨#[124]⟩ : ByteArray)) ++ t143), .bool true, .int .i64 (wrap64 ((wrap64 (((rd_T73 x3_1 (ji20)).f2) + ((rd_T73 x3_1 (ji23)).f2))) + 1))] 73 (0, 0))) := ⟨by refine sb_ ?_; refine blk_put (cs := #[.string (⟨#[]⟩ : ByteArray), .bool true, .int .i64 (wrap64 ((wrap64 (((rd_T73 x3_1 (ji20)).f2) + ((rd_T73 x3_1 (ji23)).f2))) + 1))]) ?_ 0 _ rfl; refine sb_ ?_; exact BK142.out⟩; have n5_ : Aside0 (Below w.heap.size w (w58.setCell ⟨gb142, 0, none⟩ (.string ((((rd_T73 x3_1 (ji20)).f0) ++ (⟨#[124]⟩ : ByteArray)) ++ t143)))) := ⟨by repeat (first | (with_reducible first | exact HB.out | apply below_alloc | apply pw_below_drewN | apply below_drew1 | refine below_set ?_ GE133.out | refine below_set ?_ GE140.out | refine below_set ?_ GE141.out | refine below_set ?_ GE142.out) | exact HB.out)⟩
                (try clear HO_3)
                (try clear BK133)
                (try clear BK140)
                (try clear BK141)
                (try clear BK142)
                (try clear HB)
                generalize (w58.setCell ⟨gb142, 0, none⟩ (.string ((((rd_T73 x3_1 (ji20)).f0) ++ (⟨#[124]⟩ : ByteArray)) ++ t143))) = w60 at n0_ n1_ n2_ n3_ n4_ n5_ ⊢
                have HO_3 := n0_; have BK133 := n1_; have BK140 := n2_; have BK141 := n3_; have BK142 := n4_; have HB := n5_; clear n0_ n1_ n2_ n3_ n4_ n5_
                (try (rw [drewN_self w60]; generalize hq_ : World.drewN w60 _ = w60; have n0_ : Aside0 (Kd.R k73 73 w60 w.heap.size (fun k_ => k_ ≠ gb140 ∧ k_ ≠ gb141 ∧ k_ ≠ gb142) (.slice (some ad138) x3_1.length co36) x3_1) := ⟨by rw [← hq_]; exact (r_ HO_3.out)⟩; have n1_ : Aside0 (w60.heap[gb133]? = some (.cells #[.int .i64 ((rd_T54 l0 x12_1).f0), .int .i64 ((rd_T54 l0 x12_1).f1), .int .i64 ((rd_T54 l0 x12_1).f2)] 54 (0, 0))) := ⟨by rw [← hq_]; exact (bk_ BK133.out)⟩; have n2_ : Aside0 (w60.heap[gb140]? = some (.cells #[.string ((rd_T73 x3_1 (ji20)).f0), .bool ((rd_T73 x3_1 (ji20)).f1), .int .i64 ((rd_T73 x3_1 (ji20)).f2)] 73 (0, 0))) := ⟨by rw [← hq_]; exact (bk_ BK140.out)⟩; have n3_ : Aside0 (w60.heap[gb141]? = some (.cells #[.string ((rd_T73 x3_1 (ji23)).f0), .bool ((rd_T73 x3_1 (ji23)).f1), .int .i64 ((rd_T73 x3_1 (ji23)).f2)] 73 (0, 0))) := ⟨by rw [← hq_]; exact (bk_ BK141.out)⟩; have n4_ : Aside0 (w60.heap[gb142]? = some (.cells #[.string ((((rd_T73 x3_1 (ji20)).f0) ++ (⟨#[124]⟩ : ByteArray)) ++ t143), .bool true, .int .i64 (wrap64 ((wrap64 (((rd_T73 x3_1 (ji20)).f2) + ((rd_T73 x3_1 (ji23)).f2))) + 1))] 73 (0, 0))) := ⟨by rw [← hq_]; exact (bk_ BK142.out)⟩; have n5_ : Aside0 (Below w.heap.size w w60) := ⟨by rw [← hq_]; exact (by repeat (first | (with_reducible first | exact HB.out | apply below_alloc | apply pw_below_drewN | apply below_drew1 | refine below_set ?_ GE133.out | refine below_set ?_ GE140.out | refine below_set ?_ GE141.out | refine below_set ?_ GE142.out) | exact HB.out))⟩; clear HO_3 BK133 BK140 BK141 BK142 HB hq_; have HO_3 := n0_; have BK133 := n1_; have BK140 := n2_; have BK141 := n3_; have BK142 := n4_; have HB := n5_; clear n0_ n1_ n2_ n3_ n4_ n5_))
                have n0_ := Aside0.mk (Kd.R_drew HO_3.out); have n1_ := Aside0.mk (blk_drew BK133.out); have n2_ := Aside0.mk (blk_drew BK140.out); have n3_ := Aside0.mk (blk_drew BK141.out); have n4_ := Aside0.mk (blk_drew BK142.out); have n5_ := Aside0.mk (below_drew1 HB.out); clear HO_3 BK133 BK140 BK141 BK142 HB; have HO_3 := n0_; have BK133 := n1_; have BK140 := n2_; have BK141 := n3_; have BK142 := n4_; have HB := n5_; clear n0_ n1_ n2_ n3_ n4_ n5_; have q62 : ((ji20) : Int) ≤ ((x3_1.length : Int) : Int) := of_decide_eq_true as_; obtain ⟨i062, hi062, _, hsz62, _⟩ := info_parts info73; have hcut62 := cut_to (P := Tryd.prog) 71 73 .i64 Tryd.underlying71 hi062 (some ad138) x3_1.length co36 (ji20) (of_decide_eq_true as_) q62 (Kd.R_reads' HO_3.out).2.1; have hr62 := Kd.R_take (m := ((ji20) : Int).toNat) HO_3.out (by omega); have hy62 : y144.length = ((ji20) : Int).toNat := (by rw [Ny144.out, List.length_take]; omega)
                rw [← Ny144.out] at hr62
                rw [← hy62] at hr62 hcut62
                clear hy62 hi062 hsz62 HO_3; have HO146 := Aside0.mk hr62; clear hr62; replace q62 := eq_true q62
                refine start_ (n := 9) (S := fun w' => w'.cell? ⟨gb142, 0, none⟩ = some (.string ((((rd_T73 x3_1 (ji20)).f0) ++ (⟨#[124]⟩ : ByteArray)) ++ t143)) ∧ w'.cell? ⟨gb142, 1, none⟩ = some (.bool true) ∧ w'.cell? ⟨gb142, 2, none⟩ = some (.int .i64 (wrap64 ((wrap64 (((rd_T73 x3_1 (ji20)).f2) + ((rd_T73 x3_1 (ji23)).f2))) + 1)))) (ds := []) #[false, false, false, false, false, false, false, false, false] (by kernel_rfl) rfl rfl ⟨(blk_cell BK142.out 0).trans rfl, (blk_cell BK142.out 1).trans rfl, (blk_cell BK142.out 2).trans rfl⟩ (fun hHeld => ?_); refine with_tabW impl_termText.tab12 impl_termText.bits12 (fun HT_ HW_ => ?_)
                generalize w60.drew = w61 at BK133 BK140 BK141 BK142 HB HO146 hHeld ⊢
                refine pure_ (i := 0) (N := some 81) (v := ?_) (a' := ?_) #[true, false, false, false, false, false, false, false, false] rfl rfl (any_of HT_.out (by kernel_rfl)) (fun _ _ _ h => h) (Or.inl ⟨by rfl, ?_⟩) ?_ ?_
                rotate_left
                ·intro w'
                 go_simp
                 with_reducible rfl
                rotate_left
                ·simp only [Act.put, List.setIfInBounds_toArray, List.set_cons_zero, List.set_cons_succ, i64_w, i32_w]
                 rfl
                refine pure_ (i := 1) (N := some 82) (v := ?_) (a' := ?_) #[true, true, false, false, false, false, false, false, false] rfl rfl (any_of HT_.out (by kernel_rfl)) (fun _ _ _ h => h) (Or.inl ⟨by rfl, ?_⟩) ?_ ?_
                rotate_left
                ·intro w'
                 go_simp
                 with_reducible rfl
                rotate_left
                ·simp only [Act.put, List.setIfInBounds_toArray, List.set_cons_zero, List.set_cons_succ, i64_w, i32_w]
                 rfl
                refine pure_ (i := 2) (N := some 83) (v := ?_) (a' := ?_) #[true, true, true, false, false, false, false, false, false] rfl rfl (any_of HT_.out (by kernel_rfl)) (fun _ _ _ h => h) (Or.inl ⟨by rfl, ?_⟩) ?_ ?_
                rotate_left
                ·intro w'
                 go_simp
                 with_reducible rfl
                rotate_left
                ·simp only [Act.put, List.setIfInBounds_toArray, List.set_cons_zero, List.set_cons_succ, i64_w, i32_w]
                 rfl
                refine pure_ (i := 3) (N := some 84) (v := ?_) (a' := ?_) #[true, true, true, true, false, false, false, false, false] rfl rfl (any_of HT_.out (by kernel_rfl)) (fun _ _ _ h => h) (Or.inl ⟨by rfl, ?_⟩) ?_ ?_
                rotate_left
                ·intro w'
                 go_simp
                 with_reducible rfl
                rotate_left
                ·simp only [Act.put, List.setIfInBounds_toArray, List.set_cons_zero, List.set_cons_succ, i64_w, i32_w]
                 rfl
                refine pure_ (i := 4) (N := some 85) (v := ?_) (a' := ?_) #[true, true, true, true, true, false, false, false, false] rfl rfl (any_of HT_.out (by kernel_rfl)) (fun _ _ _ h => h) (Or.inl ⟨by rfl, ?_⟩) ?_ ?_
                rotate_left
                ·intro w'
                 go_simp
                 with_reducible rfl
                rotate_left
                ·simp only [Act.put, List.setIfInBounds_toArray, List.set_cons_zero, List.set_cons_succ, i64_w, i32_w]
                 rfl
                refine take_ (i := 5) (N := some 86) (v := ?_) (a' := ?_) #[true, true, true, true, true, true, false, false, false] rfl rfl (take_ofW HT_.out HW_.out (by kernel_rfl)) (fun _ _ _ h => h) (Or.inl ⟨by rfl, ?_⟩) hHeld ?_ ?_
                rotate_left
                ·rintro w' ⟨s0, s1, s2⟩
                 go_simp
                 with_reducible rfl
                rotate_left
                ·simp only [Act.put, List.setIfInBounds_toArray, List.set_cons_zero, List.set_cons_succ, i64_w, i32_w]
                 rfl
                refine one_ (i := 6) (N := some 87) #[true, true, true, true, true, true, true, false, false] rfl rfl (one_of HT_.out (by kernel_rfl)) (by decide) (fun K hK => ?_)
                refine value_ (w1 := ?_) (v := ?_) (by rfl) rfl ?_ ?_
                rotate_left 2
                ·go_simp
                 constructor
                 ·rfl
                 ·rfl
                refine hK.out _ _ ⟨(blk_cell (blk_alloc BK142.out _) 0).trans rfl, (blk_cell (blk_alloc BK142.out _) 1).trans rfl, (blk_cell (blk_alloc BK142.out _) 2).trans rfl⟩ (fun hHeld => ?_)
                clear hK K
                refine norm_ (a' := ?_) ?_ ?_
                rotate_left
                ·show Act.put _ (some 87) _ = _
                 simp only [Act.put, List.setIfInBounds_toArray, List.set_cons_zero, List.set_cons_succ, i64_w, i32_w]
                 rfl
                refine one_ (i := 7) (N := some 88) #[true, true, true, true, true, true, true, true, false] rfl rfl (one_of HT_.out (by kernel_rfl)) (by decide) (fun K hK => ?_)
                refine Kd.R_append_step k73 (w0 := w) w.heap.size (by rfl) (.tmp 85) (.tmp 87) 71 73 (.agg #[(.string ⟨#[]⟩), (.bool false), (.int .i64 0)]) 32 rfl Tryd.underlying71 info73 rfl (by decide) (by omega) (.slice (some ad138) y144.length co36) y144 (⟨(((rd_T73 x3_1 (ji20)).f0) ++ (⟨#[124]⟩ : ByteArray)) ++ t143, true, wrap64 ((wrap64 (((rd_T73 x3_1 (ji20)).f2) + ((rd_T73 x3_1 (ji23)).f2))) + 1)⟩ : S73) [.string ((((rd_T73 x3_1 (ji20)).f0) ++ (⟨#[124]⟩ : ByteArray)) ++ t143), .bool true, .int .i64 (wrap64 ((wrap64 (((rd_T73 x3_1 (ji20)).f2) + ((rd_T73 x3_1 (ji23)).f2))) + 1))] (fun k_ => k_ ≠ gb140 ∧ k_ ≠ gb141 ∧ k_ ≠ gb142) (fun _ => False) rfl rfl ?aP (fun _ hk => hk.elim) ?aF ?aO ?aB ?aS ?aL ?_
                (case aP => exact k73_mkM _ _ _ (⟨(((rd_T73 x3_1 (ji20)).f0) ++ (⟨#[124]⟩ : ByteArray)) ++ t143, true, wrap64 ((wrap64 (((rd_T73 x3_1 (ji20)).f2) + ((rd_T73 x3_1 (ji23)).f2))) + 1)⟩ : S73))
                (case aB => exact (by repeat (first | (with_reducible first | exact HB.out | apply below_alloc | apply pw_below_drewN | apply below_drew1 | refine below_set ?_ GE133.out | refine below_set ?_ GE140.out | refine below_set ?_ GE141.out | refine below_set ?_ GE142.out) | exact HB.out)))
                (case aF => exact (fun k_ hk => ⟨Kd.freshB (g := gb140) (o := .cells #[.string ((rd_T73 x3_1 (ji20)).f0), .bool ((rd_T73 x3_1 (ji20)).f1), .int .i64 ((rd_T73 x3_1 (ji20)).f2)] 73 (0, 0)) (bk_ BK140.out) k_ hk, Kd.freshB (g := gb141) (o := .cells #[.string ((rd_T73 x3_1 (ji23)).f0), .bool ((rd_T73 x3_1 (ji23)).f1), .int .i64 ((rd_T73 x3_1 (ji23)).f2)] 73 (0, 0)) (bk_ BK141.out) k_ hk, Kd.freshB (g := gb142) (o := .cells #[.string ((((rd_T73 x3_1 (ji20)).f0) ++ (⟨#[124]⟩ : ByteArray)) ++ t143), .bool true, .int .i64 (wrap64 ((wrap64 (((rd_T73 x3_1 (ji20)).f2) + ((rd_T73 x3_1 (ji23)).f2))) + 1))] 73 (0, 0)) (bk_ BK142.out) k_ hk⟩))
                (case aO => exact (r_ HO146.out))
                (case aS => exact (below_size (by repeat (first | (with_reducible first | exact HB.out | apply below_alloc | apply pw_below_drewN | apply below_drew1 | refine below_set ?_ GE133.out | refine below_set ?_ GE140.out | refine below_set ?_ GE141.out | refine below_set ?_ GE142.out) | exact HB.out))))
                (case aL => have := LMc31.out; omega)
                intro v148 w63 ho hb hg hat
                rw [← Ny147.out] at ho
                have n0_ := Aside0.mk (blk_grown (g := gb133) (o := .cells #[.int .i64 ((rd_T54 l0 x12_1).f0), .int .i64 ((rd_T54 l0 x12_1).f1), .int .i64 ((rd_T54 l0 x12_1).f2)] 54 (0, 0)) (bk_ BK133.out) hg (Kd.R_ne HO146.out BK133.out (by decide))); have n1_ := Aside0.mk (blk_grown (g := gb140) (o := .cells #[.string ((rd_T73 x3_1 (ji20)).f0), .bool ((rd_T73 x3_1 (ji20)).f1), .int .i64 ((rd_T73 x3_1 (ji20)).f2)] 73 (0, 0)) (bk_ BK140.out) hg (Kd.R_away HO146.out (fun _ hk => hk.1))); have n2_ := Aside0.mk (blk_grown (g := gb141) (o := .cells #[.string ((rd_T73 x3_1 (ji23)).f0), .bool ((rd_T73 x3_1 (ji23)).f1), .int .i64 ((rd_T73 x3_1 (ji23)).f2)] 73 (0, 0)) (bk_ BK141.out) hg (Kd.R_away HO146.out (fun _ hk => hk.2.1))); have n3_ := Aside0.mk (blk_grown (g := gb142) (o := .cells #[.string ((((rd_T73 x3_1 (ji20)).f0) ++ (⟨#[124]⟩ : ByteArray)) ++ t143), .bool true, .int .i64 (wrap64 ((wrap64 (((rd_T73 x3_1 (ji20)).f2) + ((rd_T73 x3_1 (ji23)).f2))) + 1))] 73 (0, 0)) (bk_ BK142.out) hg (Kd.R_away HO146.out (fun _ hk => hk.2.2))); have n4_ := Aside0.mk (hb); have n5_ := Aside0.mk (ho); clear BK133 BK140 BK141 BK142 HB HO146; have BK133 := n0_; have BK140 := n1_; have BK141 := n2_; have BK142 := n3_; have HB := n4_; have HO149 := n5_; clear n0_ n1_ n2_ n3_ n4_ n5_ ho hb hg hat
                refine hK.out _ _ ⟨(blk_cell BK142.out 0).trans rfl, (blk_cell BK142.out 1).trans rfl, (blk_cell BK142.out 2).trans rfl⟩ (fun hHeld => ?_)
                clear hK K
                refine norm_ (a' := ?_) ?_ ?_
                rotate_left
                ·show Act.put _ (some 88) _ = _
                 simp only [Act.put, List.setIfInBounds_toArray, List.set_cons_zero, List.set_cons_succ, i64_w, i32_w]
                 rfl
                refine pure_ (i := 8) (N := some 3) (v := ?_) (a' := ?_) #[true, true, true, true, true, true, true, true, true] rfl rfl (any_of HT_.out (by kernel_rfl)) (fun _ _ _ h => h) (Or.inl ⟨by rfl, ?_⟩) ?_ ?_
                rotate_left
                ·intro w'
                 go_simp
                 with_reducible rfl
                rotate_left
                ·simp only [Act.put, List.setIfInBounds_toArray, List.set_cons_zero, List.set_cons_succ, i64_w, i32_w]
                 rfl
                refine done_ (done_of HT_.out (by kernel_rfl)) ?_
                try go_wp2
                go_roundg k1
                case measure => have := HK1.out; omega
                case rel => exact ⟨(y147), (wrap64 (x12_1 + 1)), si_, H', ⟨by have := HK1.out; omega⟩, ⟨by (with_reducible repeat (first | apply Kd.R_alloc | apply Kd.R_drewN | apply Kd.R_drew)); exact Kd.R_mono HO149.out (fun _ hk => trivial)⟩, ⟨by repeat (first | (with_reducible first | exact HB.out | apply below_alloc | apply pw_below_drewN | apply below_drew1 | refine below_set ?_ GE133.out | refine below_set ?_ GE140.out | refine below_set ?_ GE141.out | refine below_set ?_ GE142.out) | exact HB.out)⟩⟩
               ·rw [if_neg c31] at H
                exact absurd H (by simp)
              ·rw [if_neg c30] at H
               exact absurd H (by simp)
             ·rw [if_neg c29] at H
              exact absurd H (by simp)
            ·rw [if_neg c27] at H
             exact absurd H (by simp)
           ·rw [if_neg c26] at H
            have c26b0 : (((rd_T54 l0 x12_1).f0) == 2) = false := beq_eq_false_iff_ne.mpr c26
            rw [c26b0] at H
            have c26b1 : (((rd_T54 l0 x12_1).f0) != 2) = true := bne_iff_ne.mpr c26; replace H := Option.bind_eq_some_iff.mp H; obtain ⟨t150, A640, H⟩ := H
            try dsimp only at H
            have A64 := Aside0.mk A640; clear A640
            by_cases c65 : t150.size + 1 ≤ 9223372036854775807
            ·rw [if_pos c65] at H
             have c65b0 := eq_true c65; have c65b1 : decide (t150.size + 1 ≤ 9223372036854775807) = true := decide_eq_true c65
             try have c65b2 : (9223372036854775807 < t150.size + 1) = False := eq_false (Nat.not_lt.2 c65)
             replace H := Option.bind_eq_some_iff.mp H; obtain ⟨t151, A660, H⟩ := H
             try dsimp only at H
             have A66 := Aside0.mk A660; clear A660
             by_cases c67 : (t150 ++ (⟨#[38]⟩ : ByteArray)).size + t151.size ≤ 9223372036854775807
             ·rw [if_pos c67] at H
              have c67b0 := eq_true c67; have c67b1 : decide ((t150 ++ (⟨#[38]⟩ : ByteArray)).size + t151.size ≤ 9223372036854775807) = true := decide_eq_true c67
              try have c67b2 : (9223372036854775807 < (t150 ++ (⟨#[38]⟩ : ByteArray)).size + t151.size) = False := eq_false (Nat.not_lt.2 c67)
              try have c67b3 : (9223372036854775807 < t150.size + 1 + t151.size) = False := eq_false (Nat.not_lt.2 (by have h_ := c67; simp only [ByteArray.size_append] at h_; exact h_))
              try have c67b4 : (t150.size + 1 + t151.size ≤ 9223372036854775807) = True := eq_true (by have h_ := c67; simp only [ByteArray.size_append] at h_; exact h_)
              by_cases c68 : (ji20) ≤ (x3_1.length : Int)
              ·rw [if_pos c68] at H
               have c68b0 := eq_true c68; have c68b1 : decide ((ji20) ≤ (x3_1.length : Int)) = true := decide_eq_true c68; clear c68; obtain ⟨y152, hy152⟩ : ∃ y_ : List (S73), y_ = (x3_1.take ((ji20) : Int).toNat) := ⟨_, rfl⟩
               replace H : (if y152.length < 4398046511104 then (impl_termText.l0 k1 (y152 ++ [(⟨(t150 ++ (⟨#[38]⟩ : ByteArray)) ++ t151, false, wrap64 ((wrap64 (((rd_T73 x3_1 (ji20)).f2) + ((rd_T73 x3_1 (ji23)).f2))) + 1)⟩ : S73)]) l0 (l0.length : Int) (wrap64 (x12_1 + 1))) else (none)) = some r := by first | (rw [hy152]; with_reducible exact H) | (have H2_ := (Option.bind_some _ _).symm.trans H; rw [hy152]; with_reducible exact H2_) | (have H2_ := (Option.bind_some _ _).symm.trans H; with_reducible exact H2_) | with_reducible exact H | (rw [hy152]; exact H) | exact H
               have Ny152 := Aside0.mk hy152; clear hy152
               by_cases c69 : y152.length < 4398046511104
               ·rw [if_pos c69] at H
                have LMc69 := Aside0.mk c69; clear c69; obtain ⟨y155, hy155⟩ : ∃ y_ : List (S73), y_ = (y152 ++ [(⟨(t150 ++ (⟨#[38]⟩ : ByteArray)) ++ t151, false, wrap64 ((wrap64 (((rd_T73 x3_1 (ji20)).f2) + ((rd_T73 x3_1 (ji23)).f2))) + 1)⟩ : S73)]) := ⟨_, rfl⟩
                replace H : (impl_termText.l0 k1 y155 l0 (l0.length : Int) (wrap64 (x12_1 + 1))) = some r := by first | (rw [hy155]; with_reducible exact H) | (have H2_ := (Option.bind_some _ _).symm.trans H; rw [hy155]; with_reducible exact H2_) | (have H2_ := (Option.bind_some _ _).symm.trans H; with_reducible exact H2_) | with_reducible exact H | (rw [hy155]; exact H) | exact H
                have Ny155 := Aside0.mk hy155; clear hy155; have H' := Aside0.mk H; clear H; have p132 : 0 ≤ (x12_1 : Int) := of_decide_eq_true as_; have q132 : x12_1 < (l0.length : Int) := of_decide_eq_true as_; obtain ⟨ad132, e132, hx132_0, hx132_1, hx132_2⟩ := at_T54 HR0.out x12_1 p132 q132; cases e132; replace hx132_0 := (HB.out.cell (World.block_lt_of_cell? w _ hx132_0)).trans hx132_0; replace hx132_1 := (HB.out.cell (World.block_lt_of_cell? w _ hx132_1)).trans hx132_1; replace hx132_2 := (HB.out.cell (World.block_lt_of_cell? w _ hx132_2)).trans hx132_2; replace p132 := eq_true p132; replace q132 := eq_true q132
                try go_wp2_with (first | ((with_reducible refine gate_dst (N := 5) rfl ?_); refine box_event ?hg (N := 5) ?hd (cs := #[.int .i64 0, .int .i64 0, .int .i64 0]) (t := 54) ?hr ?_; (case hd => rfl); (case hg => rfl); (case hr => first | (go_simp; done) | (go_simp; rfl)); intro gb133 hg w70 hbox hb; have n0_ := Aside0.mk (Kd.R_below (r_ HO_3.out) hb); have n1_ := Aside0.mk (below_step (bl_ HB.out) hb); have n2_ := Aside0.mk (hbox); have n3_ := Aside0.mk ((by rw [hg]; exact (below_size (bl_ HB.out)) : w.heap.size ≤ gb133)); have n4_ := Aside0.mk ((by rw [hg]; exact (below_size (bl_ HB.out)) : w.heap.size ≤ gb133)); clear HO_3; clear HB; have HO_3 := n0_; have HB := n1_; have BK133 := n2_; have GW133 := n3_; have GE133 := n4_; clear n0_ n1_ n2_ n3_ n4_; clear hb hbox hg; have hcz71_0 : w70.cell? ⟨gb133, 0, none⟩ = some (.int .i64 0) := (blk_cell BK133.out 0).trans rfl; have hcz71_1 : w70.cell? ⟨gb133, 1, none⟩ = some (.int .i64 0) := (blk_cell BK133.out 1).trans rfl; have hcz71_2 : w70.cell? ⟨gb133, 2, none⟩ = some (.int .i64 0) := (blk_cell BK133.out 2).trans rfl; have hfz71_0 := blk_frozen BK133.out 0; have hfz71_1 := blk_frozen BK133.out 1; have hfz71_2 := blk_frozen BK133.out 2))
                have n0_ : Aside0 (Kd.R k73 73 (((w70.setCell ⟨gb133, 0, none⟩ (.int .i64 ((rd_T54 l0 x12_1).f0))).setCell ⟨gb133, 1, none⟩ (.int .i64 ((rd_T54 l0 x12_1).f1))).setCell ⟨gb133, 2, none⟩ (.int .i64 ((rd_T54 l0 x12_1).f2))) w.heap.size (fun _ => True) u3 x3_1) := ⟨by (with_reducible repeat (first | apply Kd.R_alloc | apply Kd.R_drewN | apply Kd.R_drew)); exact Kd.R_mono (Kd.R_far (p := ⟨gb133, 2, none⟩) (Kd.R_far (p := ⟨gb133, 1, none⟩) (Kd.R_far (p := ⟨gb133, 0, none⟩) (Kd.R_types HO_3.out BK133.out (by decide)) (fun _ hk => hk.2) (.int .i64 ((rd_T54 l0 x12_1).f0))) (fun _ hk => hk.2) (.int .i64 ((rd_T54 l0 x12_1).f1))) (fun _ hk => hk.2) (.int .i64 ((rd_T54 l0 x12_1).f2))) (fun _ hk => trivial)⟩; have n1_ : Aside0 ((((w70.setCell ⟨gb133, 0, none⟩ (.int .i64 ((rd_T54 l0 x12_1).f0))).setCell ⟨gb133, 1, none⟩ (.int .i64 ((rd_T54 l0 x12_1).f1))).setCell ⟨gb133, 2, none⟩ (.int .i64 ((rd_T54 l0 x12_1).f2))).heap[gb133]? = some (.cells #[.int .i64 ((rd_T54 l0 x12_1).f0), .int .i64 ((rd_T54 l0 x12_1).f1), .int .i64 ((rd_T54 l0 x12_1).f2)] 54 (0, 0))) := ⟨by refine sb_ ?_; refine blk_put (cs := #[.int .i64 ((rd_T54 l0 x12_1).f0), .int .i64 ((rd_T54 l0 x12_1).f1), .int .i64 0]) ?_ 2 _ rfl; refine sb_ ?_; refine blk_put (cs := #[.int .i64 ((rd_T54 l0 x12_1).f0), .int .i64 0, .int .i64 0]) ?_ 1 _ rfl; refine sb_ ?_; refine blk_put (cs := #[.int .i64 0, .int .i64 0, .int .i64 0]) ?_ 0 _ rfl; refine sb_ ?_; exact BK133.out⟩; have n2_ : Aside0 (Below w.heap.size w (((w70.setCell ⟨gb133, 0, none⟩ (.int .i64 ((rd_T54 l0 x12_1).f0))).setCell ⟨gb133, 1, none⟩ (.int .i64 ((rd_T54 l0 x12_1).f1))).setCell ⟨gb133, 2, none⟩ (.int .i64 ((rd_T54 l0 x12_1).f2)))) := ⟨bs_ HB.out GE133.out⟩
                (try clear HO_3)
                (try clear BK133)
                (try clear HB)
                generalize (((w70.setCell ⟨gb133, 0, none⟩ (.int .i64 ((rd_T54 l0 x12_1).f0))).setCell ⟨gb133, 1, none⟩ (.int .i64 ((rd_T54 l0 x12_1).f1))).setCell ⟨gb133, 2, none⟩ (.int .i64 ((rd_T54 l0 x12_1).f2))) = w72 at n0_ n1_ n2_ ⊢
                have HO_3 := n0_; have BK133 := n1_; have HB := n2_; clear n0_ n1_ n2_; have n0_ := Aside0.mk (Kd.R_drew HO_3.out); have n1_ := Aside0.mk (blk_drew BK133.out); have n2_ := Aside0.mk (below_drew1 HB.out); clear HO_3 BK133 HB; have HO_3 := n0_; have BK133 := n1_; have HB := n2_; clear n0_ n1_ n2_; obtain ⟨Ao74, co74, eo74⟩ := Kd.R_slice HO_3.out
                (first | subst eo74 | (injection eo74 with f1_ f2_ f3_; have f4_ := f1_.symm; have f5_ := f3_.symm; clear f1_ f2_ f3_; subst f4_; subst f5_))
                have p138 : 0 ≤ ((ji20) : Int) := of_decide_eq_true as_; have q138 : (ji20) < (x3_1.length : Int) := of_decide_eq_true as_; obtain ⟨ad138, e138, hx138_0, hx138_1, hx138_2⟩ := at_T73 (Kd.R_reads' HO_3.out).2.2 (ji20) p138 q138; cases e138; replace p138 := eq_true p138; replace q138 := eq_true q138; have p139 : 0 ≤ ((ji23) : Int) := of_decide_eq_true as_; have q139 : (ji23) < (x3_1.length : Int) := of_decide_eq_true as_; obtain ⟨ad139, e139, hx139_0, hx139_1, hx139_2⟩ := at_T73 (Kd.R_reads' HO_3.out).2.2 (ji23) p139 q139; obtain rfl : ad138 = ad139 := (by injection e139); replace p139 := eq_true p139; replace q139 := eq_true q139
                refine start_ (n := 16) (S := fun w' => w'.cell? (ad138.add (((ji20)).toNat * 3)) = some (.string ((rd_T73 x3_1 (ji20)).f0)) ∧ w'.cell? ⟨(ad138.add (((ji20)).toNat * 3)).block, (ad138.add (((ji20)).toNat * 3)).off + 1, none⟩ = some (.bool ((rd_T73 x3_1 (ji20)).f1)) ∧ w'.cell? ⟨(ad138.add (((ji20)).toNat * 3)).block, (ad138.add (((ji20)).toNat * 3)).off + 2, none⟩ = some (.int .i64 ((rd_T73 x3_1 (ji20)).f2)) ∧ w'.cell? (ad138.add (((ji23)).toNat * 3)) = some (.string ((rd_T73 x3_1 (ji23)).f0)) ∧ w'.cell? ⟨(ad138.add (((ji23)).toNat * 3)).block, (ad138.add (((ji23)).toNat * 3)).off + 1, none⟩ = some (.bool ((rd_T73 x3_1 (ji23)).f1)) ∧ w'.cell? ⟨(ad138.add (((ji23)).toNat * 3)).block, (ad138.add (((ji23)).toNat * 3)).off + 2, none⟩ = some (.int .i64 ((rd_T73 x3_1 (ji23)).f2))) (ds := []) #[false, false, false, false, false, false, false, false, false, false, false, false, false, false, false, false] (by kernel_rfl) rfl rfl ⟨hx138_0, hx138_1, hx138_2, hx139_0, hx139_1, hx139_2⟩ (fun hHeld => ?_); refine with_tabW impl_termText.tab7 impl_termText.bits7 (fun HT_ HW_ => ?_)
                generalize w72.drew = w73 at HO_3 BK133 HB hx138_0 hx138_1 hx138_2 hx139_0 hx139_1 hx139_2 hHeld ⊢
                refine pure_ (i := 0) (N := some 33) (v := ?_) (a' := ?_) #[true, false, false, false, false, false, false, false, false, false, false, false, false, false, false, false] rfl rfl (any_of HT_.out (by kernel_rfl)) (fun _ _ _ h => h) (Or.inl ⟨by rfl, ?_⟩) ?_ ?_
                rotate_left
                ·intro w'
                 go_simp
                 with_reducible rfl
                rotate_left
                ·simp only [Act.put, List.setIfInBounds_toArray, List.set_cons_zero, List.set_cons_succ, i64_w, i32_w]
                 rfl
                refine pure_ (i := 1) (N := some 34) (v := ?_) (a' := ?_) #[true, true, false, false, false, false, false, false, false, false, false, false, false, false, false, false] rfl rfl (any_of HT_.out (by kernel_rfl)) (fun _ _ _ h => h) (Or.inl ⟨by rfl, ?_⟩) ?_ ?_
                rotate_left
                ·intro w'
                 go_simp
                 with_reducible rfl
                rotate_left
                ·simp only [Act.put, List.setIfInBounds_toArray, List.set_cons_zero, List.set_cons_succ, i64_w, i32_w]
                 rfl
                refine pure_ (i := 2) (N := some 35) (v := ?_) (a' := ?_) #[true, true, true, false, false, false, false, false, false, false, false, false, false, false, false, false] rfl rfl (any_of HT_.out (by kernel_rfl)) (fun _ _ _ h => h) (Or.inl ⟨by rfl, ?_⟩) ?_ ?_
                rotate_left
                ·intro w'
                 go_simp
                 with_reducible rfl
                rotate_left
                ·simp only [Act.put, List.setIfInBounds_toArray, List.set_cons_zero, List.set_cons_succ, i64_w, i32_w]
                 rfl
                refine pure_ (i := 3) (N := some 36) (v := ?_) (a' := ?_) #[true, true, true, true, false, false, false, false, false, false, false, false, false, false, false, false] rfl rfl (any_of HT_.out (by kernel_rfl)) (fun _ _ _ h => h) (Or.inl ⟨by rfl, ?_⟩) ?_ ?_
                rotate_left
                ·intro w'
                 go_simp
                 with_reducible rfl
                rotate_left
                ·simp only [Act.put, List.setIfInBounds_toArray, List.set_cons_zero, List.set_cons_succ, i64_w, i32_w]
                 rfl
                refine pure_ (i := 4) (N := some 37) (v := ?_) (a' := ?_) #[true, true, true, true, true, false, false, false, false, false, false, false, false, false, false, false] rfl rfl (any_of HT_.out (by kernel_rfl)) (fun _ _ _ h => h) (Or.inl ⟨by rfl, ?_⟩) ?_ ?_
                rotate_left
                ·intro w'
                 go_simp
                 with_reducible rfl
                rotate_left
                ·simp only [Act.put, List.setIfInBounds_toArray, List.set_cons_zero, List.set_cons_succ, i64_w, i32_w]
                 rfl
                refine pure_ (i := 6) (N := some 39) (v := ?_) (a' := ?_) #[true, true, true, true, true, false, true, false, false, false, false, false, false, false, false, false] rfl rfl (any_of HT_.out (by kernel_rfl)) (fun _ _ _ h => h) (Or.inl ⟨by rfl, ?_⟩) ?_ ?_
                rotate_left
                ·intro w'
                 go_simp
                 with_reducible rfl
                rotate_left
                ·simp only [Act.put, List.setIfInBounds_toArray, List.set_cons_zero, List.set_cons_succ, i64_w, i32_w]
                 rfl
                refine pure_ (i := 7) (N := some 40) (v := ?_) (a' := ?_) #[true, true, true, true, true, false, true, true, false, false, false, false, false, false, false, false] rfl rfl (any_of HT_.out (by kernel_rfl)) (fun _ _ _ h => h) (Or.inl ⟨by rfl, ?_⟩) ?_ ?_
                rotate_left
                ·intro w'
                 go_simp
                 with_reducible rfl
                rotate_left
                ·simp only [Act.put, List.setIfInBounds_toArray, List.set_cons_zero, List.set_cons_succ, i64_w, i32_w]
                 rfl
                refine pure_ (i := 8) (N := some 41) (v := ?_) (a' := ?_) #[true, true, true, true, true, false, true, true, true, false, false, false, false, false, false, false] rfl rfl (any_of HT_.out (by kernel_rfl)) (fun _ _ _ h => h) (Or.inl ⟨by rfl, ?_⟩) ?_ ?_
                rotate_left
                ·intro w'
                 go_simp
                 with_reducible rfl
                rotate_left
                ·simp only [Act.put, List.setIfInBounds_toArray, List.set_cons_zero, List.set_cons_succ, i64_w, i32_w]
                 rfl
                refine pure_ (i := 9) (N := some 42) (v := ?_) (a' := ?_) #[true, true, true, true, true, false, true, true, true, true, false, false, false, false, false, false] rfl rfl (any_of HT_.out (by kernel_rfl)) (fun _ _ _ h => h) (Or.inl ⟨by rfl, ?_⟩) ?_ ?_
                rotate_left
                ·intro w'
                 go_simp
                 with_reducible rfl
                rotate_left
                ·simp only [Act.put, List.setIfInBounds_toArray, List.set_cons_zero, List.set_cons_succ, i64_w, i32_w]
                 rfl
                refine pure_ (i := 10) (N := some 43) (v := ?_) (a' := ?_) #[true, true, true, true, true, false, true, true, true, true, true, false, false, false, false, false] rfl rfl (any_of HT_.out (by kernel_rfl)) (fun _ _ _ h => h) (Or.inl ⟨by rfl, ?_⟩) ?_ ?_
                rotate_left
                ·intro w'
                 go_simp
                 with_reducible rfl
                rotate_left
                ·simp only [Act.put, List.setIfInBounds_toArray, List.set_cons_zero, List.set_cons_succ, i64_w, i32_w]
                 rfl
                refine take_ (i := 5) (N := some 38) (v := ?_) (a' := ?_) #[true, true, true, true, true, true, true, true, true, true, true, false, false, false, false, false] rfl rfl (take_ofW HT_.out HW_.out (by kernel_rfl)) (fun _ _ _ h => h) (Or.inl ⟨by rfl, ?_⟩) hHeld ?_ ?_
                rotate_left
                ·rintro w' ⟨s0, s1, s2, s3, s4, s5⟩
                 go_simp
                 with_reducible rfl
                rotate_left
                ·simp only [Act.put, List.setIfInBounds_toArray, List.set_cons_zero, List.set_cons_succ, i64_w, i32_w]
                 rfl
                refine take_ (i := 11) (N := some 44) (v := ?_) (a' := ?_) #[true, true, true, true, true, true, true, true, true, true, true, true, false, false, false, false] rfl rfl (take_ofW HT_.out HW_.out (by kernel_rfl)) (fun _ _ _ h => h) (Or.inl ⟨by rfl, ?_⟩) hHeld ?_ ?_
                rotate_left
                ·rintro w' ⟨s0, s1, s2, s3, s4, s5⟩
                 go_simp
                 with_reducible rfl
                rotate_left
                ·simp only [Act.put, List.setIfInBounds_toArray, List.set_cons_zero, List.set_cons_succ, i64_w, i32_w]
                 rfl
                refine join_ (σ := Nat × Nat) 2 #[true, true, true, true, true, true, true, true, true, true, true, true, true, true, false, false] (fun s_ => [(6, .pointer (some ⟨s_.1, 0, none⟩)), (7, .pointer (some ⟨s_.2, 0, none⟩))]) (fun s_ w' => (w'.cell? (ad138.add (((ji20)).toNat * 3)) = some (.string ((rd_T73 x3_1 (ji20)).f0)) ∧ w'.cell? ⟨(ad138.add (((ji20)).toNat * 3)).block, (ad138.add (((ji20)).toNat * 3)).off + 1, none⟩ = some (.bool ((rd_T73 x3_1 (ji20)).f1)) ∧ w'.cell? ⟨(ad138.add (((ji20)).toNat * 3)).block, (ad138.add (((ji20)).toNat * 3)).off + 2, none⟩ = some (.int .i64 ((rd_T73 x3_1 (ji20)).f2)) ∧ w'.cell? (ad138.add (((ji23)).toNat * 3)) = some (.string ((rd_T73 x3_1 (ji23)).f0)) ∧ w'.cell? ⟨(ad138.add (((ji23)).toNat * 3)).block, (ad138.add (((ji23)).toNat * 3)).off + 1, none⟩ = some (.bool ((rd_T73 x3_1 (ji23)).f1)) ∧ w'.cell? ⟨(ad138.add (((ji23)).toNat * 3)).block, (ad138.add (((ji23)).toNat * 3)).off + 2, none⟩ = some (.int .i64 ((rd_T73 x3_1 (ji23)).f2))) ∧ (Kd.R k73 73 w' w.heap.size (fun k_ => k_ ≠ s_.1 ∧ k_ ≠ s_.2) (.slice (some ad138) x3_1.length co74) x3_1) ∧ (w'.heap[gb133]? = some (.cells #[.int .i64 ((rd_T54 l0 x12_1).f0), .int .i64 ((rd_T54 l0 x12_1).f1), .int .i64 ((rd_T54 l0 x12_1).f2)] 54 (0, 0))) ∧ (w'.heap[s_.1]? = some (.cells #[.string (⟨#[]⟩ : ByteArray), .bool false, .int .i64 0] 73 (0, 0))) ∧ (w'.heap[s_.2]? = some (.cells #[.string (⟨#[]⟩ : ByteArray), .bool false, .int .i64 0] 73 (0, 0))) ∧ (w.heap.size ≤ s_.1) ∧ (w.heap.size ≤ s_.1) ∧ (gb133 ≠ s_.1) ∧ (s_.1 ≠ gb133) ∧ (s_.2 ≠ s_.1) ∧ (s_.1 ≠ s_.2) ∧ (w.heap.size ≤ s_.2) ∧ (w.heap.size ≤ s_.2) ∧ (gb133 ≠ s_.2) ∧ (s_.2 ≠ gb133) ∧ (Below w.heap.size w w')) ?_ ?_
                rotate_left
                ·intro hCont
                 refine two_ (i := 12) (j := 13) (Ni := some 6) (Nj := some 7) #[true, true, true, true, true, true, true, true, true, true, true, true, true, false, false, false] #[true, true, true, true, true, true, true, true, true, true, true, true, false, true, false, false] rfl rfl rfl rfl (two_of HT_.out (by kernel_rfl)) (by decide) (by decide) (fun K hK => ?_) (fun K hK => ?_)
                 ·skip
                  refine box_step ?hg (N := 6) ?hd (cs := #[.string (⟨#[]⟩ : ByteArray), .bool false, .int .i64 0]) (t := 73) ?hr ?_; (case hd => rfl); (case hg => rfl); (case hr => first | (go_simp; done) | (go_simp; rfl))
                  intro gb140 hg w75 hbox hb; have HS0_ := (hb.cell (World.block_lt_of_cell? _ _ (hHeld.1))).trans (hHeld.1); have HS1_ := (hb.cell (World.block_lt_of_cell? _ _ (hHeld.2.1))).trans (hHeld.2.1); have HS2_ := (hb.cell (World.block_lt_of_cell? _ _ (hHeld.2.2.1))).trans (hHeld.2.2.1); have HS3_ := (hb.cell (World.block_lt_of_cell? _ _ (hHeld.2.2.2.1))).trans (hHeld.2.2.2.1); have HS4_ := (hb.cell (World.block_lt_of_cell? _ _ (hHeld.2.2.2.2.1))).trans (hHeld.2.2.2.2.1); have HS5_ := (hb.cell (World.block_lt_of_cell? _ _ (hHeld.2.2.2.2.2))).trans (hHeld.2.2.2.2.2); have n0_ := Aside0.mk (Kd.R_below (Kd.R_elderB (r_ HO_3.out) gb140 (Nat.le_of_eq hg.symm)) hb); have n1_ := Aside0.mk (blk_below (g := gb133) (o := .cells #[.int .i64 ((rd_T54 l0 x12_1).f0), .int .i64 ((rd_T54 l0 x12_1).f1), .int .i64 ((rd_T54 l0 x12_1).f2)] 54 (0, 0)) (bk_ BK133.out) hb); have n2_ := Aside0.mk (below_step (bs_ HB.out GE133.out) hb); have n3_ := Aside0.mk (hbox); have n4_ := Aside0.mk ((by rw [hg]; exact (below_size (bs_ HB.out GE133.out)) : w.heap.size ≤ gb140)); have n5_ := Aside0.mk ((by rw [hg]; exact (below_size (bs_ HB.out GE133.out)) : w.heap.size ≤ gb140)); have n6_ := Aside0.mk ((by rw [hg]; exact Nat.ne_of_lt (blk_lt (g := gb133) (o := .cells #[.int .i64 ((rd_T54 l0 x12_1).f0), .int .i64 ((rd_T54 l0 x12_1).f1), .int .i64 ((rd_T54 l0 x12_1).f2)] 54 (0, 0)) (bk_ BK133.out)) : gb133 ≠ gb140)); have n7_ := Aside0.mk ((by rw [hg]; exact Nat.ne_of_gt (blk_lt (g := gb133) (o := .cells #[.int .i64 ((rd_T54 l0 x12_1).f0), .int .i64 ((rd_T54 l0 x12_1).f1), .int .i64 ((rd_T54 l0 x12_1).f2)] 54 (0, 0)) (bk_ BK133.out)) : gb140 ≠ gb133)); clear HO_3 BK133 HB; have HO_3 := n0_; have BK133 := n1_; have HB := n2_; have BK140 := n3_; have GW140 := n4_; have GE140 := n5_; have NB133_140 := n6_; have NB140_133 := n7_; clear n0_ n1_ n2_ n3_ n4_ n5_ n6_ n7_ hb hbox hg
                  refine hK.out _ _ ⟨HS0_, HS1_, HS2_, HS3_, HS4_, HS5_⟩ (fun hHeld => ?_)
                  clear hK K
                  refine norm_ (a' := ?_) ?_ ?_
                  rotate_left
                  ·show Act.put _ (some 6) _ = _
                   simp only [Act.put, List.setIfInBounds_toArray, List.set_cons_zero, List.set_cons_succ, i64_w, i32_w]
                   rfl
                  refine one_ (i := 13) (N := some 7) #[true, true, true, true, true, true, true, true, true, true, true, true, true, true, false, false] rfl rfl (one_of HT_.out (by kernel_rfl)) (by decide) (fun K hK => ?_)
                  refine box_step ?hg (N := 7) ?hd (cs := #[.string (⟨#[]⟩ : ByteArray), .bool false, .int .i64 0]) (t := 73) ?hr ?_; (case hd => rfl); (case hg => rfl); (case hr => first | (go_simp; done) | (go_simp; rfl))
                  intro gb141 hg w76 hbox hb; have HS0_ := (hb.cell (World.block_lt_of_cell? _ _ (hHeld.1))).trans (hHeld.1); have HS1_ := (hb.cell (World.block_lt_of_cell? _ _ (hHeld.2.1))).trans (hHeld.2.1); have HS2_ := (hb.cell (World.block_lt_of_cell? _ _ (hHeld.2.2.1))).trans (hHeld.2.2.1); have HS3_ := (hb.cell (World.block_lt_of_cell? _ _ (hHeld.2.2.2.1))).trans (hHeld.2.2.2.1); have HS4_ := (hb.cell (World.block_lt_of_cell? _ _ (hHeld.2.2.2.2.1))).trans (hHeld.2.2.2.2.1); have HS5_ := (hb.cell (World.block_lt_of_cell? _ _ (hHeld.2.2.2.2.2))).trans (hHeld.2.2.2.2.2); have n0_ := Aside0.mk (Kd.R_below (Kd.R_elderB (r_ HO_3.out) gb141 (Nat.le_of_eq hg.symm)) hb); have n1_ := Aside0.mk (blk_below (g := gb133) (o := .cells #[.int .i64 ((rd_T54 l0 x12_1).f0), .int .i64 ((rd_T54 l0 x12_1).f1), .int .i64 ((rd_T54 l0 x12_1).f2)] 54 (0, 0)) (bk_ BK133.out) hb); have n2_ := Aside0.mk (blk_below (g := gb140) (o := .cells #[.string (⟨#[]⟩ : ByteArray), .bool false, .int .i64 0] 73 (0, 0)) (bk_ BK140.out) hb); have n3_ := Aside0.mk (below_step (bt_ HB.out GE133.out GE140.out) hb); have n4_ := Aside0.mk (hbox); have n5_ := Aside0.mk ((by rw [hg]; exact (below_size (bt_ HB.out GE133.out GE140.out)) : w.heap.size ≤ gb141)); have n6_ := Aside0.mk ((by rw [hg]; exact (below_size (bt_ HB.out GE133.out GE140.out)) : w.heap.size ≤ gb141)); have n7_ := Aside0.mk ((by rw [hg]; exact Nat.ne_of_lt (blk_lt (g := gb133) (o := .cells #[.int .i64 ((rd_T54 l0 x12_1).f0), .int .i64 ((rd_T54 l0 x12_1).f1), .int .i64 ((rd_T54 l0 x12_1).f2)] 54 (0, 0)) (bk_ BK133.out)) : gb133 ≠ gb141)); have n8_ := Aside0.mk ((by rw [hg]; exact Nat.ne_of_gt (blk_lt (g := gb133) (o := .cells #[.int .i64 ((rd_T54 l0 x12_1).f0), .int .i64 ((rd_T54 l0 x12_1).f1), .int .i64 ((rd_T54 l0 x12_1).f2)] 54 (0, 0)) (bk_ BK133.out)) : gb141 ≠ gb133)); have n9_ := Aside0.mk ((by rw [hg]; exact Nat.ne_of_lt (blk_lt (g := gb140) (o := .cells #[.string (⟨#[]⟩ : ByteArray), .bool false, .int .i64 0] 73 (0, 0)) (bk_ BK140.out)) : gb140 ≠ gb141)); have n10_ := Aside0.mk ((by rw [hg]; exact Nat.ne_of_gt (blk_lt (g := gb140) (o := .cells #[.string (⟨#[]⟩ : ByteArray), .bool false, .int .i64 0] 73 (0, 0)) (bk_ BK140.out)) : gb141 ≠ gb140)); clear HO_3 BK133 BK140 HB; have HO_3 := n0_; have BK133 := n1_; have BK140 := n2_; have HB := n3_; have BK141 := n4_; have GW141 := n5_; have GE141 := n6_; have NB133_141 := n7_; have NB141_133 := n8_; have NB140_141 := n9_; have NB141_140 := n10_; clear n0_ n1_ n2_ n3_ n4_ n5_ n6_ n7_ n8_ n9_ n10_ hb hbox hg
                  refine hK.out _ _ ⟨HS0_, HS1_, HS2_, HS3_, HS4_, HS5_⟩ (fun hHeld => ?_)
                  clear hK K
                  refine norm_ (a' := ?_) ?_ ?_
                  rotate_left
                  ·show Act.put _ (some 7) _ = _
                   simp only [Act.put, List.setIfInBounds_toArray, List.set_cons_zero, List.set_cons_succ, i64_w, i32_w]
                   rfl
                  exact norm_ (by simp only [putAll, Act.put, List.setIfInBounds_toArray, List.set_cons_zero, List.set_cons_succ]) (hCont (gb140, gb141) _ ⟨hHeld, (by (with_reducible repeat (first | apply Kd.R_alloc | apply Kd.R_drewN | apply Kd.R_drew)); exact Kd.R_mono HO_3.out (fun _ hk => ⟨hk.1.2, hk.2⟩)), (bk_ BK133.out), (bk_ BK140.out), (bk_ BK141.out), GW140.out, GE140.out, NB133_140.out, NB140_133.out, NB141_140.out, NB140_141.out, GW141.out, GE141.out, NB133_141.out, NB141_133.out, (bu_ HB.out GE133.out GE140.out GE141.out)⟩)
                 ·skip
                  refine box_step ?hg (N := 7) ?hd (cs := #[.string (⟨#[]⟩ : ByteArray), .bool false, .int .i64 0]) (t := 73) ?hr ?_; (case hd => rfl); (case hg => rfl); (case hr => first | (go_simp; done) | (go_simp; rfl))
                  intro gb141 hg w75 hbox hb; have HS0_ := (hb.cell (World.block_lt_of_cell? _ _ (hHeld.1))).trans (hHeld.1); have HS1_ := (hb.cell (World.block_lt_of_cell? _ _ (hHeld.2.1))).trans (hHeld.2.1); have HS2_ := (hb.cell (World.block_lt_of_cell? _ _ (hHeld.2.2.1))).trans (hHeld.2.2.1); have HS3_ := (hb.cell (World.block_lt_of_cell? _ _ (hHeld.2.2.2.1))).trans (hHeld.2.2.2.1); have HS4_ := (hb.cell (World.block_lt_of_cell? _ _ (hHeld.2.2.2.2.1))).trans (hHeld.2.2.2.2.1); have HS5_ := (hb.cell (World.block_lt_of_cell? _ _ (hHeld.2.2.2.2.2))).trans (hHeld.2.2.2.2.2); have n0_ := Aside0.mk (Kd.R_below (Kd.R_elderB (r_ HO_3.out) gb141 (Nat.le_of_eq hg.symm)) hb); have n1_ := Aside0.mk (blk_below (g := gb133) (o := .cells #[.int .i64 ((rd_T54 l0 x12_1).f0), .int .i64 ((rd_T54 l0 x12_1).f1), .int .i64 ((rd_T54 l0 x12_1).f2)] 54 (0, 0)) (bk_ BK133.out) hb); have n2_ := Aside0.mk (below_step (bs_ HB.out GE133.out) hb); have n3_ := Aside0.mk (hbox); have n4_ := Aside0.mk ((by rw [hg]; exact (below_size (bs_ HB.out GE133.out)) : w.heap.size ≤ gb141)); have n5_ := Aside0.mk ((by rw [hg]; exact (below_size (bs_ HB.out GE133.out)) : w.heap.size ≤ gb141)); have n6_ := Aside0.mk ((by rw [hg]; exact Nat.ne_of_lt (blk_lt (g := gb133) (o := .cells #[.int .i64 ((rd_T54 l0 x12_1).f0), .int .i64 ((rd_T54 l0 x12_1).f1), .int .i64 ((rd_T54 l0 x12_1).f2)] 54 (0, 0)) (bk_ BK133.out)) : gb133 ≠ gb141)); have n7_ := Aside0.mk ((by rw [hg]; exact Nat.ne_of_gt (blk_lt (g := gb133) (o := .cells #[.int .i64 ((rd_T54 l0 x12_1).f0), .int .i64 ((rd_T54 l0 x12_1).f1), .int .i64 ((rd_T54 l0 x12_1).f2)] 54 (0, 0)) (bk_ BK133.out)) : gb141 ≠ gb133)); clear HO_3 BK133 HB; have HO_3 := n0_; have BK133 := n1_; have HB := n2_; have BK141 := n3_; have GW141 := n4_; have GE141 := n5_; have NB133_141 := n6_; have NB141_133 := n7_; clear n0_ n1_ n2_ n3_ n4_ n5_ n6_ n7_ hb hbox hg
                  refine hK.out _ _ ⟨HS0_, HS1_, HS2_, HS3_, HS4_, HS5_⟩ (fun hHeld => ?_)
                  clear hK K
                  refine norm_ (a' := ?_) ?_ ?_
                  rotate_left
                  ·show Act.put _ (some 7) _ = _
                   simp only [Act.put, List.setIfInBounds_toArray, List.set_cons_zero, List.set_cons_succ, i64_w, i32_w]
                   rfl
                  refine one_ (i := 12) (N := some 6) #[true, true, true, true, true, true, true, true, true, true, true, true, true, true, false, false] rfl rfl (one_of HT_.out (by kernel_rfl)) (by decide) (fun K hK => ?_)
                  refine box_step ?hg (N := 6) ?hd (cs := #[.string (⟨#[]⟩ : ByteArray), .bool false, .int .i64 0]) (t := 73) ?hr ?_; (case hd => rfl); (case hg => rfl); (case hr => first | (go_simp; done) | (go_simp; rfl))
                  intro gb140 hg w76 hbox hb; have HS0_ := (hb.cell (World.block_lt_of_cell? _ _ (hHeld.1))).trans (hHeld.1); have HS1_ := (hb.cell (World.block_lt_of_cell? _ _ (hHeld.2.1))).trans (hHeld.2.1); have HS2_ := (hb.cell (World.block_lt_of_cell? _ _ (hHeld.2.2.1))).trans (hHeld.2.2.1); have HS3_ := (hb.cell (World.block_lt_of_cell? _ _ (hHeld.2.2.2.1))).trans (hHeld.2.2.2.1); have HS4_ := (hb.cell (World.block_lt_of_cell? _ _ (hHeld.2.2.2.2.1))).trans (hHeld.2.2.2.2.1); have HS5_ := (hb.cell (World.block_lt_of_cell? _ _ (hHeld.2.2.2.2.2))).trans (hHeld.2.2.2.2.2); have n0_ := Aside0.mk (Kd.R_below (Kd.R_elderB (r_ HO_3.out) gb140 (Nat.le_of_eq hg.symm)) hb); have n1_ := Aside0.mk (blk_below (g := gb133) (o := .cells #[.int .i64 ((rd_T54 l0 x12_1).f0), .int .i64 ((rd_T54 l0 x12_1).f1), .int .i64 ((rd_T54 l0 x12_1).f2)] 54 (0, 0)) (bk_ BK133.out) hb); have n2_ := Aside0.mk (blk_below (g := gb141) (o := .cells #[.string (⟨#[]⟩ : ByteArray), .bool false, .int .i64 0] 73 (0, 0)) (bk_ BK141.out) hb); have n3_ := Aside0.mk (below_step (bt_ HB.out GE133.out GE141.out) hb); have n4_ := Aside0.mk (hbox); have n5_ := Aside0.mk ((by rw [hg]; exact (below_size (bt_ HB.out GE133.out GE141.out)) : w.heap.size ≤ gb140)); have n6_ := Aside0.mk ((by rw [hg]; exact (below_size (bt_ HB.out GE133.out GE141.out)) : w.heap.size ≤ gb140)); have n7_ := Aside0.mk ((by rw [hg]; exact Nat.ne_of_lt (blk_lt (g := gb133) (o := .cells #[.int .i64 ((rd_T54 l0 x12_1).f0), .int .i64 ((rd_T54 l0 x12_1).f1), .int .i64 ((rd_T54 l0 x12_1).f2)] 54 (0, 0)) (bk_ BK133.out)) : gb133 ≠ gb140)); have n8_ := Aside0.mk ((by rw [hg]; exact Nat.ne_of_gt (blk_lt (g := gb133) (o := .cells #[.int .i64 ((rd_T54 l0 x12_1).f0), .int .i64 ((rd_T54 l0 x12_1).f1), .int .i64 ((rd_T54 l0 x12_1).f2)] 54 (0, 0)) (bk_ BK133.out)) : gb140 ≠ gb133)); have n9_ := Aside0.mk ((by rw [hg]; exact Nat.ne_of_lt (blk_lt (g := gb141) (o := .cells #[.string (⟨#[]⟩ : ByteArray), .bool false, .int .i64 0] 73 (0, 0)) (bk_ BK141.out)) : gb141 ≠ gb140)); have n10_ := Aside0.mk ((by rw [hg]; exact Nat.ne_of_gt (blk_lt (g := gb141) (o := .cells #[.string (⟨#[]⟩ : ByteArray), .bool false, .int .i64 0] 73 (0, 0)) (bk_ BK141.out)) : gb140 ≠ gb141)); clear HO_3 BK133 BK141 HB; have HO_3 := n0_; have BK133 := n1_; have BK141 := n2_; have HB := n3_; have BK140 := n4_; have GW140 := n5_; have GE140 := n6_; have NB133_140 := n7_; have NB140_133 := n8_; have NB141_140 := n9_; have NB140_141 := n10_; clear n0_ n1_ n2_ n3_ n4_ n5_ n6_ n7_ n8_ n9_ n10_ hb hbox hg
                  refine hK.out _ _ ⟨HS0_, HS1_, HS2_, HS3_, HS4_, HS5_⟩ (fun hHeld => ?_)
                  clear hK K
                  refine norm_ (a' := ?_) ?_ ?_
                  rotate_left
                  ·show Act.put _ (some 6) _ = _
                   simp only [Act.put, List.setIfInBounds_toArray, List.set_cons_zero, List.set_cons_succ, i64_w, i32_w]
                   rfl
                  exact norm_ (by simp only [putAll, Act.put, List.setIfInBounds_toArray, List.set_cons_zero, List.set_cons_succ]) (hCont (gb140, gb141) _ ⟨hHeld, (by (with_reducible repeat (first | apply Kd.R_alloc | apply Kd.R_drewN | apply Kd.R_drew)); exact Kd.R_mono HO_3.out (fun _ hk => ⟨hk.2, hk.1.2⟩)), (bk_ BK133.out), (bk_ BK140.out), (bk_ BK141.out), GW140.out, GE140.out, NB133_140.out, NB140_133.out, NB141_140.out, NB140_141.out, GW141.out, GE141.out, NB133_141.out, NB141_133.out, (bu_ HB.out GE133.out GE141.out GE140.out)⟩)
                rintro ⟨gb140, gb141⟩ w77 ⟨hS_, h0_, h1_, h2_, h3_, h4_, h5_, h6_, h7_, h8_, h9_, h10_, h11_, h12_, h13_, h14_⟩; have n0_ : Aside0 (Kd.R k73 73 w77 w.heap.size (fun k_ => k_ ≠ gb140 ∧ k_ ≠ gb141) (.slice (some ad138) x3_1.length co74) x3_1) := ⟨h0_⟩; have n1_ : Aside0 (w77.heap[gb133]? = some (.cells #[.int .i64 ((rd_T54 l0 x12_1).f0), .int .i64 ((rd_T54 l0 x12_1).f1), .int .i64 ((rd_T54 l0 x12_1).f2)] 54 (0, 0))) := ⟨h1_⟩; have n2_ : Aside0 (w77.heap[gb140]? = some (.cells #[.string (⟨#[]⟩ : ByteArray), .bool false, .int .i64 0] 73 (0, 0))) := ⟨h2_⟩; have n3_ : Aside0 (w77.heap[gb141]? = some (.cells #[.string (⟨#[]⟩ : ByteArray), .bool false, .int .i64 0] 73 (0, 0))) := ⟨h3_⟩; have n4_ : Aside0 (w.heap.size ≤ gb140) := ⟨h4_⟩; have n5_ : Aside0 (w.heap.size ≤ gb140) := ⟨h5_⟩; have n6_ : Aside0 (gb133 ≠ gb140) := ⟨h6_⟩; have n7_ : Aside0 (gb140 ≠ gb133) := ⟨h7_⟩; have n8_ : Aside0 (gb141 ≠ gb140) := ⟨h8_⟩; have n9_ : Aside0 (gb140 ≠ gb141) := ⟨h9_⟩; have n10_ : Aside0 (w.heap.size ≤ gb141) := ⟨h10_⟩; have n11_ : Aside0 (w.heap.size ≤ gb141) := ⟨h11_⟩; have n12_ : Aside0 (gb133 ≠ gb141) := ⟨h12_⟩; have n13_ : Aside0 (gb141 ≠ gb133) := ⟨h13_⟩; have n14_ : Aside0 (Below w.heap.size w w77) := ⟨h14_⟩; clear HO_3 BK133 HB h0_ h1_ h2_ h3_ h4_ h5_ h6_ h7_ h8_ h9_ h10_ h11_ h12_ h13_ h14_; have HO_3 := n0_; have BK133 := n1_; have BK140 := n2_; have BK141 := n3_; have GW140 := n4_; have GE140 := n5_; have NB133_140 := n6_; have NB140_133 := n7_; have NB141_140 := n8_; have NB140_141 := n9_; have GW141 := n10_; have GE141 := n11_; have NB133_141 := n12_; have NB141_133 := n13_; have HB := n14_; clear n0_ n1_ n2_ n3_ n4_ n5_ n6_ n7_ n8_ n9_ n10_ n11_ n12_ n13_ n14_; have hHeld : w77.cell? (ad138.add (((ji20)).toNat * 3)) = some (.string ((rd_T73 x3_1 (ji20)).f0)) ∧ w77.cell? ⟨(ad138.add (((ji20)).toNat * 3)).block, (ad138.add (((ji20)).toNat * 3)).off + 1, none⟩ = some (.bool ((rd_T73 x3_1 (ji20)).f1)) ∧ w77.cell? ⟨(ad138.add (((ji20)).toNat * 3)).block, (ad138.add (((ji20)).toNat * 3)).off + 2, none⟩ = some (.int .i64 ((rd_T73 x3_1 (ji20)).f2)) ∧ w77.cell? (ad138.add (((ji23)).toNat * 3)) = some (.string ((rd_T73 x3_1 (ji23)).f0)) ∧ w77.cell? ⟨(ad138.add (((ji23)).toNat * 3)).block, (ad138.add (((ji23)).toNat * 3)).off + 1, none⟩ = some (.bool ((rd_T73 x3_1 (ji23)).f1)) ∧ w77.cell? ⟨(ad138.add (((ji23)).toNat * 3)).block, (ad138.add (((ji23)).toNat * 3)).off + 2, none⟩ = some (.int .i64 ((rd_T73 x3_1 (ji23)).f2)) := hS_
                refine norm_ (a' := ?_) ?_ ?_
                rotate_left
                ·simp only [putAll, Act.put, List.setIfInBounds_toArray, List.set_cons_zero, List.set_cons_succ]
                 rfl
                refine one_ (i := 14) (N := none) #[true, true, true, true, true, true, true, true, true, true, true, true, true, true, true, false] rfl rfl (one_of HT_.out (by kernel_rfl)) (by decide) (fun K hK => ?_)
                have hs78 : w77.cell? ⟨gb140, 0, none⟩ = some (.string (⟨#[]⟩ : ByteArray)) := (blk_cell BK140.out 0).trans rfl; have hfs78 := blk_frozen BK140.out 0; have hns78_0 := NB133_140.out; have hns78_2 := NB141_140.out; have hms78_0 := NB140_133.out; have hms78_2 := NB140_141.out; have hs79 : w77.cell? ⟨gb140, 1, none⟩ = some (.bool false) := (blk_cell BK140.out 1).trans rfl; have hfs79 := blk_frozen BK140.out 1; have hns79_0 := NB133_140.out; have hns79_2 := NB141_140.out; have hms79_0 := NB140_133.out; have hms79_2 := NB140_141.out; have hs80 : w77.cell? ⟨gb140, 2, none⟩ = some (.int .i64 0) := (blk_cell BK140.out 2).trans rfl; have hfs80 := blk_frozen BK140.out 2; have hns80_0 := NB133_140.out; have hns80_2 := NB141_140.out; have hms80_0 := NB140_133.out; have hms80_2 := NB140_141.out
                refine skip_ (w1 := ?_) (by rfl) rfl ?_ ?_
                rotate_left
                ·go_simp
                 rfl
                refine hK.out _ _ ⟨((cell_far (p := ⟨gb140, _, none⟩) (fb_ (Kd.own_blk (Kd.R_away HO_3.out (fun _ hk => hk.1)))) _).trans (((cell_far (p := ⟨gb140, _, none⟩) (fb_ (Kd.own_blk (Kd.R_away HO_3.out (fun _ hk => hk.1)))) _).trans (((cell_far (p := ⟨gb140, _, none⟩) (fb_ (Kd.own_blk (Kd.R_away HO_3.out (fun _ hk => hk.1)))) _).trans (hHeld.1)))))), ((cell_far (p := ⟨gb140, _, none⟩) (fb_ (Kd.own_blk (Kd.R_away HO_3.out (fun _ hk => hk.1)))) _).trans (((cell_far (p := ⟨gb140, _, none⟩) (fb_ (Kd.own_blk (Kd.R_away HO_3.out (fun _ hk => hk.1)))) _).trans (((cell_far (p := ⟨gb140, _, none⟩) (fb_ (Kd.own_blk (Kd.R_away HO_3.out (fun _ hk => hk.1)))) _).trans (hHeld.2.1)))))), ((cell_far (p := ⟨gb140, _, none⟩) (fb_ (Kd.own_blk (Kd.R_away HO_3.out (fun _ hk => hk.1)))) _).trans (((cell_far (p := ⟨gb140, _, none⟩) (fb_ (Kd.own_blk (Kd.R_away HO_3.out (fun _ hk => hk.1)))) _).trans (((cell_far (p := ⟨gb140, _, none⟩) (fb_ (Kd.own_blk (Kd.R_away HO_3.out (fun _ hk => hk.1)))) _).trans (hHeld.2.2.1)))))), ((cell_far (p := ⟨gb140, _, none⟩) (fb_ (Kd.own_blk (Kd.R_away HO_3.out (fun _ hk => hk.1)))) _).trans (((cell_far (p := ⟨gb140, _, none⟩) (fb_ (Kd.own_blk (Kd.R_away HO_3.out (fun _ hk => hk.1)))) _).trans (((cell_far (p := ⟨gb140, _, none⟩) (fb_ (Kd.own_blk (Kd.R_away HO_3.out (fun _ hk => hk.1)))) _).trans (hHeld.2.2.2.1)))))), ((cell_far (p := ⟨gb140, _, none⟩) (fb_ (Kd.own_blk (Kd.R_away HO_3.out (fun _ hk => hk.1)))) _).trans (((cell_far (p := ⟨gb140, _, none⟩) (fb_ (Kd.own_blk (Kd.R_away HO_3.out (fun _ hk => hk.1)))) _).trans (((cell_far (p := ⟨gb140, _, none⟩) (fb_ (Kd.own_blk (Kd.R_away HO_3.out (fun _ hk => hk.1)))) _).trans (hHeld.2.2.2.2.1)))))), ((cell_far (p := ⟨gb140, _, none⟩) (fb_ (Kd.own_blk (Kd.R_away HO_3.out (fun _ hk => hk.1)))) _).trans (((cell_far (p := ⟨gb140, _, none⟩) (fb_ (Kd.own_blk (Kd.R_away HO_3.out (fun _ hk => hk.1)))) _).trans (((cell_far (p := ⟨gb140, _, none⟩) (fb_ (Kd.own_blk (Kd.R_away HO_3.out (fun _ hk => hk.1)))) _).trans (hHeld.2.2.2.2.2))))))⟩ (fun hHeld => ?_)
                clear hK K
                refine one_ (i := 15) (N := none) #[true, true, true, true, true, true, true, true, true, true, true, true, true, true, true, true] rfl rfl (one_of HT_.out (by kernel_rfl)) (by decide) (fun K hK => ?_)
                have hs81 : w77.cell? ⟨gb141, 0, none⟩ = some (.string (⟨#[]⟩ : ByteArray)) := (blk_cell BK141.out 0).trans rfl; have hfs81 := blk_frozen BK141.out 0; have hns81_0 := NB133_141.out; have hns81_1 := NB140_141.out; have hms81_0 := NB141_133.out; have hms81_1 := NB141_140.out; have hs82 : w77.cell? ⟨gb141, 1, none⟩ = some (.bool false) := (blk_cell BK141.out 1).trans rfl; have hfs82 := blk_frozen BK141.out 1; have hns82_0 := NB133_141.out; have hns82_1 := NB140_141.out; have hms82_0 := NB141_133.out; have hms82_1 := NB141_140.out; have hs83 : w77.cell? ⟨gb141, 2, none⟩ = some (.int .i64 0) := (blk_cell BK141.out 2).trans rfl; have hfs83 := blk_frozen BK141.out 2; have hns83_0 := NB133_141.out; have hns83_1 := NB140_141.out; have hms83_0 := NB141_133.out; have hms83_1 := NB141_140.out
                refine skip_ (w1 := ?_) (by rfl) rfl ?_ ?_
                rotate_left
                ·go_simp
                 rfl
                refine hK.out _ _ ⟨((cell_far (p := ⟨gb141, _, none⟩) (fb_ (Kd.own_blk (Kd.R_away HO_3.out (fun _ hk => hk.2)))) _).trans (((cell_far (p := ⟨gb141, _, none⟩) (fb_ (Kd.own_blk (Kd.R_away HO_3.out (fun _ hk => hk.2)))) _).trans (((cell_far (p := ⟨gb141, _, none⟩) (fb_ (Kd.own_blk (Kd.R_away HO_3.out (fun _ hk => hk.2)))) _).trans (hHeld.1)))))), ((cell_far (p := ⟨gb141, _, none⟩) (fb_ (Kd.own_blk (Kd.R_away HO_3.out (fun _ hk => hk.2)))) _).trans (((cell_far (p := ⟨gb141, _, none⟩) (fb_ (Kd.own_blk (Kd.R_away HO_3.out (fun _ hk => hk.2)))) _).trans (((cell_far (p := ⟨gb141, _, none⟩) (fb_ (Kd.own_blk (Kd.R_away HO_3.out (fun _ hk => hk.2)))) _).trans (hHeld.2.1)))))), ((cell_far (p := ⟨gb141, _, none⟩) (fb_ (Kd.own_blk (Kd.R_away HO_3.out (fun _ hk => hk.2)))) _).trans (((cell_far (p := ⟨gb141, _, none⟩) (fb_ (Kd.own_blk (Kd.R_away HO_3.out (fun _ hk => hk.2)))) _).trans (((cell_far (p := ⟨gb141, _, none⟩) (fb_ (Kd.own_blk (Kd.R_away HO_3.out (fun _ hk => hk.2)))) _).trans (hHeld.2.2.1)))))), ((cell_far (p := ⟨gb141, _, none⟩) (fb_ (Kd.own_blk (Kd.R_away HO_3.out (fun _ hk => hk.2)))) _).trans (((cell_far (p := ⟨gb141, _, none⟩) (fb_ (Kd.own_blk (Kd.R_away HO_3.out (fun _ hk => hk.2)))) _).trans (((cell_far (p := ⟨gb141, _, none⟩) (fb_ (Kd.own_blk (Kd.R_away HO_3.out (fun _ hk => hk.2)))) _).trans (hHeld.2.2.2.1)))))), ((cell_far (p := ⟨gb141, _, none⟩) (fb_ (Kd.own_blk (Kd.R_away HO_3.out (fun _ hk => hk.2)))) _).trans (((cell_far (p := ⟨gb141, _, none⟩) (fb_ (Kd.own_blk (Kd.R_away HO_3.out (fun _ hk => hk.2)))) _).trans (((cell_far (p := ⟨gb141, _, none⟩) (fb_ (Kd.own_blk (Kd.R_away HO_3.out (fun _ hk => hk.2)))) _).trans (hHeld.2.2.2.2.1)))))), ((cell_far (p := ⟨gb141, _, none⟩) (fb_ (Kd.own_blk (Kd.R_away HO_3.out (fun _ hk => hk.2)))) _).trans (((cell_far (p := ⟨gb141, _, none⟩) (fb_ (Kd.own_blk (Kd.R_away HO_3.out (fun _ hk => hk.2)))) _).trans (((cell_far (p := ⟨gb141, _, none⟩) (fb_ (Kd.own_blk (Kd.R_away HO_3.out (fun _ hk => hk.2)))) _).trans (hHeld.2.2.2.2.2))))))⟩ (fun hHeld => ?_)
                clear hK K
                refine done_ (done_of HT_.out (by kernel_rfl)) ?_
                have hnb84 := NB133_140.out; have hnc84 := NB140_133.out; have hnb85 := NB133_141.out; have hnc85 := NB141_133.out; have hcz86_0 : w77.cell? ⟨gb133, 0, none⟩ = some (.int .i64 ((rd_T54 l0 x12_1).f0)) := (blk_cell BK133.out 0).trans rfl; have hcz86_1 : w77.cell? ⟨gb133, 1, none⟩ = some (.int .i64 ((rd_T54 l0 x12_1).f1)) := (blk_cell BK133.out 1).trans rfl; have hcz86_2 : w77.cell? ⟨gb133, 2, none⟩ = some (.int .i64 ((rd_T54 l0 x12_1).f2)) := (blk_cell BK133.out 2).trans rfl; have hfz86_0 := blk_frozen BK133.out 0; have hfz86_1 := blk_frozen BK133.out 1; have hfz86_2 := blk_frozen BK133.out 2; have hnb87 := NB140_141.out; have hnc87 := NB141_140.out; have hcz88_0 : w77.cell? ⟨gb140, 0, none⟩ = some (.string (⟨#[]⟩ : ByteArray)) := (blk_cell BK140.out 0).trans rfl; have hcz88_1 : w77.cell? ⟨gb140, 1, none⟩ = some (.bool false) := (blk_cell BK140.out 1).trans rfl; have hcz88_2 : w77.cell? ⟨gb140, 2, none⟩ = some (.int .i64 0) := (blk_cell BK140.out 2).trans rfl; have hfz88_0 := blk_frozen BK140.out 0; have hfz88_1 := blk_frozen BK140.out 1; have hfz88_2 := blk_frozen BK140.out 2; have hcz89_0 : w77.cell? ⟨gb141, 0, none⟩ = some (.string (⟨#[]⟩ : ByteArray)) := (blk_cell BK141.out 0).trans rfl; have hcz89_1 : w77.cell? ⟨gb141, 1, none⟩ = some (.bool false) := (blk_cell BK141.out 1).trans rfl; have hcz89_2 : w77.cell? ⟨gb141, 2, none⟩ = some (.int .i64 0) := (blk_cell BK141.out 2).trans rfl; have hfz89_0 := blk_frozen BK141.out 0; have hfz89_1 := blk_frozen BK141.out 1; have hfz89_2 := blk_frozen BK141.out 2
                try go_wp2_with (first | ((with_reducible refine gate_dst (N := 8) rfl ?_); refine box_event ?hg (N := 8) ?hd (cs := #[.string (⟨#[]⟩ : ByteArray), .bool false, .int .i64 0]) (t := 73) ?hr ?_; (case hd => rfl); (case hg => rfl); (case hr => first | (go_simp; done) | (go_simp; rfl)); intro gb142 hg w90 hbox hb; have n0_ := Aside0.mk (Kd.R_below (Kd.R_elderB (by (with_reducible repeat (first | apply Kd.R_alloc | apply Kd.R_drewN | apply Kd.R_drew)); exact (Kd.R_mono (Kd.R_mono (Kd.R_far (p := ⟨gb141, 2, none⟩) (Kd.R_far (p := ⟨gb141, 1, none⟩) (Kd.R_far (p := ⟨gb141, 0, none⟩) (Kd.R_far (p := ⟨gb140, 2, none⟩) (Kd.R_far (p := ⟨gb140, 1, none⟩) (Kd.R_far (p := ⟨gb140, 0, none⟩) (Kd.R_mono (Kd.R_mono HO_3.out (fun k_ hk => (⟨hk, hk.1⟩ : _ ∧ k_ ≠ gb140))) (fun k_ hk => (⟨hk, hk.1.2⟩ : _ ∧ k_ ≠ gb141))) (fun _ hk => hk.1.2) (.string ((rd_T73 x3_1 (ji20)).f0))) (fun _ hk => hk.1.2) (.bool ((rd_T73 x3_1 (ji20)).f1))) (fun _ hk => hk.1.2) (.int .i64 ((rd_T73 x3_1 (ji20)).f2))) (fun _ hk => hk.2) (.string ((rd_T73 x3_1 (ji23)).f0))) (fun _ hk => hk.2) (.bool ((rd_T73 x3_1 (ji23)).f1))) (fun _ hk => hk.2) (.int .i64 ((rd_T73 x3_1 (ji23)).f2))) (fun _ h_ => h_.1)) (fun _ h_ => h_.1))) gb142 (Nat.le_of_eq hg.symm)) hb); have n1_ := Aside0.mk (blk_below (g := gb133) (o := .cells #[.int .i64 ((rd_T54 l0 x12_1).f0), .int .i64 ((rd_T54 l0 x12_1).f1), .int .i64 ((rd_T54 l0 x12_1).f2)] 54 (0, 0)) (by refine sb_ ?_; refine blk_far ?_ NB133_141.out _; refine sb_ ?_; refine blk_far ?_ NB133_141.out _; refine sb_ ?_; refine blk_far ?_ NB133_141.out _; refine sb_ ?_; refine blk_far ?_ NB133_140.out _; refine sb_ ?_; refine blk_far ?_ NB133_140.out _; refine sb_ ?_; refine blk_far ?_ NB133_140.out _; refine sb_ ?_; exact BK133.out) hb); have n2_ := Aside0.mk (blk_below (g := gb140) (o := .cells #[.string ((rd_T73 x3_1 (ji20)).f0), .bool ((rd_T73 x3_1 (ji20)).f1), .int .i64 ((rd_T73 x3_1 (ji20)).f2)] 73 (0, 0)) (by refine sb_ ?_; refine blk_far ?_ NB140_141.out _; refine sb_ ?_; refine blk_far ?_ NB140_141.out _; refine sb_ ?_; refine blk_far ?_ NB140_141.out _; refine sb_ ?_; refine blk_put (cs := #[.string ((rd_T73 x3_1 (ji20)).f0), .bool ((rd_T73 x3_1 (ji20)).f1), .int .i64 0]) ?_ 2 _ rfl; refine sb_ ?_; refine blk_put (cs := #[.string ((rd_T73 x3_1 (ji20)).f0), .bool false, .int .i64 0]) ?_ 1 _ rfl; refine sb_ ?_; refine blk_put (cs := #[.string (⟨#[]⟩ : ByteArray), .bool false, .int .i64 0]) ?_ 0 _ rfl; refine sb_ ?_; exact BK140.out) hb); have n3_ := Aside0.mk (blk_below (g := gb141) (o := .cells #[.string ((rd_T73 x3_1 (ji23)).f0), .bool ((rd_T73 x3_1 (ji23)).f1), .int .i64 ((rd_T73 x3_1 (ji23)).f2)] 73 (0, 0)) (by refine sb_ ?_; refine blk_put (cs := #[.string ((rd_T73 x3_1 (ji23)).f0), .bool ((rd_T73 x3_1 (ji23)).f1), .int .i64 0]) ?_ 2 _ rfl; refine sb_ ?_; refine blk_put (cs := #[.string ((rd_T73 x3_1 (ji23)).f0), .bool false, .int .i64 0]) ?_ 1 _ rfl; refine sb_ ?_; refine blk_put (cs := #[.string (⟨#[]⟩ : ByteArray), .bool false, .int .i64 0]) ?_ 0 _ rfl; refine sb_ ?_; refine blk_far ?_ NB141_140.out _; refine sb_ ?_; refine blk_far ?_ NB141_140.out _; refine sb_ ?_; refine blk_far ?_ NB141_140.out _; refine sb_ ?_; exact BK141.out) hb); have n4_ := Aside0.mk (below_step (bu_ HB.out GE133.out GE140.out GE141.out) hb); have n5_ := Aside0.mk (hbox); have n6_ := Aside0.mk ((by rw [hg]; exact (below_size (bu_ HB.out GE133.out GE140.out GE141.out)) : w.heap.size ≤ gb142)); have n7_ := Aside0.mk ((by rw [hg]; exact (below_size (bu_ HB.out GE133.out GE140.out GE141.out)) : w.heap.size ≤ gb142)); have n8_ := Aside0.mk ((by rw [hg]; exact Nat.ne_of_lt (blk_lt (g := gb133) (o := .cells #[.int .i64 ((rd_T54 l0 x12_1).f0), .int .i64 ((rd_T54 l0 x12_1).f1), .int .i64 ((rd_T54 l0 x12_1).f2)] 54 (0, 0)) (by refine sb_ ?_; refine blk_far ?_ NB133_141.out _; refine sb_ ?_; refine blk_far ?_ NB133_141.out _; refine sb_ ?_; refine blk_far ?_ NB133_141.out _; refine sb_ ?_; refine blk_far ?_ NB133_140.out _; refine sb_ ?_; refine blk_far ?_ NB133_140.out _; refine sb_ ?_; refine blk_far ?_ NB133_140.out _; refine sb_ ?_; exact BK133.out)) : gb133 ≠ gb142)); have n9_ := Aside0.mk ((by rw [hg]; exact Nat.ne_of_gt (blk_lt (g := gb133) (o := .cells #[.int .i64 ((rd_T54 l0 x12_1).f0), .int .i64 ((rd_T54 l0 x12_1).f1), .int .i64 ((rd_T54 l0 x12_1).f2)] 54 (0, 0)) (by refine sb_ ?_; refine blk_far ?_ NB133_141.out _; refine sb_ ?_; refine blk_far ?_ NB133_141.out _; refine sb_ ?_; refine blk_far ?_ NB133_141.out _; refine sb_ ?_; refine blk_far ?_ NB133_140.out _; refine sb_ ?_; refine blk_far ?_ NB133_140.out _; refine sb_ ?_; refine blk_far ?_ NB133_140.out _; refine sb_ ?_; exact BK133.out)) : gb142 ≠ gb133)); have n10_ := Aside0.mk ((by rw [hg]; exact Nat.ne_of_lt (blk_lt (g := gb140) (o := .cells #[.string ((rd_T73 x3_1 (ji20)).f0), .bool ((rd_T73 x3_1 (ji20)).f1), .int .i64 ((rd_T73 x3_1 (ji20)).f2)] 73 (0, 0)) (by refine sb_ ?_; refine blk_far ?_ NB140_141.out _; refine sb_ ?_; refine blk_far ?_ NB140_141.out _; refine sb_ ?_; refine blk_far ?_ NB140_141.out _; refine sb_ ?_; refine blk_put (cs := #[.string ((rd_T73 x3_1 (ji20)).f0), .bool ((rd_T73 x3_1 (ji20)).f1), .int .i64 0]) ?_ 2 _ rfl; refine sb_ ?_; refine blk_put (cs := #[.string ((rd_T73 x3_1 (ji20)).f0), .bool false, .int .i64 0]) ?_ 1 _ rfl; refine sb_ ?_; refine blk_put (cs := #[.string (⟨#[]⟩ : ByteArray), .bool false, .int .i64 0]) ?_ 0 _ rfl; refine sb_ ?_; exact BK140.out)) : gb140 ≠ gb142)); have n11_ := Aside0.mk ((by rw [hg]; exact Nat.ne_of_gt (blk_lt (g := gb140) (o := .cells #[.string ((rd_T73 x3_1 (ji20)).f0), .bool ((rd_T73 x3_1 (ji20)).f1), .int .i64 ((rd_T73 x3_1 (ji20)).f2)] 73 (0, 0)) (by refine sb_ ?_; refine blk_far ?_ NB140_141.out _; refine sb_ ?_; refine blk_far ?_ NB140_141.out _; refine sb_ ?_; refine blk_far ?_ NB140_141.out _; refine sb_ ?_; refine blk_put (cs := #[.string ((rd_T73 x3_1 (ji20)).f0), .bool ((rd_T73 x3_1 (ji20)).f1), .int .i64 0]) ?_ 2 _ rfl; refine sb_ ?_; refine blk_put (cs := #[.string ((rd_T73 x3_1 (ji20)).f0), .bool false, .int .i64 0]) ?_ 1 _ rfl; refine sb_ ?_; refine blk_put (cs := #[.string (⟨#[]⟩ : ByteArray), .bool false, .int .i64 0]) ?_ 0 _ rfl; refine sb_ ?_; exact BK140.out)) : gb142 ≠ gb140)); have n12_ := Aside0.mk ((by rw [hg]; exact Nat.ne_of_lt (blk_lt (g := gb141) (o := .cells #[.string ((rd_T73 x3_1 (ji23)).f0), .bool ((rd_T73 x3_1 (ji23)).f1), .int .i64 ((rd_T73 x3_1 (ji23)).f2)] 73 (0, 0)) (by refine sb_ ?_; refine blk_put (cs := #[.string ((rd_T73 x3_1 (ji23)).f0), .bool ((rd_T73 x3_1 (ji23)).f1), .int .i64 0]) ?_ 2 _ rfl; refine sb_ ?_; refine blk_put (cs := #[.string ((rd_T73 x3_1 (ji23)).f0), .bool false, .int .i64 0]) ?_ 1 _ rfl; refine sb_ ?_; refine blk_put (cs := #[.string (⟨#[]⟩ : ByteArray), .bool false, .int .i64 0]) ?_ 0 _ rfl; refine sb_ ?_; refine blk_far ?_ NB141_140.out _; refine sb_ ?_; refine blk_far ?_ NB141_140.out _; refine sb_ ?_; refine blk_far ?_ NB141_140.out _; refine sb_ ?_; exact BK141.out)) : gb141 ≠ gb142)); have n13_ := Aside0.mk ((by rw [hg]; exact Nat.ne_of_gt (blk_lt (g := gb141) (o := .cells #[.string ((rd_T73 x3_1 (ji23)).f0), .bool ((rd_T73 x3_1 (ji23)).f1), .int .i64 ((rd_T73 x3_1 (ji23)).f2)] 73 (0, 0)) (by refine sb_ ?_; refine blk_put (cs := #[.string ((rd_T73 x3_1 (ji23)).f0), .bool ((rd_T73 x3_1 (ji23)).f1), .int .i64 0]) ?_ 2 _ rfl; refine sb_ ?_; refine blk_put (cs := #[.string ((rd_T73 x3_1 (ji23)).f0), .bool false, .int .i64 0]) ?_ 1 _ rfl; refine sb_ ?_; refine blk_put (cs := #[.string (⟨#[]⟩ : ByteArray), .bool false, .int .i64 0]) ?_ 0 _ rfl; refine sb_ ?_; refine blk_far ?_ NB141_140.out _; refine sb_ ?_; refine blk_far ?_ NB141_140.out _; refine sb_ ?_; refine blk_far ?_ NB141_140.out _; refine sb_ ?_; exact BK141.out)) : gb142 ≠ gb141)); clear HO_3; clear BK133; clear BK140; clear BK141; clear HB; have HO_3 := n0_; have BK133 := n1_; have BK140 := n2_; have BK141 := n3_; have HB := n4_; have BK142 := n5_; have GW142 := n6_; have GE142 := n7_; have NB133_142 := n8_; have NB142_133 := n9_; have NB140_142 := n10_; have NB142_140 := n11_; have NB141_142 := n12_; have NB142_141 := n13_; clear n0_ n1_ n2_ n3_ n4_ n5_ n6_ n7_ n8_ n9_ n10_ n11_ n12_ n13_; clear hb hbox hg; have hnb91 := NB142_133.out; have hnc91 := NB133_142.out; have hnb92 := NB142_140.out; have hnc92 := NB140_142.out; have hnb93 := NB142_141.out; have hnc93 := NB141_142.out; have hcz94_0 : w90.cell? ⟨gb142, 0, none⟩ = some (.string (⟨#[]⟩ : ByteArray)) := (blk_cell BK142.out 0).trans rfl; have hcz94_1 : w90.cell? ⟨gb142, 1, none⟩ = some (.bool false) := (blk_cell BK142.out 1).trans rfl; have hcz94_2 : w90.cell? ⟨gb142, 2, none⟩ = some (.int .i64 0) := (blk_cell BK142.out 2).trans rfl; have hfz94_0 := blk_frozen BK142.out 0; have hfz94_1 := blk_frozen BK142.out 1; have hfz94_2 := blk_frozen BK142.out 2))
                have n0_ : Aside0 (Kd.R k73 73 (((w90.setCell ⟨gb142, 0, none⟩ (.string (⟨#[]⟩ : ByteArray))).setCell ⟨gb142, 1, none⟩ (.bool false)).setCell ⟨gb142, 2, none⟩ (.int .i64 (wrap64 ((wrap64 (((rd_T73 x3_1 (ji20)).f2) + ((rd_T73 x3_1 (ji23)).f2))) + 1)))) w.heap.size (fun k_ => k_ ≠ gb140 ∧ k_ ≠ gb141 ∧ k_ ≠ gb142) (.slice (some ad138) x3_1.length co74) x3_1) := ⟨by (with_reducible repeat (first | apply Kd.R_alloc | apply Kd.R_drewN | apply Kd.R_drew)); exact Kd.R_mono (Kd.R_far (p := ⟨gb142, 2, none⟩) (Kd.R_far (p := ⟨gb142, 1, none⟩) (Kd.R_far (p := ⟨gb142, 0, none⟩) (Kd.R_mono HO_3.out (fun k_ hk => (⟨hk, hk.2⟩ : _ ∧ k_ ≠ gb142))) (fun _ hk => hk.2) (.string (⟨#[]⟩ : ByteArray))) (fun _ hk => hk.2) (.bool false)) (fun _ hk => hk.2) (.int .i64 (wrap64 ((wrap64 (((rd_T73 x3_1 (ji20)).f2) + ((rd_T73 x3_1 (ji23)).f2))) + 1)))) (fun _ hk => ⟨hk.1.1.1, ⟨hk.1.1.2, hk.1.2⟩⟩)⟩; have n1_ : Aside0 ((((w90.setCell ⟨gb142, 0, none⟩ (.string (⟨#[]⟩ : ByteArray))).setCell ⟨gb142, 1, none⟩ (.bool false)).setCell ⟨gb142, 2, none⟩ (.int .i64 (wrap64 ((wrap64 (((rd_T73 x3_1 (ji20)).f2) + ((rd_T73 x3_1 (ji23)).f2))) + 1)))).heap[gb133]? = some (.cells #[.int .i64 ((rd_T54 l0 x12_1).f0), .int .i64 ((rd_T54 l0 x12_1).f1), .int .i64 ((rd_T54 l0 x12_1).f2)] 54 (0, 0))) := ⟨by refine sb_ ?_; refine blk_far ?_ NB133_142.out _; refine sb_ ?_; refine blk_far ?_ NB133_142.out _; refine sb_ ?_; refine blk_far ?_ NB133_142.out _; refine sb_ ?_; exact BK133.out⟩; have n2_ : Aside0 ((((w90.setCell ⟨gb142, 0, none⟩ (.string (⟨#[]⟩ : ByteArray))).setCell ⟨gb142, 1, none⟩ (.bool false)).setCell ⟨gb142, 2, none⟩ (.int .i64 (wrap64 ((wrap64 (((rd_T73 x3_1 (ji20)).f2) + ((rd_T73 x3_1 (ji23)).f2))) + 1)))).heap[gb140]? = some (.cells #[.string ((rd_T73 x3_1 (ji20)).f0), .bool ((rd_T73 x3_1 (ji20)).f1), .int .i64 ((rd_T73 x3_1 (ji20)).f2)] 73 (0, 0))) := ⟨by refine sb_ ?_; refine blk_far ?_ NB140_142.out _; refine sb_ ?_; refine blk_far ?_ NB140_142.out _; refine sb_ ?_; refine blk_far ?_ NB140_142.out _; refine sb_ ?_; exact BK140.out⟩; have n3_ : Aside0 ((((w90.setCell ⟨gb142, 0, none⟩ (.string (⟨#[]⟩ : ByteArray))).setCell ⟨gb142, 1, none⟩ (.bool false)).setCell ⟨gb142, 2, none⟩ (.int .i64 (wrap64 ((wrap64 (((rd_T73 x3_1 (ji20)).f2) + ((rd_T73 x3_1 (ji23)).f2))) + 1)))).heap[gb141]? = some (.cells #[.string ((rd_T73 x3_1 (ji23)).f0), .bool ((rd_T73 x3_1 (ji23)).f1), .int .i64 ((rd_T73 x3_1 (ji23)).f2)] 73 (0, 0))) := ⟨by refine sb_ ?_; refine blk_far ?_ NB141_142.out _; refine sb_ ?_; refine blk_far ?_ NB141_142.out _; refine sb_ ?_; refine blk_far ?_ NB141_142.out _; refine sb_ ?_; exact BK141.out⟩; have n4_ : Aside0 ((((w90.setCell ⟨gb142, 0, none⟩ (.string (⟨#[]⟩ : ByteArray))).setCell ⟨gb142, 1, none⟩ (.bool false)).setCell ⟨gb142, 2, none⟩ (.int .i64 (wrap64 ((wrap64 (((rd_T73 x3_1 (ji20)).f2) + ((rd_T73 x3_1 (ji23)).f2))) + 1)))).heap[gb142]? = some (.cells #[.string (⟨#[]⟩ : ByteArray), .bool false, .int .i64 (wrap64 ((wrap64 (((rd_T73 x3_1 (ji20)).f2) + ((rd_T73 x3_1 (ji23)).f2))) + 1))] 73 (0, 0))) := ⟨by refine sb_ ?_; refine blk_put (cs := #[.string (⟨#[]⟩ : ByteArray), .bool false, .int .i64 0]) ?_ 2 _ rfl; refine sb_ ?_; refine blk_put (cs := #[.string (⟨#[]⟩ : ByteArray), .bool false, .int .i64 0]) ?_ 1 _ rfl; refine sb_ ?_; refine blk_put (cs := #[.string (⟨#[]⟩ : ByteArray), .bool false, .int .i64 0]) ?_ 0 _ rfl; refine sb_ ?_; exact BK142.out⟩; have n5_ : Aside0 (Below w.heap.size w (((w90.setCell ⟨gb142, 0, none⟩ (.string (⟨#[]⟩ : ByteArray))).setCell ⟨gb142, 1, none⟩ (.bool false)).setCell ⟨gb142, 2, none⟩ (.int .i64 (wrap64 ((wrap64 (((rd_T73 x3_1 (ji20)).f2) + ((rd_T73 x3_1 (ji23)).f2))) + 1))))) := ⟨by repeat (first | (with_reducible first | exact HB.out | apply below_alloc | apply pw_below_drewN | apply below_drew1 | refine below_set ?_ GE133.out | refine below_set ?_ GE140.out | refine below_set ?_ GE141.out | refine below_set ?_ GE142.out) | exact HB.out)⟩
                (try clear HO_3)
                (try clear BK133)
                (try clear BK140)
                (try clear BK141)
                (try clear BK142)
                (try clear HB)
                generalize (((w90.setCell ⟨gb142, 0, none⟩ (.string (⟨#[]⟩ : ByteArray))).setCell ⟨gb142, 1, none⟩ (.bool false)).setCell ⟨gb142, 2, none⟩ (.int .i64 (wrap64 ((wrap64 (((rd_T73 x3_1 (ji20)).f2) + ((rd_T73 x3_1 (ji23)).f2))) + 1)))) = w95 at n0_ n1_ n2_ n3_ n4_ n5_ ⊢
                have HO_3 := n0_; have BK133 := n1_; have BK140 := n2_; have BK141 := n3_; have BK142 := n4_; have HB := n5_; clear n0_ n1_ n2_ n3_ n4_ n5_; have n0_ := Aside0.mk (Kd.R_drew HO_3.out); have n1_ := Aside0.mk (blk_drew BK133.out); have n2_ := Aside0.mk (blk_drew BK140.out); have n3_ := Aside0.mk (blk_drew BK141.out); have n4_ := Aside0.mk (blk_drew BK142.out); have n5_ := Aside0.mk (below_drew1 HB.out); clear HO_3 BK133 BK140 BK141 BK142 HB; have HO_3 := n0_; have BK133 := n1_; have BK140 := n2_; have BK141 := n3_; have BK142 := n4_; have HB := n5_; clear n0_ n1_ n2_ n3_ n4_ n5_
                refine start_ (n := 15) (S := fun w' => w'.cell? ⟨gb140, 0, none⟩ = some (.string ((rd_T73 x3_1 (ji20)).f0)) ∧ w'.cell? ⟨gb140, 1, none⟩ = some (.bool ((rd_T73 x3_1 (ji20)).f1)) ∧ w'.cell? ⟨gb140, 2, none⟩ = some (.int .i64 ((rd_T73 x3_1 (ji20)).f2)) ∧ w'.cell? ⟨gb141, 0, none⟩ = some (.string ((rd_T73 x3_1 (ji23)).f0)) ∧ w'.cell? ⟨gb141, 1, none⟩ = some (.bool ((rd_T73 x3_1 (ji23)).f1)) ∧ w'.cell? ⟨gb141, 2, none⟩ = some (.int .i64 ((rd_T73 x3_1 (ji23)).f2))) (ds := []) #[false, false, false, false, false, false, false, false, false, false, false, false, false, false, false] (by kernel_rfl) rfl rfl ⟨(blk_cell BK140.out 0).trans rfl, (blk_cell BK140.out 1).trans rfl, (blk_cell BK140.out 2).trans rfl, (blk_cell BK141.out 0).trans rfl, (blk_cell BK141.out 1).trans rfl, (blk_cell BK141.out 2).trans rfl⟩ (fun hHeld => ?_); refine with_tabW impl_termText.tab11 impl_termText.bits11 (fun HT_ HW_ => ?_)
                generalize w95.drew = w96 at HO_3 BK133 BK140 BK141 BK142 HB hHeld ⊢
                refine pure_ (i := 0) (N := some 67) (v := ?_) (a' := ?_) #[true, false, false, false, false, false, false, false, false, false, false, false, false, false, false] rfl rfl (any_of HT_.out (by kernel_rfl)) (fun _ _ _ h => h) (Or.inl ⟨by rfl, ?_⟩) ?_ ?_
                rotate_left
                ·intro w'
                 go_simp
                 with_reducible rfl
                rotate_left
                ·simp only [Act.put, List.setIfInBounds_toArray, List.set_cons_zero, List.set_cons_succ, i64_w, i32_w]
                 rfl
                refine pure_ (i := 2) (N := some 69) (v := ?_) (a' := ?_) #[true, false, true, false, false, false, false, false, false, false, false, false, false, false, false] rfl rfl (any_of HT_.out (by kernel_rfl)) (fun _ _ _ h => h) (Or.inl ⟨by rfl, ?_⟩) ?_ ?_
                rotate_left
                ·intro w'
                 go_simp
                 with_reducible rfl
                rotate_left
                ·simp only [Act.put, List.setIfInBounds_toArray, List.set_cons_zero, List.set_cons_succ, i64_w, i32_w]
                 rfl
                refine pure_ (i := 6) (N := some 73) (v := ?_) (a' := ?_) #[true, false, true, false, false, false, true, false, false, false, false, false, false, false, false] rfl rfl (any_of HT_.out (by kernel_rfl)) (fun _ _ _ h => h) (Or.inl ⟨by rfl, ?_⟩) ?_ ?_
                rotate_left
                ·intro w'
                 go_simp
                 with_reducible rfl
                rotate_left
                ·simp only [Act.put, List.setIfInBounds_toArray, List.set_cons_zero, List.set_cons_succ, i64_w, i32_w]
                 rfl
                refine pure_ (i := 8) (N := some 75) (v := ?_) (a' := ?_) #[true, false, true, false, false, false, true, false, true, false, false, false, false, false, false] rfl rfl (any_of HT_.out (by kernel_rfl)) (fun _ _ _ h => h) (Or.inl ⟨by rfl, ?_⟩) ?_ ?_
                rotate_left
                ·intro w'
                 go_simp
                 with_reducible rfl
                rotate_left
                ·simp only [Act.put, List.setIfInBounds_toArray, List.set_cons_zero, List.set_cons_succ, i64_w, i32_w]
                 rfl
                refine take_ (i := 1) (N := some 68) (v := ?_) (a' := ?_) #[true, true, true, false, false, false, true, false, true, false, false, false, false, false, false] rfl rfl (take_ofW HT_.out HW_.out (by kernel_rfl)) (fun _ _ _ h => h) (Or.inl ⟨by rfl, ?_⟩) hHeld ?_ ?_
                rotate_left
                ·rintro w' ⟨s0, s1, s2, s3, s4, s5⟩
                 go_simp
                 with_reducible rfl
                rotate_left
                ·simp only [Act.put, List.setIfInBounds_toArray, List.set_cons_zero, List.set_cons_succ, i64_w, i32_w]
                 rfl
                refine take_ (i := 3) (N := some 70) (v := ?_) (a' := ?_) #[true, true, true, true, false, false, true, false, true, false, false, false, false, false, false] rfl rfl (take_ofW HT_.out HW_.out (by kernel_rfl)) (fun _ _ _ h => h) (Or.inl ⟨by rfl, ?_⟩) hHeld ?_ ?_
                rotate_left
                ·rintro w' ⟨s0, s1, s2, s3, s4, s5⟩
                 go_simp
                 with_reducible rfl
                rotate_left
                ·simp only [Act.put, List.setIfInBounds_toArray, List.set_cons_zero, List.set_cons_succ, i64_w, i32_w]
                 rfl
                refine take_ (i := 7) (N := some 74) (v := ?_) (a' := ?_) #[true, true, true, true, false, false, true, true, true, false, false, false, false, false, false] rfl rfl (take_ofW HT_.out HW_.out (by kernel_rfl)) (fun _ _ _ h => h) (Or.inl ⟨by rfl, ?_⟩) hHeld ?_ ?_
                rotate_left
                ·rintro w' ⟨s0, s1, s2, s3, s4, s5⟩
                 go_simp
                 with_reducible rfl
                rotate_left
                ·simp only [Act.put, List.setIfInBounds_toArray, List.set_cons_zero, List.set_cons_succ, i64_w, i32_w]
                 rfl
                refine take_ (i := 9) (N := some 76) (v := ?_) (a' := ?_) #[true, true, true, true, false, false, true, true, true, true, false, false, false, false, false] rfl rfl (take_ofW HT_.out HW_.out (by kernel_rfl)) (fun _ _ _ h => h) (Or.inl ⟨by rfl, ?_⟩) hHeld ?_ ?_
                rotate_left
                ·rintro w' ⟨s0, s1, s2, s3, s4, s5⟩
                 go_simp
                 with_reducible rfl
                rotate_left
                ·simp only [Act.put, List.setIfInBounds_toArray, List.set_cons_zero, List.set_cons_succ, i64_w, i32_w]
                 rfl
                refine pure_ (i := 10) (N := some 77) (v := ?_) (a' := ?_) #[true, true, true, true, false, false, true, true, true, true, true, false, false, false, false] rfl rfl (any_of HT_.out (by kernel_rfl)) (fun _ _ _ h => h) (Or.inl ⟨by rfl, ?_⟩) ?_ ?_
                rotate_left
                ·intro w'
                 go_simp
                 with_reducible rfl
                rotate_left
                ·simp only [Act.put, List.setIfInBounds_toArray, List.set_cons_zero, List.set_cons_succ, i64_w, i32_w]
                 rfl
                refine one_ (i := 4) (N := some 71) #[true, true, true, true, true, false, true, true, true, true, true, false, false, false, false] rfl rfl (one_of HT_.out (by kernel_rfl)) (by decide) (fun K hK => ?_)
                refine goes_ Tryd.func50 (by kernel_rfl) rfl #[.string ((rd_T73 x3_1 (ji20)).f0), .bool ((rd_T73 x3_1 (ji20)).f1)] (by rfl) rfl rfl (by (try simp only [List.map_toArray, List.map_cons, List.map_nil]); first | done | (simp only [hji20]; rfl) | rfl | (simp only [List.length_drop, List.length_take]; rfl)) ?_
                with_reducible refine (impl_wrapped.calls ((rd_T73 x3_1 (ji20)).f0) ((rd_T73 x3_1 (ji20)).f1) t150 _ A64.out).mono ?_
                rintro e w' ⟨rfl, ⟨nd, rfl⟩⟩
                refine ⟨_, rfl, ?_⟩
                refine hK.out _ _ ⟨(blk_cell BK140.out 0).trans rfl, (blk_cell BK140.out 1).trans rfl, (blk_cell BK140.out 2).trans rfl, (blk_cell BK141.out 0).trans rfl, (blk_cell BK141.out 1).trans rfl, (blk_cell BK141.out 2).trans rfl⟩ (fun hHeld => ?_)
                clear hK K; have n0_ := Aside0.mk (Kd.R_drewN HO_3.out nd); have n1_ := Aside0.mk (blk_drewN BK133.out nd); have n2_ := Aside0.mk (blk_drewN BK140.out nd); have n3_ := Aside0.mk (blk_drewN BK141.out nd); have n4_ := Aside0.mk (blk_drewN BK142.out nd); have n5_ := Aside0.mk (pw_below_drewN HB.out nd); clear HO_3 BK133 BK140 BK141 BK142 HB
                generalize w96.drewN nd = w96 at n0_ n1_ n2_ n3_ n4_ n5_ hHeld ⊢
                have HO_3 := n0_; have BK133 := n1_; have BK140 := n2_; have BK141 := n3_; have BK142 := n4_; have HB := n5_; clear n0_ n1_ n2_ n3_ n4_ n5_
                refine norm_ (a' := ?_) ?_ ?_
                rotate_left
                ·show Act.put _ (some 71) _ = _
                 simp only [Act.put, List.setIfInBounds_toArray, List.set_cons_zero, List.set_cons_succ, i64_w, i32_w]
                 rfl
                refine pure_ (i := 5) (N := some 72) (v := ?_) (a' := ?_) #[true, true, true, true, true, true, true, true, true, true, true, false, false, false, false] rfl rfl (any_of HT_.out (by kernel_rfl)) (fun _ _ _ h => h) (Or.inl ⟨by rfl, ?_⟩) ?_ ?_
                rotate_left
                ·intro w'
                 go_simp
                 with_reducible rfl
                rotate_left
                ·simp only [Act.put, List.setIfInBounds_toArray, List.set_cons_zero, List.set_cons_succ, i64_w, i32_w]
                 rfl
                refine one_ (i := 11) (N := some 78) #[true, true, true, true, true, true, true, true, true, true, true, true, false, false, false] rfl rfl (one_of HT_.out (by kernel_rfl)) (by decide) (fun K hK => ?_)
                refine goes_ Tryd.func50 (by kernel_rfl) rfl #[.string ((rd_T73 x3_1 (ji23)).f0), .bool (decide (((rd_T73 x3_1 (ji23)).f2) > 1))] (by rfl) rfl rfl (by (try simp only [List.map_toArray, List.map_cons, List.map_nil]); first | done | (simp only [hji23]; rfl) | rfl | (simp only [List.length_drop, List.length_take]; rfl)) ?_
                with_reducible refine (impl_wrapped.calls ((rd_T73 x3_1 (ji23)).f0) (decide (((rd_T73 x3_1 (ji23)).f2) > 1)) t151 _ A66.out).mono ?_
                rintro e w' ⟨rfl, ⟨nd, rfl⟩⟩
                refine ⟨_, rfl, ?_⟩
                refine hK.out _ _ ⟨(blk_cell BK140.out 0).trans rfl, (blk_cell BK140.out 1).trans rfl, (blk_cell BK140.out 2).trans rfl, (blk_cell BK141.out 0).trans rfl, (blk_cell BK141.out 1).trans rfl, (blk_cell BK141.out 2).trans rfl⟩ (fun hHeld => ?_)
                clear hK K; have n0_ := Aside0.mk (Kd.R_drewN HO_3.out nd); have n1_ := Aside0.mk (blk_drewN BK133.out nd); have n2_ := Aside0.mk (blk_drewN BK140.out nd); have n3_ := Aside0.mk (blk_drewN BK141.out nd); have n4_ := Aside0.mk (blk_drewN BK142.out nd); have n5_ := Aside0.mk (pw_below_drewN HB.out nd); clear HO_3 BK133 BK140 BK141 BK142 HB
                generalize w96.drewN nd = w96 at n0_ n1_ n2_ n3_ n4_ n5_ hHeld ⊢
                have HO_3 := n0_; have BK133 := n1_; have BK140 := n2_; have BK141 := n3_; have BK142 := n4_; have HB := n5_; clear n0_ n1_ n2_ n3_ n4_ n5_
                refine norm_ (a' := ?_) ?_ ?_
                rotate_left
                ·show Act.put _ (some 78) _ = _
                 simp only [Act.put, List.setIfInBounds_toArray, List.set_cons_zero, List.set_cons_succ, i64_w, i32_w]
                 rfl
                refine pure_ (i := 12) (N := some 79) (v := ?_) (a' := ?_) #[true, true, true, true, true, true, true, true, true, true, true, true, true, false, false] rfl rfl (any_of HT_.out (by kernel_rfl)) (fun _ _ _ h => h) (Or.inl ⟨by rfl, ?_⟩) ?_ ?_
                rotate_left
                ·intro w'
                 go_simp
                 with_reducible rfl
                rotate_left
                ·simp only [Act.put, List.setIfInBounds_toArray, List.set_cons_zero, List.set_cons_succ, i64_w, i32_w]
                 rfl
                refine pure_ (i := 13) (N := some 80) (v := ?_) (a' := ?_) #[true, true, true, true, true, true, true, true, true, true, true, true, true, true, false] rfl rfl (any_of HT_.out (by kernel_rfl)) (fun _ _ _ h => h) (Or.inl ⟨by rfl, ?_⟩) ?_ ?_
                rotate_left
                ·intro w'
                 go_simp
                 with_reducible rfl
                rotate_left
                ·simp only [Act.put, List.setIfInBounds_toArray, List.set_cons_zero, List.set_cons_succ, i64_w, i32_w]
                 rfl
                refine one_ (i := 14) (N := none) #[true, true, true, true, true, true, true, true, true, true, true, true, true, true, true] rfl rfl (one_of HT_.out (by kernel_rfl)) (by decide) (fun K hK => ?_)
                have hs97 : w96.cell? ⟨gb142, 0, none⟩ = some (.string (⟨#[]⟩ : ByteArray)) := (blk_cell BK142.out 0).trans rfl; have hfs97 := blk_frozen BK142.out 0; have hns97_0 := NB133_142.out; have hns97_1 := NB140_142.out; have hns97_2 := NB141_142.out; have hms97_0 := NB142_133.out; have hms97_1 := NB142_140.out; have hms97_2 := NB142_141.out
                refine skip_ (w1 := ?_) (by rfl) rfl ?_ ?_
                rotate_left
                ·go_simp
                 rfl
                refine hK.out _ _ ⟨((cell_far (p := ⟨gb142, _, none⟩) NB140_142.out _).trans (hHeld.1)), ((cell_far (p := ⟨gb142, _, none⟩) NB140_142.out _).trans (hHeld.2.1)), ((cell_far (p := ⟨gb142, _, none⟩) NB140_142.out _).trans (hHeld.2.2.1)), ((cell_far (p := ⟨gb142, _, none⟩) NB141_142.out _).trans (hHeld.2.2.2.1)), ((cell_far (p := ⟨gb142, _, none⟩) NB141_142.out _).trans (hHeld.2.2.2.2.1)), ((cell_far (p := ⟨gb142, _, none⟩) NB141_142.out _).trans (hHeld.2.2.2.2.2))⟩ (fun hHeld => ?_)
                clear hK K
                refine done_ (done_of HT_.out (by kernel_rfl)) ?_
                try go_wp2
                have n0_ : Aside0 (Kd.R k73 73 (w96.setCell ⟨gb142, 0, none⟩ (.string ((t150 ++ (⟨#[38]⟩ : ByteArray)) ++ t151))) w.heap.size (fun k_ => k_ ≠ gb140 ∧ k_ ≠ gb141 ∧ k_ ≠ gb142) (.slice (some ad138) x3_1.length co74) x3_1) := ⟨by (with_reducible repeat (first | apply Kd.R_alloc | apply Kd.R_drewN | apply Kd.R_drew)); exact Kd.R_mono (Kd.R_far (p := ⟨gb142, 0, none⟩) (Kd.R_mono HO_3.out (fun k_ hk => (⟨hk, hk.2.2⟩ : _ ∧ k_ ≠ gb142))) (fun _ hk => hk.2) (.string ((t150 ++ (⟨#[38]⟩ : ByteArray)) ++ t151))) (fun _ hk => ⟨hk.1.1, ⟨hk.1.2.1, hk.1.2.2⟩⟩)⟩; have n1_ : Aside0 ((w96.setCell ⟨gb142, 0, none⟩ (.string ((t150 ++ (⟨#[38]⟩ : ByteArray)) ++ t151))).heap[gb133]? = some (.cells #[.int .i64 ((rd_T54 l0 x12_1).f0), .int .i64 ((rd_T54 l0 x12_1).f1), .int .i64 ((rd_T54 l0 x12_1).f2)] 54 (0, 0))) := ⟨by refine sb_ ?_; refine blk_far ?_ NB133_142.out _; refine sb_ ?_; exact BK133.out⟩; have n2_ : Aside0 ((w96.setCell ⟨gb142, 0, none⟩ (.string ((t150 ++ (⟨#[38]⟩ : ByteArray)) ++ t151))).heap[gb140]? = some (.cells #[.string ((rd_T73 x3_1 (ji20)).f0), .bool ((rd_T73 x3_1 (ji20)).f1), .int .i64 ((rd_T73 x3_1 (ji20)).f2)] 73 (0, 0))) := ⟨by refine sb_ ?_; refine blk_far ?_ NB140_142.out _; refine sb_ ?_; exact BK140.out⟩; have n3_ : Aside0 ((w96.setCell ⟨gb142, 0, none⟩ (.string ((t150 ++ (⟨#[38]⟩ : ByteArray)) ++ t151))).heap[gb141]? = some (.cells #[.string ((rd_T73 x3_1 (ji23)).f0), .bool ((rd_T73 x3_1 (ji23)).f1), .int .i64 ((rd_T73 x3_1 (ji23)).f2)] 73 (0, 0))) := ⟨by refine sb_ ?_; refine blk_far ?_ NB141_142.out _; refine sb_ ?_; exact BK141.out⟩; have n4_ : Aside0 ((w96.setCell ⟨gb142, 0, none⟩ (.string ((t150 ++ (⟨#[38]⟩ : ByteArray)) ++ t151))).heap[gb142]? = some (.cells #[.string ((t150 ++ (⟨#[38]⟩ : ByteArray)) ++ t151), .bool false, .int .i64 (wrap64 ((wrap64 (((rd_T73 x3_1 (ji20)).f2) + ((rd_T73 x3_1 (ji23)).f2))) + 1))] 73 (0, 0))) := ⟨by refine sb_ ?_; refine blk_put (cs := #[.string (⟨#[]⟩ : ByteArray), .bool false, .int .i64 (wrap64 ((wrap64 (((rd_T73 x3_1 (ji20)).f2) + ((rd_T73 x3_1 (ji23)).f2))) + 1))]) ?_ 0 _ rfl; refine sb_ ?_; exact BK142.out⟩; have n5_ : Aside0 (Below w.heap.size w (w96.setCell ⟨gb142, 0, none⟩ (.string ((t150 ++ (⟨#[38]⟩ : ByteArray)) ++ t151)))) := ⟨by repeat (first | (with_reducible first | exact HB.out | apply below_alloc | apply pw_below_drewN | apply below_drew1 | refine below_set ?_ GE133.out | refine below_set ?_ GE140.out | refine below_set ?_ GE141.out | refine below_set ?_ GE142.out) | exact HB.out)⟩
                (try clear HO_3)
                (try clear BK133)
                (try clear BK140)
                (try clear BK141)
                (try clear BK142)
                (try clear HB)
                generalize (w96.setCell ⟨gb142, 0, none⟩ (.string ((t150 ++ (⟨#[38]⟩ : ByteArray)) ++ t151))) = w98 at n0_ n1_ n2_ n3_ n4_ n5_ ⊢
                have HO_3 := n0_; have BK133 := n1_; have BK140 := n2_; have BK141 := n3_; have BK142 := n4_; have HB := n5_; clear n0_ n1_ n2_ n3_ n4_ n5_
                (try (rw [drewN_self w98]; generalize hq_ : World.drewN w98 _ = w98; have n0_ : Aside0 (Kd.R k73 73 w98 w.heap.size (fun k_ => k_ ≠ gb140 ∧ k_ ≠ gb141 ∧ k_ ≠ gb142) (.slice (some ad138) x3_1.length co74) x3_1) := ⟨by rw [← hq_]; exact (r_ HO_3.out)⟩; have n1_ : Aside0 (w98.heap[gb133]? = some (.cells #[.int .i64 ((rd_T54 l0 x12_1).f0), .int .i64 ((rd_T54 l0 x12_1).f1), .int .i64 ((rd_T54 l0 x12_1).f2)] 54 (0, 0))) := ⟨by rw [← hq_]; exact (bk_ BK133.out)⟩; have n2_ : Aside0 (w98.heap[gb140]? = some (.cells #[.string ((rd_T73 x3_1 (ji20)).f0), .bool ((rd_T73 x3_1 (ji20)).f1), .int .i64 ((rd_T73 x3_1 (ji20)).f2)] 73 (0, 0))) := ⟨by rw [← hq_]; exact (bk_ BK140.out)⟩; have n3_ : Aside0 (w98.heap[gb141]? = some (.cells #[.string ((rd_T73 x3_1 (ji23)).f0), .bool ((rd_T73 x3_1 (ji23)).f1), .int .i64 ((rd_T73 x3_1 (ji23)).f2)] 73 (0, 0))) := ⟨by rw [← hq_]; exact (bk_ BK141.out)⟩; have n4_ : Aside0 (w98.heap[gb142]? = some (.cells #[.string ((t150 ++ (⟨#[38]⟩ : ByteArray)) ++ t151), .bool false, .int .i64 (wrap64 ((wrap64 (((rd_T73 x3_1 (ji20)).f2) + ((rd_T73 x3_1 (ji23)).f2))) + 1))] 73 (0, 0))) := ⟨by rw [← hq_]; exact (bk_ BK142.out)⟩; have n5_ : Aside0 (Below w.heap.size w w98) := ⟨by rw [← hq_]; exact (by repeat (first | (with_reducible first | exact HB.out | apply below_alloc | apply pw_below_drewN | apply below_drew1 | refine below_set ?_ GE133.out | refine below_set ?_ GE140.out | refine below_set ?_ GE141.out | refine below_set ?_ GE142.out) | exact HB.out))⟩; clear HO_3 BK133 BK140 BK141 BK142 HB hq_; have HO_3 := n0_; have BK133 := n1_; have BK140 := n2_; have BK141 := n3_; have BK142 := n4_; have HB := n5_; clear n0_ n1_ n2_ n3_ n4_ n5_))
                have n0_ := Aside0.mk (Kd.R_drew HO_3.out); have n1_ := Aside0.mk (blk_drew BK133.out); have n2_ := Aside0.mk (blk_drew BK140.out); have n3_ := Aside0.mk (blk_drew BK141.out); have n4_ := Aside0.mk (blk_drew BK142.out); have n5_ := Aside0.mk (below_drew1 HB.out); clear HO_3 BK133 BK140 BK141 BK142 HB; have HO_3 := n0_; have BK133 := n1_; have BK140 := n2_; have BK141 := n3_; have BK142 := n4_; have HB := n5_; clear n0_ n1_ n2_ n3_ n4_ n5_; have q100 : ((ji20) : Int) ≤ ((x3_1.length : Int) : Int) := of_decide_eq_true as_; obtain ⟨i0100, hi0100, _, hsz100, _⟩ := info_parts info73; have hcut100 := cut_to (P := Tryd.prog) 71 73 .i64 Tryd.underlying71 hi0100 (some ad138) x3_1.length co74 (ji20) (of_decide_eq_true as_) q100 (Kd.R_reads' HO_3.out).2.1; have hr100 := Kd.R_take (m := ((ji20) : Int).toNat) HO_3.out (by omega); have hy100 : y152.length = ((ji20) : Int).toNat := (by rw [Ny152.out, List.length_take]; omega)
                rw [← Ny152.out] at hr100
                rw [← hy100] at hr100 hcut100
                clear hy100 hi0100 hsz100 HO_3; have HO154 := Aside0.mk hr100; clear hr100; replace q100 := eq_true q100
                refine start_ (n := 9) (S := fun w' => w'.cell? ⟨gb142, 0, none⟩ = some (.string ((t150 ++ (⟨#[38]⟩ : ByteArray)) ++ t151)) ∧ w'.cell? ⟨gb142, 1, none⟩ = some (.bool false) ∧ w'.cell? ⟨gb142, 2, none⟩ = some (.int .i64 (wrap64 ((wrap64 (((rd_T73 x3_1 (ji20)).f2) + ((rd_T73 x3_1 (ji23)).f2))) + 1)))) (ds := []) #[false, false, false, false, false, false, false, false, false] (by kernel_rfl) rfl rfl ⟨(blk_cell BK142.out 0).trans rfl, (blk_cell BK142.out 1).trans rfl, (blk_cell BK142.out 2).trans rfl⟩ (fun hHeld => ?_); refine with_tabW impl_termText.tab12 impl_termText.bits12 (fun HT_ HW_ => ?_)
                generalize w98.drew = w99 at BK133 BK140 BK141 BK142 HB HO154 hHeld ⊢
                refine pure_ (i := 0) (N := some 81) (v := ?_) (a' := ?_) #[true, false, false, false, false, false, false, false, false] rfl rfl (any_of HT_.out (by kernel_rfl)) (fun _ _ _ h => h) (Or.inl ⟨by rfl, ?_⟩) ?_ ?_
                rotate_left
                ·intro w'
                 go_simp
                 with_reducible rfl
                rotate_left
                ·simp only [Act.put, List.setIfInBounds_toArray, List.set_cons_zero, List.set_cons_succ, i64_w, i32_w]
                 rfl
                refine pure_ (i := 1) (N := some 82) (v := ?_) (a' := ?_) #[true, true, false, false, false, false, false, false, false] rfl rfl (any_of HT_.out (by kernel_rfl)) (fun _ _ _ h => h) (Or.inl ⟨by rfl, ?_⟩) ?_ ?_
                rotate_left
                ·intro w'
                 go_simp
                 with_reducible rfl
                rotate_left
                ·simp only [Act.put, List.setIfInBounds_toArray, List.set_cons_zero, List.set_cons_succ, i64_w, i32_w]
                 rfl
                refine pure_ (i := 2) (N := some 83) (v := ?_) (a' := ?_) #[true, true, true, false, false, false, false, false, false] rfl rfl (any_of HT_.out (by kernel_rfl)) (fun _ _ _ h => h) (Or.inl ⟨by rfl, ?_⟩) ?_ ?_
                rotate_left
                ·intro w'
                 go_simp
                 with_reducible rfl
                rotate_left
                ·simp only [Act.put, List.setIfInBounds_toArray, List.set_cons_zero, List.set_cons_succ, i64_w, i32_w]
                 rfl
                refine pure_ (i := 3) (N := some 84) (v := ?_) (a' := ?_) #[true, true, true, true, false, false, false, false, false] rfl rfl (any_of HT_.out (by kernel_rfl)) (fun _ _ _ h => h) (Or.inl ⟨by rfl, ?_⟩) ?_ ?_
                rotate_left
                ·intro w'
                 go_simp
                 with_reducible rfl
                rotate_left
                ·simp only [Act.put, List.setIfInBounds_toArray, List.set_cons_zero, List.set_cons_succ, i64_w, i32_w]
                 rfl
                refine pure_ (i := 4) (N := some 85) (v := ?_) (a' := ?_) #[true, true, true, true, true, false, false, false, false] rfl rfl (any_of HT_.out (by kernel_rfl)) (fun _ _ _ h => h) (Or.inl ⟨by rfl, ?_⟩) ?_ ?_
                rotate_left
                ·intro w'
                 go_simp
                 with_reducible rfl
                rotate_left
                ·simp only [Act.put, List.setIfInBounds_toArray, List.set_cons_zero, List.set_cons_succ, i64_w, i32_w]
                 rfl
                refine take_ (i := 5) (N := some 86) (v := ?_) (a' := ?_) #[true, true, true, true, true, true, false, false, false] rfl rfl (take_ofW HT_.out HW_.out (by kernel_rfl)) (fun _ _ _ h => h) (Or.inl ⟨by rfl, ?_⟩) hHeld ?_ ?_
                rotate_left
                ·rintro w' ⟨s0, s1, s2⟩
                 go_simp
                 with_reducible rfl
                rotate_left
                ·simp only [Act.put, List.setIfInBounds_toArray, List.set_cons_zero, List.set_cons_succ, i64_w, i32_w]
                 rfl
                refine one_ (i := 6) (N := some 87) #[true, true, true, true, true, true, true, false, false] rfl rfl (one_of HT_.out (by kernel_rfl)) (by decide) (fun K hK => ?_)
                refine value_ (w1 := ?_) (v := ?_) (by rfl) rfl ?_ ?_
                rotate_left 2
                ·go_simp
                 constructor
                 ·rfl
                 ·rfl
                refine hK.out _ _ ⟨(blk_cell (blk_alloc BK142.out _) 0).trans rfl, (blk_cell (blk_alloc BK142.out _) 1).trans rfl, (blk_cell (blk_alloc BK142.out _) 2).trans rfl⟩ (fun hHeld => ?_)
                clear hK K
                refine norm_ (a' := ?_) ?_ ?_
                rotate_left
                ·show Act.put _ (some 87) _ = _
                 simp only [Act.put, List.setIfInBounds_toArray, List.set_cons_zero, List.set_cons_succ, i64_w, i32_w]
                 rfl
                refine one_ (i := 7) (N := some 88) #[true, true, true, true, true, true, true, true, false] rfl rfl (one_of HT_.out (by kernel_rfl)) (by decide) (fun K hK => ?_)
                refine Kd.R_append_step k73 (w0 := w) w.heap.size (by rfl) (.tmp 85) (.tmp 87) 71 73 (.agg #[(.string ⟨#[]⟩), (.bool false), (.int .i64 0)]) 32 rfl Tryd.underlying71 info73 rfl (by decide) (by omega) (.slice (some ad138) y152.length co74) y152 (⟨(t150 ++ (⟨#[38]⟩ : ByteArray)) ++ t151, false, wrap64 ((wrap64 (((rd_T73 x3_1 (ji20)).f2) + ((rd_T73 x3_1 (ji23)).f2))) + 1)⟩ : S73) [.string ((t150 ++ (⟨#[38]⟩ : ByteArray)) ++ t151), .bool false, .int .i64 (wrap64 ((wrap64 (((rd_T73 x3_1 (ji20)).f2) + ((rd_T73 x3_1 (ji23)).f2))) + 1))] (fun k_ => k_ ≠ gb140 ∧ k_ ≠ gb141 ∧ k_ ≠ gb142) (fun _ => False) rfl rfl ?aP (fun _ hk => hk.elim) ?aF ?aO ?aB ?aS ?aL ?_
                (case aP => exact k73_mkM _ _ _ (⟨(t150 ++ (⟨#[38]⟩ : ByteArray)) ++ t151, false, wrap64 ((wrap64 (((rd_T73 x3_1 (ji20)).f2) + ((rd_T73 x3_1 (ji23)).f2))) + 1)⟩ : S73))
                (case aB => exact (by repeat (first | (with_reducible first | exact HB.out | apply below_alloc | apply pw_below_drewN | apply below_drew1 | refine below_set ?_ GE133.out | refine below_set ?_ GE140.out | refine below_set ?_ GE141.out | refine below_set ?_ GE142.out) | exact HB.out)))
                (case aF => exact (fun k_ hk => ⟨Kd.freshB (g := gb140) (o := .cells #[.string ((rd_T73 x3_1 (ji20)).f0), .bool ((rd_T73 x3_1 (ji20)).f1), .int .i64 ((rd_T73 x3_1 (ji20)).f2)] 73 (0, 0)) (bk_ BK140.out) k_ hk, Kd.freshB (g := gb141) (o := .cells #[.string ((rd_T73 x3_1 (ji23)).f0), .bool ((rd_T73 x3_1 (ji23)).f1), .int .i64 ((rd_T73 x3_1 (ji23)).f2)] 73 (0, 0)) (bk_ BK141.out) k_ hk, Kd.freshB (g := gb142) (o := .cells #[.string ((t150 ++ (⟨#[38]⟩ : ByteArray)) ++ t151), .bool false, .int .i64 (wrap64 ((wrap64 (((rd_T73 x3_1 (ji20)).f2) + ((rd_T73 x3_1 (ji23)).f2))) + 1))] 73 (0, 0)) (bk_ BK142.out) k_ hk⟩))
                (case aO => exact (r_ HO154.out))
                (case aS => exact (below_size (by repeat (first | (with_reducible first | exact HB.out | apply below_alloc | apply pw_below_drewN | apply below_drew1 | refine below_set ?_ GE133.out | refine below_set ?_ GE140.out | refine below_set ?_ GE141.out | refine below_set ?_ GE142.out) | exact HB.out))))
                (case aL => have := LMc69.out; omega)
                intro v156 w101 ho hb hg hat
                rw [← Ny155.out] at ho
                have n0_ := Aside0.mk (blk_grown (g := gb133) (o := .cells #[.int .i64 ((rd_T54 l0 x12_1).f0), .int .i64 ((rd_T54 l0 x12_1).f1), .int .i64 ((rd_T54 l0 x12_1).f2)] 54 (0, 0)) (bk_ BK133.out) hg (Kd.R_ne HO154.out BK133.out (by decide))); have n1_ := Aside0.mk (blk_grown (g := gb140) (o := .cells #[.string ((rd_T73 x3_1 (ji20)).f0), .bool ((rd_T73 x3_1 (ji20)).f1), .int .i64 ((rd_T73 x3_1 (ji20)).f2)] 73 (0, 0)) (bk_ BK140.out) hg (Kd.R_away HO154.out (fun _ hk => hk.1))); have n2_ := Aside0.mk (blk_grown (g := gb141) (o := .cells #[.string ((rd_T73 x3_1 (ji23)).f0), .bool ((rd_T73 x3_1 (ji23)).f1), .int .i64 ((rd_T73 x3_1 (ji23)).f2)] 73 (0, 0)) (bk_ BK141.out) hg (Kd.R_away HO154.out (fun _ hk => hk.2.1))); have n3_ := Aside0.mk (blk_grown (g := gb142) (o := .cells #[.string ((t150 ++ (⟨#[38]⟩ : ByteArray)) ++ t151), .bool false, .int .i64 (wrap64 ((wrap64 (((rd_T73 x3_1 (ji20)).f2) + ((rd_T73 x3_1 (ji23)).f2))) + 1))] 73 (0, 0)) (bk_ BK142.out) hg (Kd.R_away HO154.out (fun _ hk => hk.2.2))); have n4_ := Aside0.mk (hb); have n5_ := Aside0.mk (ho); clear BK133 BK140 BK141 BK142 HB HO154; have BK133 := n0_; have BK140 := n1_; have BK141 := n2_; have BK142 := n3_; have HB := n4_; have HO157 := n5_; clear n0_ n1_ n2_ n3_ n4_ n5_ ho hb hg hat
                refine hK.out _ _ ⟨(blk_cell BK142.out 0).trans rfl, (blk_cell BK142.out 1).trans rfl, (blk_cell BK142.out 2).trans rfl⟩ (fun hHeld => ?_)
                clear hK K
                refine norm_ (a' := ?_) ?_ ?_
                rotate_left
                ·show Act.put _ (some 88) _ = _
                 simp only [Act.put, List.setIfInBounds_toArray, List.set_cons_zero, List.set_cons_succ, i64_w, i32_w]
                 rfl
                refine pure_ (i := 8) (N := some 3) (v := ?_) (a' := ?_) #[true, true, true, true, true, true, true, true, true] rfl rfl (any_of HT_.out (by kernel_rfl)) (fun _ _ _ h => h) (Or.inl ⟨by rfl, ?_⟩) ?_ ?_
                rotate_left
                ·intro w'
                 go_simp
                 with_reducible rfl
                rotate_left
                ·simp only [Act.put, List.setIfInBounds_toArray, List.set_cons_zero, List.set_cons_succ, i64_w, i32_w]
                 rfl
                refine done_ (done_of HT_.out (by kernel_rfl)) ?_
                try go_wp2
                go_roundg k1
                case measure => have := HK1.out; omega
                case rel => exact ⟨(y155), (wrap64 (x12_1 + 1)), si_, H', ⟨by have := HK1.out; omega⟩, ⟨by (with_reducible repeat (first | apply Kd.R_alloc | apply Kd.R_drewN | apply Kd.R_drew)); exact Kd.R_mono HO157.out (fun _ hk => trivial)⟩, ⟨by repeat (first | (with_reducible first | exact HB.out | apply below_alloc | apply pw_below_drewN | apply below_drew1 | refine below_set ?_ GE133.out | refine below_set ?_ GE140.out | refine below_set ?_ GE141.out | refine below_set ?_ GE142.out) | exact HB.out)⟩⟩
               ·rw [if_neg c69] at H
                exact absurd H (by simp)
              ·rw [if_neg c68] at H
               exact absurd H (by simp)
             ·rw [if_neg c67] at H
              exact absurd H (by simp)
            ·rw [if_neg c65] at H
             exact absurd H (by simp)
          ·rw [if_neg c25] at H
           exact absurd H (by simp)
         ·rw [if_neg c24] at H
          exact absurd H (by simp)
        ·rw [if_neg c22] at H
         exact absurd H (by simp)
       ·rw [if_neg c21] at H
        exact absurd H (by simp)
     ·rw [if_neg c6] at H
      exact absurd H (by simp)
    ·rw [if_neg c5] at H
     exact absurd H (by simp)
   ·rw [if_neg c4] at H
    have c4b0 : decide (x12_1 < (l0.length : Int)) = false := decide_eq_false c4; clear c4
    by_cases c102 : 0 < (x3_1.length : Int)
    ·rw [if_pos c102] at H
     have c102b0 : decide (0 < (x3_1.length : Int)) = true := decide_eq_true c102; have c102b1 : decide (0 < x3_1.length) = true := decide_eq_true (by omega); clear c102; obtain rfl := Option.some.inj H; obtain ⟨Ao103, co103, eo103⟩ := Kd.R_slice HO_3.out; subst eo103; have p131 : 0 ≤ (0 : Int) := (by omega); have q131 : 0 < (x3_1.length : Int) := of_decide_eq_true as_; obtain ⟨ad131, e131, hx131_0, hx131_1, hx131_2⟩ := at_T73 (Kd.R_reads' HO_3.out).2.2 0 p131 q131; cases e131; have qi131 : (0 < x3_1.length) = True := eq_true (by omega)
     (try rw [show ((0 : Int)).toNat = 0 from rfl] at hx131_0)
     (try rw [show 0 * 3 = 0 from rfl] at hx131_0)
     (try rw [Addr.add_zero'] at hx131_0)
     (try rw [show ((0 : Int)).toNat = 0 from rfl] at hx131_1)
     (try rw [show 0 * 3 = 0 from rfl] at hx131_1)
     (try rw [Addr.add_zero'] at hx131_1)
     (try rw [show ((0 : Int)).toNat = 0 from rfl] at hx131_2)
     (try rw [show 0 * 3 = 0 from rfl] at hx131_2)
     (try rw [Addr.add_zero'] at hx131_2)
     replace p131 := eq_true p131; replace q131 := eq_true q131
     go_wp2
     go_ret
     exact ⟨sr_, bl_ HB.out⟩
    ·rw [if_neg c102] at H
     exact absurd H (by simp)

end Go.Proofs.YtoifikhcnioagaaDoor.PFnExactReadTerm
