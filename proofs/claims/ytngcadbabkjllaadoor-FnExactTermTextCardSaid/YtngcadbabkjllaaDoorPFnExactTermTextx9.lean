/- Walks of the functions that this law reaches, one by one, written by a program. No condition. -/
import Derived.Test.YtngcadbabkjllaaDoorPFnExactTermTextx0
import Derived.Test.YtngcadbabkjllaaDoorPFnExactTermTextx8
namespace Go.Proofs.YtngcadbabkjllaaDoor.PFnExactTermText
open Go.RowKit Go.Proofs.YtngcadbabkjllaaDoorW.PrintWords Go.Proofs.YtngcadbabkjllaaDoorW.PrintLast Go.Proofs.YtngcadbabkjllaaDoorW.PrintMore
attribute [local go_sem] max2_int min2_int max_two min_two max_three min_three max_four min_four   -- for this text's walks alone
set_option linter.unusedVariables false
set_option linter.unusedSimpArgs false

/-! ### impl_termText: function 18 -/
def impl_termText.l0 : Nat → List (S54) → List (S41) → Int → Int → Option (ByteArray)
 | 0, _, _, _, _ => none
 | k + 1, x3, x10, x11, x12 => if x12 < x11 then (if 0 ≤ x12 then (if x12 < (x10.length : Int) then (if ((rd_T41 x10 x12).f0) = 0 then (if 0 ≤ ((rd_T41 x10 x12).f1) then (if ((rd_T41 x10 x12).f1) ≤ (wrap64 (((rd_T41 x10 x12).f1) + 1)) then (if (wrap64 (((rd_T41 x10 x12).f1) + 1)) ≤ 4 then ((strconv_Itoa.f k ((rd_T41 x10 x12).f2)).bind fun t204 => (if ((⟨#[65, 66, 67, 68]⟩ : ByteArray).extract (((rd_T41 x10 x12).f1) : Int).toNat ((wrap64 (((rd_T41 x10 x12).f1) + 1)) : Int).toNat).size + t204.size ≤ 9223372036854775807 then (if x3.length < 4398046511104 then (impl_termText.l0 k (x3 ++ [(⟨((⟨#[65, 66, 67, 68]⟩ : ByteArray).extract (((rd_T41 x10 x12).f1) : Int).toNat ((wrap64 (((rd_T41 x10 x12).f1) + 1)) : Int).toNat) ++ t204, false, 1⟩ : S54)]) x10 x11 (wrap64 (x12 + 1))) else (none)) else (none))) else (none)) else (none)) else (none)) else (if 0 ≤ (wrap64 ((x3.length : Int) - 2)) then (if (wrap64 ((x3.length : Int) - 2)) < (x3.length : Int) then (if 0 ≤ (wrap64 ((x3.length : Int) - 1)) then (if (wrap64 ((x3.length : Int) - 1)) < (x3.length : Int) then (if ((rd_T41 x10 x12).f0) = 2 then (if ((rd_T54 x3 (wrap64 ((x3.length : Int) - 2))).f0).size + 1 ≤ 9223372036854775807 then ((impl_wrapped.f ((rd_T54 x3 (wrap64 ((x3.length : Int) - 1))).f0) ((rd_T54 x3 (wrap64 ((x3.length : Int) - 1))).f1)).bind fun t213 => (if (((rd_T54 x3 (wrap64 ((x3.length : Int) - 2))).f0) ++ (⟨#[124]⟩ : ByteArray)).size + t213.size ≤ 9223372036854775807 then (if (wrap64 ((x3.length : Int) - 2)) ≤ (x3.length : Int) then ((some (x3.take ((wrap64 ((x3.length : Int) - 2)) : Int).toNat : List (S54))).bind fun y214 => (if y214.length < 4398046511104 then (impl_termText.l0 k (y214 ++ [(⟨(((rd_T54 x3 (wrap64 ((x3.length : Int) - 2))).f0) ++ (⟨#[124]⟩ : ByteArray)) ++ t213, (((rd_T41 x10 x12).f0) == 2), wrap64 ((wrap64 (((rd_T54 x3 (wrap64 ((x3.length : Int) - 2))).f2) + ((rd_T54 x3 (wrap64 ((x3.length : Int) - 1))).f2))) + 1)⟩ : S54)]) x10 x11 (wrap64 (x12 + 1))) else (none))) else (none)) else (none))) else (none)) else ((impl_wrapped.f ((rd_T54 x3 (wrap64 ((x3.length : Int) - 2))).f0) ((rd_T54 x3 (wrap64 ((x3.length : Int) - 2))).f1)).bind fun t220 => (if t220.size + 1 ≤ 9223372036854775807 then ((impl_wrapped.f ((rd_T54 x3 (wrap64 ((x3.length : Int) - 1))).f0) (decide (((rd_T54 x3 (wrap64 ((x3.length : Int) - 1))).f2) > 1))).bind fun t221 => (if (t220 ++ (⟨#[38]⟩ : ByteArray)).size + t221.size ≤ 9223372036854775807 then (if (wrap64 ((x3.length : Int) - 2)) ≤ (x3.length : Int) then ((some (x3.take ((wrap64 ((x3.length : Int) - 2)) : Int).toNat : List (S54))).bind fun y222 => (if y222.length < 4398046511104 then (impl_termText.l0 k (y222 ++ [(⟨(t220 ++ (⟨#[38]⟩ : ByteArray)) ++ t221, (((rd_T41 x10 x12).f0) == 2), wrap64 ((wrap64 (((rd_T54 x3 (wrap64 ((x3.length : Int) - 2))).f2) + ((rd_T54 x3 (wrap64 ((x3.length : Int) - 1))).f2))) + 1)⟩ : S54)]) x10 x11 (wrap64 (x12 + 1))) else (none))) else (none)) else (none))) else (none)))) else (none)) else (none)) else (none)) else (none))) else (none)) else (none)) else (if 0 < (x3.length : Int) then (some ((rd_T54 x3 0).f0)) else (none))
def impl_termText.f (k : Nat) (l0 : List (S41)) : Option (ByteArray) := impl_termText.l0 k (([] : List (S54))) l0 (l0.length : Int) 0
theorem impl_termText.mono_l : ∀ k, (∀ y0 y1 y2 y3, LeO (impl_termText.l0 k y0 y1 y2 y3) (impl_termText.l0 (k + 1) y0 y1 y2 y3))
 | 0 => fun _ _ _ _ r h => by simp [impl_termText.l0] at h
 | k + 1 => by
  have ih0 := impl_termText.mono_l k
  ·intro y0 y1 y2 y3
   unfold impl_termText.l0
   repeat' first
   | (with_reducible exact ih0 _ _ _ _)
   | (with_reducible exact strconv_Itoa.mono _ _)
   | (with_reducible exact LeO.refl _)
   | (with_reducible exact LeO.none _)
   | (with_reducible refine LeO.ite ?_ ?_)
   | (with_reducible refine LeO.bind ?_ (fun _ => ?_))
   | exact ih0 _ _ _ _
   | exact strconv_Itoa.mono _ _
   | exact LeO.none _
   | refine LeO.ite ?_ ?_
   | refine LeO.bind ?_ (fun _ => ?_)
theorem impl_termText.mono : ∀ a0 k, LeO (impl_termText.f k a0) (impl_termText.f (k + 1) a0) := by
 intro a0 k; have ih0 := impl_termText.mono_l k
 unfold impl_termText.f
 repeat' first
   | (with_reducible exact ih0 _ _ _ _)
   | (with_reducible exact strconv_Itoa.mono _ _)
   | (with_reducible exact LeO.refl _)
   | (with_reducible exact LeO.none _)
   | (with_reducible refine LeO.ite ?_ ?_)
   | (with_reducible refine LeO.bind ?_ (fun _ => ?_))
   | exact ih0 _ _ _ _
   | exact strconv_Itoa.mono _ _
   | exact LeO.none _
   | refine LeO.ite ?_ ?_
   | refine LeO.bind ?_ (fun _ => ?_)
def impl_termText.T6 : Bool × List (List Nat × List Nat) := (true, [([], []), ([], []), ([1], [1]), ([], []), ([3], [3]), ([4], [4]), ([2, 5], [2, 5]), ([], []), ([7], [7]), ([8], [8]), ([6, 9], [6, 9]), ([10], [10]), ([11], [11]), ([0, 12, 9], [0, 12]), ([13, 13, 0, 1, 2, 3, 4, 5, 6, 7, 8, 9, 10, 11, 12, 13], [0, 13])])
def impl_termText.B6 : List Nat := [0, 0, 2, 0, 8, 24, 62, 0, 128, 384, 1022, 2046, 4094, 8191, 16383]
theorem impl_termText.tab6 : rtab .any (opsOf Tryd.f18 6) = impl_termText.T6 := by kernel_rfl
theorem impl_termText.bits6 : waitsOk impl_termText.T6.2 impl_termText.B6 = true := by kernel_rfl
def impl_termText.T7 : Bool × List (List Nat × List Nat) := (true, [([], []), ([], []), ([1], [1]), ([2], [2]), ([0, 3], [0, 3]), ([4], [4]), ([], []), ([], []), ([7], [7]), ([8], [8]), ([6, 9], [6, 9]), ([10], [10]), ([], []), ([], []), ([12, 5, 0, 1, 2, 3, 4, 5, 12, 13], [5, 12]), ([13, 11, 14, 0, 1, 2, 3, 4, 5, 6, 7, 8, 9, 10, 11, 12, 13, 14], [11, 13])])
def impl_termText.B7 : List Nat := [0, 0, 2, 6, 15, 31, 0, 0, 128, 384, 960, 1984, 0, 0, 12351, 32767]
theorem impl_termText.tab7 : rtab .any (opsOf Tryd.f18 7) = impl_termText.T7 := by kernel_rfl
theorem impl_termText.bits7 : waitsOk impl_termText.T7.2 impl_termText.B7 = true := by kernel_rfl
def impl_termText.T10 : Bool × List (List Nat × List Nat) := (true, [([], []), ([0], [0]), ([1], [1]), ([], []), ([3], [3]), ([], []), ([5], [5]), ([4, 6], [4, 6]), ([2, 7], [2, 7]), ([0, 1, 2, 3, 4, 5, 6, 7, 8], []), ([9, 8, 7, 0, 1, 2, 3, 4, 5, 6, 7, 8], [8, 9])])
def impl_termText.B10 : List Nat := [0, 1, 3, 0, 8, 0, 32, 120, 255, 511, 1023]
theorem impl_termText.tab10 : rtab .any (opsOf Tryd.f18 10) = impl_termText.T10 := by kernel_rfl
theorem impl_termText.bits10 : waitsOk impl_termText.T10.2 impl_termText.B10 = true := by kernel_rfl
def impl_termText.T11 : Bool × List (List Nat × List Nat) := (true, [([], []), ([0], [0]), ([], []), ([2], [2]), ([1, 3], [1, 3]), ([4], [4]), ([], []), ([6], [6]), ([], []), ([8], [8]), ([9], [9]), ([7, 10, 4], [7, 10]), ([5, 11], [5, 11]), ([0, 1, 2, 3, 4, 5, 6, 7, 8, 9, 10, 11, 12], []), ([13, 12, 11, 0, 1, 2, 3, 4, 5, 6, 7, 8, 9, 10, 11, 12], [12, 13])])
def impl_termText.B11 : List Nat := [0, 1, 0, 4, 15, 31, 0, 64, 0, 256, 768, 2015, 4095, 8191, 16383]
theorem impl_termText.tab11 : rtab .any (opsOf Tryd.f18 11) = impl_termText.T11 := by kernel_rfl
theorem impl_termText.bits11 : waitsOk impl_termText.T11.2 impl_termText.B11 = true := by kernel_rfl
def impl_termText.T12 : Bool × List (List Nat × List Nat) := (true, [([], []), ([], []), ([1], [1]), ([2], [2]), ([0, 3], [0, 3]), ([], []), ([5], [5]), ([4, 6], [4, 6]), ([7, 7, 0, 1, 2, 3, 4, 5, 6, 7], [0, 1, 7])])
def impl_termText.B12 : List Nat := [0, 0, 2, 6, 15, 0, 32, 127, 255]
theorem impl_termText.tab12 : rtab .any (opsOf Tryd.f18 12) = impl_termText.T12 := by kernel_rfl
theorem impl_termText.bits12 : waitsOk impl_termText.T12.2 impl_termText.B12 = true := by kernel_rfl
set_option maxHeartbeats 8000000 in
set_option maxRecDepth 100000 in
theorem impl_termText.calls (k : Nat) (A0 : Option Addr) (c0 : Nat) (l0 : List (S41)) (r : ByteArray) (w : World) (hr0 : Kd.C k41 w A0 l0.length l0) (hc0 : l0.length ≤ c0) (h : impl_termText.f k l0 = some r) :
  Calls Tryd.prog 18 #[.slice A0 l0.length c0] w fun e w' => e = .returned (.string r) ∧ Below w.heap.size w w' := by
 have hu41 := Tryd.underlying41; have hu54 := Tryd.underlying54; have HR0 := Aside0.mk hr0; have HC0 := Aside0.mk hc0; clear hr0 hc0; have HB := Aside0.mk (Below.refl w.heap.size w); have H := h; clear h
 unfold impl_termText.f at H
 obtain ⟨y198, hy198⟩ : ∃ y_ : List (S54), y_ = (([] : List (S54))) := ⟨_, rfl⟩
 replace H : (impl_termText.l0 k y198 l0 (l0.length : Int) 0) = some r := by first | (rw [hy198]; with_reducible exact H) | (have H2_ := (Option.bind_some _ _).symm.trans H; rw [hy198]; with_reducible exact H2_) | (have H2_ := (Option.bind_some _ _).symm.trans H; with_reducible exact H2_) | with_reducible exact H | (rw [hy198]; exact H) | exact H
 have Ny198 := Aside0.mk hy198; clear hy198; have H' := Aside0.mk H; clear H
 go_enter Tryd.func18, Tryd.ntmps18
 go_wp2_with (first | ((with_reducible refine gate_dst (N := 9) rfl ?_); refine Kd.R_lit k54 _ 54 ?hg (N := 9) ?hd (xs := ([] : List (S54))) (inner := []) (ok := fun _ => True) (okp := fun _ => True) ?hr ?hp (fun _ hk => hk) trivial (Below.refl _ _) (Nat.le_refl _) (by simp) ?_; (case hd => rfl); (case hg => rfl); (case hr => first | (go_simp; done) | (go_simp; rfl)); (case hp => exact (Reps.none _ _)); intro v199 w2 ho3 hb hg_ hnew_; clear hg_ hnew_; (first | rw [← Ny198.out] at ho3 | (simp only [Int.reduceToNat] at ho3; rw [← Ny198.out] at ho3)); have n0_ := Aside0.mk (Kd.R_lower ho3 (below_size (bl_ HB.out))); have n1_ := Aside0.mk (below_step (bl_ HB.out) hb); clear HB; have HO200 := n0_; have HB := n1_; clear n0_ n1_; clear hb ho3))
 go_loopg [3, 12] k (fun kq v3 v12 w' => ∃ (x3_1 : List (S54)) (x12_1 : Int), v12 = .int .i64 x12_1 ∧ Aside0 (impl_termText.l0 kq x3_1 l0 (l0.length : Int) x12_1 = some r) ∧ Aside0 (kq ≤ k) ∧ Aside0 (Kd.R k54 54 w' w.heap.size (fun _ => True) v3 x3_1) ∧ Aside0 (Below w.heap.size w w'))
 case atStart => exact ⟨(y198), (0), si_, H', ⟨Nat.le_refl _⟩, ⟨r_ HO200.out⟩, ⟨bl_ HB.out⟩⟩
 case round =>
  clear H'; (try clear c1); (try clear p2); obtain ⟨x3_1, x12_1, rfl, HA, HK1, HO_3, HB⟩ := hrel
  cases gk with
  | zero => exact absurd HA.out (by simp [impl_termText.l0])
  | succ k1 =>
   have H := HA.out; clear HA
   simp only [impl_termText.l0] at H
   by_cases c4 : x12_1 < (l0.length : Int)
   ·rw [if_pos c4] at H
    have c4b0 : decide (x12_1 < (l0.length : Int)) = true := decide_eq_true c4; clear c4
    by_cases c5 : 0 ≤ x12_1
    ·rw [if_pos c5] at H
     have c5b0 : decide (0 ≤ x12_1) = true := decide_eq_true c5; clear c5
     by_cases c6 : x12_1 < (l0.length : Int)
     ·rw [if_pos c6] at H
      have c6b0 : decide (x12_1 < (l0.length : Int)) = true := decide_eq_true c6; clear c6
      by_cases c7 : ((rd_T41 l0 x12_1).f0) = 0
      ·rw [if_pos c7] at H
       have c7b0 : (((rd_T41 l0 x12_1).f0) == 0) = true := beq_iff_eq.mpr c7; have c7b1 : (((rd_T41 l0 x12_1).f0) != 0) = false := bne_eq_false_iff_eq.mpr c7; clear c7
       by_cases c8 : 0 ≤ ((rd_T41 l0 x12_1).f1)
       ·rw [if_pos c8] at H
        have c8b0 := eq_true c8; have c8b1 : decide (0 ≤ ((rd_T41 l0 x12_1).f1)) = true := decide_eq_true c8; clear c8
        by_cases c9 : ((rd_T41 l0 x12_1).f1) ≤ (wrap64 (((rd_T41 l0 x12_1).f1) + 1))
        ·rw [if_pos c9] at H
         have c9b0 := eq_true c9; have c9b1 : decide (((rd_T41 l0 x12_1).f1) ≤ (wrap64 (((rd_T41 l0 x12_1).f1) + 1))) = true := decide_eq_true c9
         by_cases c10 : (wrap64 (((rd_T41 l0 x12_1).f1) + 1)) ≤ 4
         ·rw [if_pos c10] at H
          have c10b0 := eq_true c10; have c10b1 : decide ((wrap64 (((rd_T41 l0 x12_1).f1) + 1)) ≤ 4) = true := decide_eq_true c10; replace H := Option.bind_eq_some_iff.mp H; obtain ⟨t204, A110, H⟩ := H
          try dsimp only at H
          have A11 := Aside0.mk A110; clear A110
          by_cases c12 : ((⟨#[65, 66, 67, 68]⟩ : ByteArray).extract (((rd_T41 l0 x12_1).f1) : Int).toNat ((wrap64 (((rd_T41 l0 x12_1).f1) + 1)) : Int).toNat).size + t204.size ≤ 9223372036854775807
          ·rw [if_pos c12] at H
           have c12b0 := eq_true c12; have c12b1 : decide (((⟨#[65, 66, 67, 68]⟩ : ByteArray).extract (((rd_T41 l0 x12_1).f1) : Int).toNat ((wrap64 (((rd_T41 l0 x12_1).f1) + 1)) : Int).toNat).size + t204.size ≤ 9223372036854775807) = true := decide_eq_true c12
           try have c12b2 : (9223372036854775807 < ((⟨#[65, 66, 67, 68]⟩ : ByteArray).extract (((rd_T41 l0 x12_1).f1) : Int).toNat ((wrap64 (((rd_T41 l0 x12_1).f1) + 1)) : Int).toNat).size + t204.size) = False := eq_false (Nat.not_lt.2 c12)
           have c12q : (wrap64 (((rd_T41 l0 x12_1).f1) + 1)).toNat - ((rd_T41 l0 x12_1).f1).toNat + t204.size ≤ 9223372036854775807 := by
            have h_ := c12; have h2_ := of_eq_true c10b0
            rw [ByteArray.size_extract] at h_
            have h3_ : (wrap64 (((rd_T41 l0 x12_1).f1) + 1)).toNat ≤ (⟨#[65, 66, 67, 68]⟩ : ByteArray).size := by show _ ≤ 4; generalize wrap64 (((rd_T41 l0 x12_1).f1) + 1) = z_ at h2_ ⊢; omega
            rw [Nat.min_eq_left h3_] at h_; exact h_
           have c12b3 := eq_false (Nat.not_lt.2 c12q); have c12b4 := eq_true c12q; clear c12q
           by_cases c13 : x3_1.length < 4398046511104
           ·rw [if_pos c13] at H
            have LMc13 := Aside0.mk c13; clear c13; obtain ⟨y205, hy205⟩ : ∃ y_ : List (S54), y_ = (x3_1 ++ [(⟨((⟨#[65, 66, 67, 68]⟩ : ByteArray).extract (((rd_T41 l0 x12_1).f1) : Int).toNat ((wrap64 (((rd_T41 l0 x12_1).f1) + 1)) : Int).toNat) ++ t204, false, 1⟩ : S54)]) := ⟨_, rfl⟩
            replace H : (impl_termText.l0 k1 y205 l0 (l0.length : Int) (wrap64 (x12_1 + 1))) = some r := by first | (rw [hy205]; with_reducible exact H) | (have H2_ := (Option.bind_some _ _).symm.trans H; rw [hy205]; with_reducible exact H2_) | (have H2_ := (Option.bind_some _ _).symm.trans H; with_reducible exact H2_) | with_reducible exact H | (rw [hy205]; exact H) | exact H
            have Ny205 := Aside0.mk hy205; clear hy205; have H' := Aside0.mk H; clear H; have p202 : 0 ≤ (x12_1 : Int) := of_decide_eq_true as_; have q202 : x12_1 < (l0.length : Int) := of_decide_eq_true as_; obtain ⟨ad202, e202, hx202_0, hx202_1, hx202_2⟩ := at_T41 HR0.out x12_1 p202 q202; cases e202; replace hx202_0 := (HB.out.cell (World.block_lt_of_cell? w _ hx202_0)).trans hx202_0; replace hx202_1 := (HB.out.cell (World.block_lt_of_cell? w _ hx202_1)).trans hx202_1; replace hx202_2 := (HB.out.cell (World.block_lt_of_cell? w _ hx202_2)).trans hx202_2; replace p202 := eq_true p202; replace q202 := eq_true q202
            try go_wp2_with (first | ((with_reducible refine gate_dst (N := 5) rfl ?_); refine box_event ?hg (N := 5) ?hd (cs := #[.int .i64 0, .int .i64 0, .int .i64 0]) (t := 41) ?hr ?_; (case hd => rfl); (case hg => rfl); (case hr => first | (go_simp; done) | (go_simp; rfl)); intro gb203 hg w14 hbox hb; have n0_ := Aside0.mk (Kd.R_below (r_ HO_3.out) hb); have n1_ := Aside0.mk (below_step (bl_ HB.out) hb); have n2_ := Aside0.mk (hbox); have n3_ := Aside0.mk ((by rw [hg]; exact (below_size (bl_ HB.out)) : w.heap.size ≤ gb203)); have n4_ := Aside0.mk ((by rw [hg]; exact (below_size (bl_ HB.out)) : w.heap.size ≤ gb203)); clear HO_3; clear HB; have HO_3 := n0_; have HB := n1_; have BK203 := n2_; have GW203 := n3_; have GE203 := n4_; clear n0_ n1_ n2_ n3_ n4_; clear hb hbox hg; have hcz15_0 : w14.cell? ⟨gb203, 0, none⟩ = some (.int .i64 0) := (blk_cell BK203.out 0).trans rfl; have hcz15_1 : w14.cell? ⟨gb203, 1, none⟩ = some (.int .i64 0) := (blk_cell BK203.out 1).trans rfl; have hcz15_2 : w14.cell? ⟨gb203, 2, none⟩ = some (.int .i64 0) := (blk_cell BK203.out 2).trans rfl; have hfz15_0 := blk_frozen BK203.out 0; have hfz15_1 := blk_frozen BK203.out 1; have hfz15_2 := blk_frozen BK203.out 2))
            have n0_ : Aside0 (Kd.R k54 54 (((w14.setCell ⟨gb203, 0, none⟩ (.int .i64 ((rd_T41 l0 x12_1).f0))).setCell ⟨gb203, 1, none⟩ (.int .i64 ((rd_T41 l0 x12_1).f1))).setCell ⟨gb203, 2, none⟩ (.int .i64 ((rd_T41 l0 x12_1).f2))) w.heap.size (fun _ => True) u3 x3_1) := ⟨by (with_reducible repeat (first | apply Kd.R_alloc | apply Kd.R_drewN | apply Kd.R_drew)); exact Kd.R_mono (Kd.R_far (p := ⟨gb203, 2, none⟩) (Kd.R_far (p := ⟨gb203, 1, none⟩) (Kd.R_far (p := ⟨gb203, 0, none⟩) (Kd.R_types HO_3.out BK203.out (by decide)) (fun _ hk => hk.2) (.int .i64 ((rd_T41 l0 x12_1).f0))) (fun _ hk => hk.2) (.int .i64 ((rd_T41 l0 x12_1).f1))) (fun _ hk => hk.2) (.int .i64 ((rd_T41 l0 x12_1).f2))) (fun _ hk => trivial)⟩; have n1_ : Aside0 ((((w14.setCell ⟨gb203, 0, none⟩ (.int .i64 ((rd_T41 l0 x12_1).f0))).setCell ⟨gb203, 1, none⟩ (.int .i64 ((rd_T41 l0 x12_1).f1))).setCell ⟨gb203, 2, none⟩ (.int .i64 ((rd_T41 l0 x12_1).f2))).heap[gb203]? = some (.cells #[.int .i64 ((rd_T41 l0 x12_1).f0), .int .i64 ((rd_T41 l0 x12_1).f1), .int .i64 ((rd_T41 l0 x12_1).f2)] 41 (0, 0))) := ⟨by (with_reducible repeat (first | refine blk_drewN ?_ _ | refine blk_drew ?_ | refine blk_alloc ?_ _)); refine blk_put (cs := #[.int .i64 ((rd_T41 l0 x12_1).f0), .int .i64 ((rd_T41 l0 x12_1).f1), .int .i64 0]) ?_ 2 _ rfl; (with_reducible repeat (first | refine blk_drewN ?_ _ | refine blk_drew ?_ | refine blk_alloc ?_ _)); refine blk_put (cs := #[.int .i64 ((rd_T41 l0 x12_1).f0), .int .i64 0, .int .i64 0]) ?_ 1 _ rfl; (with_reducible repeat (first | refine blk_drewN ?_ _ | refine blk_drew ?_ | refine blk_alloc ?_ _)); refine blk_put (cs := #[.int .i64 0, .int .i64 0, .int .i64 0]) ?_ 0 _ rfl; (with_reducible repeat (first | refine blk_drewN ?_ _ | refine blk_drew ?_ | refine blk_alloc ?_ _)); exact BK203.out⟩; have n2_ : Aside0 (Below w.heap.size w (((w14.setCell ⟨gb203, 0, none⟩ (.int .i64 ((rd_T41 l0 x12_1).f0))).setCell ⟨gb203, 1, none⟩ (.int .i64 ((rd_T41 l0 x12_1).f1))).setCell ⟨gb203, 2, none⟩ (.int .i64 ((rd_T41 l0 x12_1).f2)))) := ⟨bs_ HB.out GE203.out⟩
            (try clear HO_3)
            (try clear BK203)
            (try clear HB)
            generalize (((w14.setCell ⟨gb203, 0, none⟩ (.int .i64 ((rd_T41 l0 x12_1).f0))).setCell ⟨gb203, 1, none⟩ (.int .i64 ((rd_T41 l0 x12_1).f1))).setCell ⟨gb203, 2, none⟩ (.int .i64 ((rd_T41 l0 x12_1).f2))) = w16 at n0_ n1_ n2_ ⊢
            have HO_3 := n0_; have BK203 := n1_; have HB := n2_; clear n0_ n1_ n2_; have n0_ := Aside0.mk (Kd.R_drew HO_3.out); have n1_ := Aside0.mk (blk_drew BK203.out); have n2_ := Aside0.mk (below_drew1 HB.out); clear HO_3 BK203 HB; have HO_3 := n0_; have BK203 := n1_; have HB := n2_; clear n0_ n1_ n2_
            refine start_ (n := 15) (S := fun w' => w'.cell? ⟨gb203, 0, none⟩ = some (.int .i64 ((rd_T41 l0 x12_1).f0)) ∧ w'.cell? ⟨gb203, 1, none⟩ = some (.int .i64 ((rd_T41 l0 x12_1).f1)) ∧ w'.cell? ⟨gb203, 2, none⟩ = some (.int .i64 ((rd_T41 l0 x12_1).f2))) (ds := []) #[false, false, false, false, false, false, false, false, false, false, false, false, false, false, false] (by kernel_rfl) rfl rfl ⟨(blk_cell BK203.out 0).trans rfl, (blk_cell BK203.out 1).trans rfl, (blk_cell BK203.out 2).trans rfl⟩ (fun hHeld => ?_); refine with_tabW impl_termText.tab6 impl_termText.bits6 (fun HT_ HW_ => ?_)
            generalize w16.drew = w17 at HO_3 BK203 HB hHeld ⊢
            refine pure_ (i := 0) (N := some 19) (v := ?_) (a' := ?_) #[true, false, false, false, false, false, false, false, false, false, false, false, false, false, false] rfl rfl (any_of HT_.out (by kernel_rfl)) (fun _ _ _ h => h) (Or.inl ⟨by rfl, ?_⟩) ?_ ?_
            rotate_left
            ·intro w'
             go_simp
             with_reducible rfl
            rotate_left
            ·simp only [Act.put, List.setIfInBounds_toArray, List.set_cons_zero, List.set_cons_succ, i64_w, i32_w]
             rfl
            refine pure_ (i := 1) (N := some 20) (v := ?_) (a' := ?_) #[true, true, false, false, false, false, false, false, false, false, false, false, false, false, false] rfl rfl (any_of HT_.out (by kernel_rfl)) (fun _ _ _ h => h) (Or.inl ⟨by rfl, ?_⟩) ?_ ?_
            rotate_left
            ·intro w'
             go_simp
             with_reducible rfl
            rotate_left
            ·simp only [Act.put, List.setIfInBounds_toArray, List.set_cons_zero, List.set_cons_succ, i64_w, i32_w]
             rfl
            refine pure_ (i := 3) (N := some 22) (v := ?_) (a' := ?_) #[true, true, false, true, false, false, false, false, false, false, false, false, false, false, false] rfl rfl (any_of HT_.out (by kernel_rfl)) (fun _ _ _ h => h) (Or.inl ⟨by rfl, ?_⟩) ?_ ?_
            rotate_left
            ·intro w'
             go_simp
             with_reducible rfl
            rotate_left
            ·simp only [Act.put, List.setIfInBounds_toArray, List.set_cons_zero, List.set_cons_succ, i64_w, i32_w]
             rfl
            refine pure_ (i := 7) (N := some 26) (v := ?_) (a' := ?_) #[true, true, false, true, false, false, false, true, false, false, false, false, false, false, false] rfl rfl (any_of HT_.out (by kernel_rfl)) (fun _ _ _ h => h) (Or.inl ⟨by rfl, ?_⟩) ?_ ?_
            rotate_left
            ·intro w'
             go_simp
             with_reducible rfl
            rotate_left
            ·simp only [Act.put, List.setIfInBounds_toArray, List.set_cons_zero, List.set_cons_succ, i64_w, i32_w]
             rfl
            refine take_ (i := 2) (N := some 21) (v := ?_) (a' := ?_) #[true, true, true, true, false, false, false, true, false, false, false, false, false, false, false] rfl rfl (take_ofW HT_.out HW_.out (by kernel_rfl)) (fun _ _ _ h => h) (Or.inl ⟨by rfl, ?_⟩) hHeld ?_ ?_
            rotate_left
            ·rintro w' ⟨s0, s1, s2⟩
             go_simp
             with_reducible rfl
            rotate_left
            ·simp only [Act.put, List.setIfInBounds_toArray, List.set_cons_zero, List.set_cons_succ, i64_w, i32_w]
             rfl
            refine take_ (i := 4) (N := some 23) (v := ?_) (a' := ?_) #[true, true, true, true, true, false, false, true, false, false, false, false, false, false, false] rfl rfl (take_ofW HT_.out HW_.out (by kernel_rfl)) (fun _ _ _ h => h) (Or.inl ⟨by rfl, ?_⟩) hHeld ?_ ?_
            rotate_left
            ·rintro w' ⟨s0, s1, s2⟩
             go_simp
             with_reducible rfl
            rotate_left
            ·simp only [Act.put, List.setIfInBounds_toArray, List.set_cons_zero, List.set_cons_succ, i64_w, i32_w]
             rfl
            refine pure_ (i := 5) (N := some 24) (v := ?_) (a' := ?_) #[true, true, true, true, true, true, false, true, false, false, false, false, false, false, false] rfl rfl (any_of HT_.out (by kernel_rfl)) (fun _ _ _ h => h) (Or.inl ⟨by rfl, ?_⟩) ?_ ?_
            rotate_left
            ·intro w'
             go_simp
             with_reducible rfl
            rotate_left
            ·simp only [Act.put, List.setIfInBounds_toArray, List.set_cons_zero, List.set_cons_succ, i64_w, i32_w]
             rfl
            refine pure_ (i := 6) (N := some 25) (v := ?_) (a' := ?_) #[true, true, true, true, true, true, true, true, false, false, false, false, false, false, false] rfl rfl (any_of HT_.out (by kernel_rfl)) (fun _ _ _ h => h) (Or.inl ⟨by rfl, ?_⟩) ?_ ?_
            rotate_left
            ·intro w'
             go_simp
             with_reducible rfl
            rotate_left
            ·simp only [Act.put, List.setIfInBounds_toArray, List.set_cons_zero, List.set_cons_succ, i64_w, i32_w]
             rfl
            refine take_ (i := 8) (N := some 27) (v := ?_) (a' := ?_) #[true, true, true, true, true, true, true, true, true, false, false, false, false, false, false] rfl rfl (take_ofW HT_.out HW_.out (by kernel_rfl)) (fun _ _ _ h => h) (Or.inl ⟨by rfl, ?_⟩) hHeld ?_ ?_
            rotate_left
            ·rintro w' ⟨s0, s1, s2⟩
             go_simp
             with_reducible rfl
            rotate_left
            ·simp only [Act.put, List.setIfInBounds_toArray, List.set_cons_zero, List.set_cons_succ, i64_w, i32_w]
             rfl
            refine one_ (i := 9) (N := some 28) #[true, true, true, true, true, true, true, true, true, true, false, false, false, false, false] rfl rfl (one_of HT_.out (by kernel_rfl)) (by decide) (fun K hK => ?_)
            refine goes_ Tryd.func28 (by kernel_rfl) rfl #[.int .i64 ((rd_T41 l0 x12_1).f2)] (by rfl) rfl rfl ga_ ?_
            with_reducible refine (strconv_Itoa.calls k1 ((rd_T41 l0 x12_1).f2) t204 _ A11.out).mono ?_
            rintro e w18 ⟨rfl, hb⟩
            refine ⟨_, rfl, ?_⟩
            have n0_ := Aside0.mk (Kd.R_below (r_ HO_3.out) hb); have n1_ := Aside0.mk (blk_below (g := gb203) (o := .cells #[.int .i64 ((rd_T41 l0 x12_1).f0), .int .i64 ((rd_T41 l0 x12_1).f1), .int .i64 ((rd_T41 l0 x12_1).f2)] 41 (0, 0)) (bk_ BK203.out) hb); have n2_ := Aside0.mk (below_step (bs_ HB.out GE203.out) hb); clear HO_3 BK203 HB; have HO_3 := n0_; have BK203 := n1_; have HB := n2_; clear n0_ n1_ n2_
            (try clear hb)
            (try clear hb2)
            (try clear hk)
            (try clear hi)
            refine hK.out _ _ ⟨(blk_cell BK203.out 0).trans rfl, (blk_cell BK203.out 1).trans rfl, (blk_cell BK203.out 2).trans rfl⟩ (fun hHeld => ?_)
            clear hK K
            refine norm_ (a' := ?_) ?_ ?_
            rotate_left
            ·show Act.put _ (some 28) _ = _
             simp only [Act.put, List.setIfInBounds_toArray, List.set_cons_zero, List.set_cons_succ, i64_w, i32_w]
             rfl
            refine pure_ (i := 10) (N := some 29) (v := ?_) (a' := ?_) #[true, true, true, true, true, true, true, true, true, true, true, false, false, false, false] rfl rfl (any_of HT_.out (by kernel_rfl)) (fun _ _ _ h => h) (Or.inl ⟨by rfl, ?_⟩) ?_ ?_
            rotate_left
            ·intro w'
             go_simp
             with_reducible rfl
            rotate_left
            ·simp only [Act.put, List.setIfInBounds_toArray, List.set_cons_zero, List.set_cons_succ, i64_w, i32_w]
             rfl
            refine pure_ (i := 11) (N := some 30) (v := ?_) (a' := ?_) #[true, true, true, true, true, true, true, true, true, true, true, true, false, false, false] rfl rfl (any_of HT_.out (by kernel_rfl)) (fun _ _ _ h => h) (Or.inl ⟨by rfl, ?_⟩) ?_ ?_
            rotate_left
            ·intro w'
             go_simp
             with_reducible rfl
            rotate_left
            ·simp only [Act.put, List.setIfInBounds_toArray, List.set_cons_zero, List.set_cons_succ, i64_w, i32_w]
             rfl
            refine one_ (i := 12) (N := some 31) #[true, true, true, true, true, true, true, true, true, true, true, true, true, false, false] rfl rfl (one_of HT_.out (by kernel_rfl)) (by decide) (fun K hK => ?_)
            refine value_ (w1 := ?_) (v := ?_) (by rfl) rfl ?_ ?_
            rotate_left 2
            ·go_simp
             constructor
             ·rfl
             ·rfl
            refine hK.out _ _ ⟨(blk_cell (blk_alloc BK203.out _) 0).trans rfl, (blk_cell (blk_alloc BK203.out _) 1).trans rfl, (blk_cell (blk_alloc BK203.out _) 2).trans rfl⟩ (fun hHeld => ?_)
            clear hK K
            refine norm_ (a' := ?_) ?_ ?_
            rotate_left
            ·show Act.put _ (some 31) _ = _
             simp only [Act.put, List.setIfInBounds_toArray, List.set_cons_zero, List.set_cons_succ, i64_w, i32_w]
             rfl
            refine one_ (i := 13) (N := some 32) #[true, true, true, true, true, true, true, true, true, true, true, true, true, true, false] rfl rfl (one_of HT_.out (by kernel_rfl)) (by decide) (fun K hK => ?_)
            refine Kd.R_append_step k54 (w0 := w) w.heap.size (by rfl) (.tmp 19) (.tmp 31) 52 54 (.agg #[(.string ⟨#[]⟩), (.bool false), (.int .i64 0)]) 32 rfl Tryd.underlying52 info54 rfl (by decide) (by omega) u3 x3_1 (⟨((⟨#[65, 66, 67, 68]⟩ : ByteArray).extract (((rd_T41 l0 x12_1).f1) : Int).toNat ((wrap64 (((rd_T41 l0 x12_1).f1) + 1)) : Int).toNat) ++ t204, false, 1⟩ : S54) [.string (((⟨#[65, 66, 67, 68]⟩ : ByteArray).extract (((rd_T41 l0 x12_1).f1) : Int).toNat ((wrap64 (((rd_T41 l0 x12_1).f1) + 1)) : Int).toNat) ++ t204), .bool false, .int .i64 1] (fun _ => True) (fun _ => False) rfl rfl ?aP (fun _ hk => hk.elim) ?aF ?aO ?aB ?aS ?aL ?_
            (case aP => exact k54_mkM _ _ _ (⟨((⟨#[65, 66, 67, 68]⟩ : ByteArray).extract (((rd_T41 l0 x12_1).f1) : Int).toNat ((wrap64 (((rd_T41 l0 x12_1).f1) + 1)) : Int).toNat) ++ t204, false, 1⟩ : S54))
            (case aB => exact (bs_ HB.out GE203.out))
            (case aF => exact (fun _ _ => trivial))
            (case aO => exact (r_ HO_3.out))
            (case aS => exact (below_size (bs_ HB.out GE203.out)))
            (case aL => have := LMc13.out; omega)
            intro v206 w19 ho hb hg hat
            rw [← Ny205.out] at ho
            have n0_ := Aside0.mk (blk_grown (g := gb203) (o := .cells #[.int .i64 ((rd_T41 l0 x12_1).f0), .int .i64 ((rd_T41 l0 x12_1).f1), .int .i64 ((rd_T41 l0 x12_1).f2)] 41 (0, 0)) (bk_ BK203.out) hg (Kd.R_ne HO_3.out BK203.out (by decide))); have n1_ := Aside0.mk (hb); have n2_ := Aside0.mk (ho); clear BK203 HB HO_3; have BK203 := n0_; have HB := n1_; have HO207 := n2_; clear n0_ n1_ n2_ ho hb hg hat
            refine hK.out _ _ ⟨(blk_cell BK203.out 0).trans rfl, (blk_cell BK203.out 1).trans rfl, (blk_cell BK203.out 2).trans rfl⟩ (fun hHeld => ?_)
            clear hK K
            refine norm_ (a' := ?_) ?_ ?_
            rotate_left
            ·show Act.put _ (some 32) _ = _
             simp only [Act.put, List.setIfInBounds_toArray, List.set_cons_zero, List.set_cons_succ, i64_w, i32_w]
             rfl
            refine pure_ (i := 14) (N := some 3) (v := ?_) (a' := ?_) #[true, true, true, true, true, true, true, true, true, true, true, true, true, true, true] rfl rfl (any_of HT_.out (by kernel_rfl)) (fun _ _ _ h => h) (Or.inl ⟨by rfl, ?_⟩) ?_ ?_
            rotate_left
            ·intro w'
             go_simp
             with_reducible rfl
            rotate_left
            ·simp only [Act.put, List.setIfInBounds_toArray, List.set_cons_zero, List.set_cons_succ, i64_w, i32_w]
             rfl
            refine done_ (done_of HT_.out (by kernel_rfl)) ?_
            try go_wp2
            go_roundg k1
            case measure => have := HK1.out; omega
            case rel => exact ⟨(y205), (wrap64 (x12_1 + 1)), si_, H', ⟨by have := HK1.out; omega⟩, ⟨r_ HO207.out⟩, ⟨bs_ HB.out GE203.out⟩⟩
           ·rw [if_neg c13] at H
            exact absurd H (by simp)
          ·rw [if_neg c12] at H
           exact absurd H (by simp)
         ·rw [if_neg c10] at H
          exact absurd H (by simp)
        ·rw [if_neg c9] at H
         exact absurd H (by simp)
       ·rw [if_neg c8] at H
        exact absurd H (by simp)
      ·rw [if_neg c7] at H
       have c7b0 : (((rd_T41 l0 x12_1).f0) == 0) = false := beq_eq_false_iff_ne.mpr c7; have c7b1 : (((rd_T41 l0 x12_1).f0) != 0) = true := bne_iff_ne.mpr c7; obtain ⟨ji20, hji20⟩ : ∃ j_ : Int, (wrap64 ((x3_1.length : Int) - 2)) = j_ := ⟨_, rfl⟩
       first | rw [hji20] at H | simp only [hji20] at H
       have hji20w : (IntKind.i64.wrap ((x3_1.length : Int) - 2)) = ji20 := (i64_w _).trans hji20
       by_cases c21 : 0 ≤ (ji20)
       ·rw [if_pos c21] at H
        have c21b0 : decide (0 ≤ (ji20)) = true := decide_eq_true c21; clear c21
        by_cases c22 : (ji20) < (x3_1.length : Int)
        ·rw [if_pos c22] at H
         have c22b0 : decide ((ji20) < (x3_1.length : Int)) = true := decide_eq_true c22; clear c22; obtain ⟨ji23, hji23⟩ : ∃ j_ : Int, (wrap64 ((x3_1.length : Int) - 1)) = j_ := ⟨_, rfl⟩
         first | rw [hji23] at H | simp only [hji23] at H
         have hji23w : (IntKind.i64.wrap ((x3_1.length : Int) - 1)) = ji23 := (i64_w _).trans hji23
         by_cases c24 : 0 ≤ (ji23)
         ·rw [if_pos c24] at H
          have c24b0 : decide (0 ≤ (ji23)) = true := decide_eq_true c24; clear c24
          by_cases c25 : (ji23) < (x3_1.length : Int)
          ·rw [if_pos c25] at H
           have c25b0 : decide ((ji23) < (x3_1.length : Int)) = true := decide_eq_true c25; clear c25
           by_cases c26 : ((rd_T41 l0 x12_1).f0) = 2
           ·rw [if_pos c26] at H
            have c26b0 : (((rd_T41 l0 x12_1).f0) == 2) = true := beq_iff_eq.mpr c26; have c26b1 : (((rd_T41 l0 x12_1).f0) != 2) = false := bne_eq_false_iff_eq.mpr c26; clear c26; rw [c26b0] at H
            by_cases c27 : ((rd_T54 x3_1 (ji20)).f0).size + 1 ≤ 9223372036854775807
            ·rw [if_pos c27] at H
             have c27b0 := eq_true c27; have c27b1 : decide (((rd_T54 x3_1 (ji20)).f0).size + 1 ≤ 9223372036854775807) = true := decide_eq_true c27
             try have c27b2 : (9223372036854775807 < ((rd_T54 x3_1 (ji20)).f0).size + 1) = False := eq_false (Nat.not_lt.2 c27)
             replace H := Option.bind_eq_some_iff.mp H; obtain ⟨t213, A280, H⟩ := H
             try dsimp only at H
             have A28 := Aside0.mk A280; clear A280
             by_cases c29 : (((rd_T54 x3_1 (ji20)).f0) ++ (⟨#[124]⟩ : ByteArray)).size + t213.size ≤ 9223372036854775807
             ·rw [if_pos c29] at H
              have c29b0 := eq_true c29; have c29b1 : decide ((((rd_T54 x3_1 (ji20)).f0) ++ (⟨#[124]⟩ : ByteArray)).size + t213.size ≤ 9223372036854775807) = true := decide_eq_true c29
              try have c29b2 : (9223372036854775807 < (((rd_T54 x3_1 (ji20)).f0) ++ (⟨#[124]⟩ : ByteArray)).size + t213.size) = False := eq_false (Nat.not_lt.2 c29)
              try have c29b3 : (9223372036854775807 < ((rd_T54 x3_1 (ji20)).f0).size + 1 + t213.size) = False := eq_false (Nat.not_lt.2 (by have h_ := c29; simp only [ByteArray.size_append] at h_; exact h_))
              try have c29b4 : (((rd_T54 x3_1 (ji20)).f0).size + 1 + t213.size ≤ 9223372036854775807) = True := eq_true (by have h_ := c29; simp only [ByteArray.size_append] at h_; exact h_)
              by_cases c30 : (ji20) ≤ (x3_1.length : Int)
              ·rw [if_pos c30] at H
               have c30b0 := eq_true c30; have c30b1 : decide ((ji20) ≤ (x3_1.length : Int)) = true := decide_eq_true c30; clear c30; obtain ⟨y214, hy214⟩ : ∃ y_ : List (S54), y_ = (x3_1.take ((ji20) : Int).toNat) := ⟨_, rfl⟩
               replace H : (if y214.length < 4398046511104 then (impl_termText.l0 k1 (y214 ++ [(⟨(((rd_T54 x3_1 (ji20)).f0) ++ (⟨#[124]⟩ : ByteArray)) ++ t213, true, wrap64 ((wrap64 (((rd_T54 x3_1 (ji20)).f2) + ((rd_T54 x3_1 (ji23)).f2))) + 1)⟩ : S54)]) l0 (l0.length : Int) (wrap64 (x12_1 + 1))) else (none)) = some r := by first | (rw [hy214]; with_reducible exact H) | (have H2_ := (Option.bind_some _ _).symm.trans H; rw [hy214]; with_reducible exact H2_) | (have H2_ := (Option.bind_some _ _).symm.trans H; with_reducible exact H2_) | with_reducible exact H | (rw [hy214]; exact H) | exact H
               have Ny214 := Aside0.mk hy214; clear hy214
               by_cases c31 : y214.length < 4398046511104
               ·rw [if_pos c31] at H
                have LMc31 := Aside0.mk c31; clear c31; obtain ⟨y217, hy217⟩ : ∃ y_ : List (S54), y_ = (y214 ++ [(⟨(((rd_T54 x3_1 (ji20)).f0) ++ (⟨#[124]⟩ : ByteArray)) ++ t213, true, wrap64 ((wrap64 (((rd_T54 x3_1 (ji20)).f2) + ((rd_T54 x3_1 (ji23)).f2))) + 1)⟩ : S54)]) := ⟨_, rfl⟩
                replace H : (impl_termText.l0 k1 y217 l0 (l0.length : Int) (wrap64 (x12_1 + 1))) = some r := by first | (rw [hy217]; with_reducible exact H) | (have H2_ := (Option.bind_some _ _).symm.trans H; rw [hy217]; with_reducible exact H2_) | (have H2_ := (Option.bind_some _ _).symm.trans H; with_reducible exact H2_) | with_reducible exact H | (rw [hy217]; exact H) | exact H
                have Ny217 := Aside0.mk hy217; clear hy217; have H' := Aside0.mk H; clear H; have p202 : 0 ≤ (x12_1 : Int) := of_decide_eq_true as_; have q202 : x12_1 < (l0.length : Int) := of_decide_eq_true as_; obtain ⟨ad202, e202, hx202_0, hx202_1, hx202_2⟩ := at_T41 HR0.out x12_1 p202 q202; cases e202; replace hx202_0 := (HB.out.cell (World.block_lt_of_cell? w _ hx202_0)).trans hx202_0; replace hx202_1 := (HB.out.cell (World.block_lt_of_cell? w _ hx202_1)).trans hx202_1; replace hx202_2 := (HB.out.cell (World.block_lt_of_cell? w _ hx202_2)).trans hx202_2; replace p202 := eq_true p202; replace q202 := eq_true q202
                try go_wp2_with (first | ((with_reducible refine gate_dst (N := 5) rfl ?_); refine box_event ?hg (N := 5) ?hd (cs := #[.int .i64 0, .int .i64 0, .int .i64 0]) (t := 41) ?hr ?_; (case hd => rfl); (case hg => rfl); (case hr => first | (go_simp; done) | (go_simp; rfl)); intro gb203 hg w32 hbox hb; have n0_ := Aside0.mk (Kd.R_below (r_ HO_3.out) hb); have n1_ := Aside0.mk (below_step (bl_ HB.out) hb); have n2_ := Aside0.mk (hbox); have n3_ := Aside0.mk ((by rw [hg]; exact (below_size (bl_ HB.out)) : w.heap.size ≤ gb203)); have n4_ := Aside0.mk ((by rw [hg]; exact (below_size (bl_ HB.out)) : w.heap.size ≤ gb203)); clear HO_3; clear HB; have HO_3 := n0_; have HB := n1_; have BK203 := n2_; have GW203 := n3_; have GE203 := n4_; clear n0_ n1_ n2_ n3_ n4_; clear hb hbox hg; have hcz33_0 : w32.cell? ⟨gb203, 0, none⟩ = some (.int .i64 0) := (blk_cell BK203.out 0).trans rfl; have hcz33_1 : w32.cell? ⟨gb203, 1, none⟩ = some (.int .i64 0) := (blk_cell BK203.out 1).trans rfl; have hcz33_2 : w32.cell? ⟨gb203, 2, none⟩ = some (.int .i64 0) := (blk_cell BK203.out 2).trans rfl; have hfz33_0 := blk_frozen BK203.out 0; have hfz33_1 := blk_frozen BK203.out 1; have hfz33_2 := blk_frozen BK203.out 2))
                have n0_ : Aside0 (Kd.R k54 54 (((w32.setCell ⟨gb203, 0, none⟩ (.int .i64 ((rd_T41 l0 x12_1).f0))).setCell ⟨gb203, 1, none⟩ (.int .i64 ((rd_T41 l0 x12_1).f1))).setCell ⟨gb203, 2, none⟩ (.int .i64 ((rd_T41 l0 x12_1).f2))) w.heap.size (fun _ => True) u3 x3_1) := ⟨by (with_reducible repeat (first | apply Kd.R_alloc | apply Kd.R_drewN | apply Kd.R_drew)); exact Kd.R_mono (Kd.R_far (p := ⟨gb203, 2, none⟩) (Kd.R_far (p := ⟨gb203, 1, none⟩) (Kd.R_far (p := ⟨gb203, 0, none⟩) (Kd.R_types HO_3.out BK203.out (by decide)) (fun _ hk => hk.2) (.int .i64 ((rd_T41 l0 x12_1).f0))) (fun _ hk => hk.2) (.int .i64 ((rd_T41 l0 x12_1).f1))) (fun _ hk => hk.2) (.int .i64 ((rd_T41 l0 x12_1).f2))) (fun _ hk => trivial)⟩; have n1_ : Aside0 ((((w32.setCell ⟨gb203, 0, none⟩ (.int .i64 ((rd_T41 l0 x12_1).f0))).setCell ⟨gb203, 1, none⟩ (.int .i64 ((rd_T41 l0 x12_1).f1))).setCell ⟨gb203, 2, none⟩ (.int .i64 ((rd_T41 l0 x12_1).f2))).heap[gb203]? = some (.cells #[.int .i64 ((rd_T41 l0 x12_1).f0), .int .i64 ((rd_T41 l0 x12_1).f1), .int .i64 ((rd_T41 l0 x12_1).f2)] 41 (0, 0))) := ⟨by (with_reducible repeat (first | refine blk_drewN ?_ _ | refine blk_drew ?_ | refine blk_alloc ?_ _)); refine blk_put (cs := #[.int .i64 ((rd_T41 l0 x12_1).f0), .int .i64 ((rd_T41 l0 x12_1).f1), .int .i64 0]) ?_ 2 _ rfl; (with_reducible repeat (first | refine blk_drewN ?_ _ | refine blk_drew ?_ | refine blk_alloc ?_ _)); refine blk_put (cs := #[.int .i64 ((rd_T41 l0 x12_1).f0), .int .i64 0, .int .i64 0]) ?_ 1 _ rfl; (with_reducible repeat (first | refine blk_drewN ?_ _ | refine blk_drew ?_ | refine blk_alloc ?_ _)); refine blk_put (cs := #[.int .i64 0, .int .i64 0, .int .i64 0]) ?_ 0 _ rfl; (with_reducible repeat (first | refine blk_drewN ?_ _ | refine blk_drew ?_ | refine blk_alloc ?_ _)); exact BK203.out⟩; have n2_ : Aside0 (Below w.heap.size w (((w32.setCell ⟨gb203, 0, none⟩ (.int .i64 ((rd_T41 l0 x12_1).f0))).setCell ⟨gb203, 1, none⟩ (.int .i64 ((rd_T41 l0 x12_1).f1))).setCell ⟨gb203, 2, none⟩ (.int .i64 ((rd_T41 l0 x12_1).f2)))) := ⟨bs_ HB.out GE203.out⟩
                (try clear HO_3)
                (try clear BK203)
                (try clear HB)
                generalize (((w32.setCell ⟨gb203, 0, none⟩ (.int .i64 ((rd_T41 l0 x12_1).f0))).setCell ⟨gb203, 1, none⟩ (.int .i64 ((rd_T41 l0 x12_1).f1))).setCell ⟨gb203, 2, none⟩ (.int .i64 ((rd_T41 l0 x12_1).f2))) = w34 at n0_ n1_ n2_ ⊢
                have HO_3 := n0_; have BK203 := n1_; have HB := n2_; clear n0_ n1_ n2_; have n0_ := Aside0.mk (Kd.R_drew HO_3.out); have n1_ := Aside0.mk (blk_drew BK203.out); have n2_ := Aside0.mk (below_drew1 HB.out); clear HO_3 BK203 HB; have HO_3 := n0_; have BK203 := n1_; have HB := n2_; clear n0_ n1_ n2_; obtain ⟨Ao36, co36, eo36⟩ := Kd.R_slice HO_3.out
                (first | subst eo36 | (injection eo36 with f1_ f2_ f3_; have f4_ := f1_.symm; have f5_ := f3_.symm; clear f1_ f2_ f3_; subst f4_; subst f5_))
                have p208 : 0 ≤ ((ji20) : Int) := of_decide_eq_true as_; have q208 : (ji20) < (x3_1.length : Int) := of_decide_eq_true as_; obtain ⟨ad208, e208, hx208_0, hx208_1, hx208_2⟩ := at_T54 (Kd.R_reads' HO_3.out).2.2 (ji20) p208 q208; cases e208; replace p208 := eq_true p208; replace q208 := eq_true q208; have p209 : 0 ≤ ((ji23) : Int) := of_decide_eq_true as_; have q209 : (ji23) < (x3_1.length : Int) := of_decide_eq_true as_; obtain ⟨ad209, e209, hx209_0, hx209_1, hx209_2⟩ := at_T54 (Kd.R_reads' HO_3.out).2.2 (ji23) p209 q209; obtain rfl : ad208 = ad209 := (by injection e209); replace p209 := eq_true p209; replace q209 := eq_true q209
                refine start_ (n := 16) (S := fun w' => w'.cell? (ad208.add (((ji20)).toNat * 3)) = some (.string ((rd_T54 x3_1 (ji20)).f0)) ∧ w'.cell? ⟨(ad208.add (((ji20)).toNat * 3)).block, (ad208.add (((ji20)).toNat * 3)).off + 1, none⟩ = some (.bool ((rd_T54 x3_1 (ji20)).f1)) ∧ w'.cell? ⟨(ad208.add (((ji20)).toNat * 3)).block, (ad208.add (((ji20)).toNat * 3)).off + 2, none⟩ = some (.int .i64 ((rd_T54 x3_1 (ji20)).f2)) ∧ w'.cell? (ad208.add (((ji23)).toNat * 3)) = some (.string ((rd_T54 x3_1 (ji23)).f0)) ∧ w'.cell? ⟨(ad208.add (((ji23)).toNat * 3)).block, (ad208.add (((ji23)).toNat * 3)).off + 1, none⟩ = some (.bool ((rd_T54 x3_1 (ji23)).f1)) ∧ w'.cell? ⟨(ad208.add (((ji23)).toNat * 3)).block, (ad208.add (((ji23)).toNat * 3)).off + 2, none⟩ = some (.int .i64 ((rd_T54 x3_1 (ji23)).f2))) (ds := []) #[false, false, false, false, false, false, false, false, false, false, false, false, false, false, false, false] (by kernel_rfl) rfl rfl ⟨hx208_0, hx208_1, hx208_2, hx209_0, hx209_1, hx209_2⟩ (fun hHeld => ?_); refine with_tabW impl_termText.tab7 impl_termText.bits7 (fun HT_ HW_ => ?_)
                generalize w34.drew = w35 at HO_3 BK203 HB hx208_0 hx208_1 hx208_2 hx209_0 hx209_1 hx209_2 hHeld ⊢
                refine pure_ (i := 0) (N := some 33) (v := ?_) (a' := ?_) #[true, false, false, false, false, false, false, false, false, false, false, false, false, false, false, false] rfl rfl (any_of HT_.out (by kernel_rfl)) (fun _ _ _ h => h) (Or.inl ⟨by rfl, ?_⟩) ?_ ?_
                rotate_left
                ·intro w'
                 go_simp
                 with_reducible rfl
                rotate_left
                ·simp only [Act.put, List.setIfInBounds_toArray, List.set_cons_zero, List.set_cons_succ, i64_w, i32_w]
                 rfl
                refine pure_ (i := 1) (N := some 34) (v := ?_) (a' := ?_) #[true, true, false, false, false, false, false, false, false, false, false, false, false, false, false, false] rfl rfl (any_of HT_.out (by kernel_rfl)) (fun _ _ _ h => h) (Or.inl ⟨by rfl, ?_⟩) ?_ ?_
                rotate_left
                ·intro w'
                 go_simp
                 with_reducible rfl
                rotate_left
                ·simp only [Act.put, List.setIfInBounds_toArray, List.set_cons_zero, List.set_cons_succ, i64_w, i32_w]
                 rfl
                refine pure_ (i := 2) (N := some 35) (v := ?_) (a' := ?_) #[true, true, true, false, false, false, false, false, false, false, false, false, false, false, false, false] rfl rfl (any_of HT_.out (by kernel_rfl)) (fun _ _ _ h => h) (Or.inl ⟨by rfl, ?_⟩) ?_ ?_
                rotate_left
                ·intro w'
                 go_simp
                 with_reducible rfl
                rotate_left
                ·simp only [Act.put, List.setIfInBounds_toArray, List.set_cons_zero, List.set_cons_succ, i64_w, i32_w]
                 rfl
                refine pure_ (i := 3) (N := some 36) (v := ?_) (a' := ?_) #[true, true, true, true, false, false, false, false, false, false, false, false, false, false, false, false] rfl rfl (any_of HT_.out (by kernel_rfl)) (fun _ _ _ h => h) (Or.inl ⟨by rfl, ?_⟩) ?_ ?_
                rotate_left
                ·intro w'
                 go_simp
                 with_reducible rfl
                rotate_left
                ·simp only [Act.put, List.setIfInBounds_toArray, List.set_cons_zero, List.set_cons_succ, i64_w, i32_w]
                 rfl
                refine pure_ (i := 4) (N := some 37) (v := ?_) (a' := ?_) #[true, true, true, true, true, false, false, false, false, false, false, false, false, false, false, false] rfl rfl (any_of HT_.out (by kernel_rfl)) (fun _ _ _ h => h) (Or.inl ⟨by rfl, ?_⟩) ?_ ?_
                rotate_left
                ·intro w'
                 go_simp
                 with_reducible rfl
                rotate_left
                ·simp only [Act.put, List.setIfInBounds_toArray, List.set_cons_zero, List.set_cons_succ, i64_w, i32_w]
                 rfl
                refine pure_ (i := 6) (N := some 39) (v := ?_) (a' := ?_) #[true, true, true, true, true, false, true, false, false, false, false, false, false, false, false, false] rfl rfl (any_of HT_.out (by kernel_rfl)) (fun _ _ _ h => h) (Or.inl ⟨by rfl, ?_⟩) ?_ ?_
                rotate_left
                ·intro w'
                 go_simp
                 with_reducible rfl
                rotate_left
                ·simp only [Act.put, List.setIfInBounds_toArray, List.set_cons_zero, List.set_cons_succ, i64_w, i32_w]
                 rfl
                refine pure_ (i := 7) (N := some 40) (v := ?_) (a' := ?_) #[true, true, true, true, true, false, true, true, false, false, false, false, false, false, false, false] rfl rfl (any_of HT_.out (by kernel_rfl)) (fun _ _ _ h => h) (Or.inl ⟨by rfl, ?_⟩) ?_ ?_
                rotate_left
                ·intro w'
                 go_simp
                 with_reducible rfl
                rotate_left
                ·simp only [Act.put, List.setIfInBounds_toArray, List.set_cons_zero, List.set_cons_succ, i64_w, i32_w]
                 rfl
                refine pure_ (i := 8) (N := some 41) (v := ?_) (a' := ?_) #[true, true, true, true, true, false, true, true, true, false, false, false, false, false, false, false] rfl rfl (any_of HT_.out (by kernel_rfl)) (fun _ _ _ h => h) (Or.inl ⟨by rfl, ?_⟩) ?_ ?_
                rotate_left
                ·intro w'
                 go_simp
                 with_reducible rfl
                rotate_left
                ·simp only [Act.put, List.setIfInBounds_toArray, List.set_cons_zero, List.set_cons_succ, i64_w, i32_w]
                 rfl
                refine pure_ (i := 9) (N := some 42) (v := ?_) (a' := ?_) #[true, true, true, true, true, false, true, true, true, true, false, false, false, false, false, false] rfl rfl (any_of HT_.out (by kernel_rfl)) (fun _ _ _ h => h) (Or.inl ⟨by rfl, ?_⟩) ?_ ?_
                rotate_left
                ·intro w'
                 go_simp
                 with_reducible rfl
                rotate_left
                ·simp only [Act.put, List.setIfInBounds_toArray, List.set_cons_zero, List.set_cons_succ, i64_w, i32_w]
                 rfl
                refine pure_ (i := 10) (N := some 43) (v := ?_) (a' := ?_) #[true, true, true, true, true, false, true, true, true, true, true, false, false, false, false, false] rfl rfl (any_of HT_.out (by kernel_rfl)) (fun _ _ _ h => h) (Or.inl ⟨by rfl, ?_⟩) ?_ ?_
                rotate_left
                ·intro w'
                 go_simp
                 with_reducible rfl
                rotate_left
                ·simp only [Act.put, List.setIfInBounds_toArray, List.set_cons_zero, List.set_cons_succ, i64_w, i32_w]
                 rfl
                refine take_ (i := 5) (N := some 38) (v := ?_) (a' := ?_) #[true, true, true, true, true, true, true, true, true, true, true, false, false, false, false, false] rfl rfl (take_ofW HT_.out HW_.out (by kernel_rfl)) (fun _ _ _ h => h) (Or.inl ⟨by rfl, ?_⟩) hHeld ?_ ?_
                rotate_left
                ·rintro w' ⟨s0, s1, s2, s3, s4, s5⟩
                 go_simp
                 with_reducible rfl
                rotate_left
                ·simp only [Act.put, List.setIfInBounds_toArray, List.set_cons_zero, List.set_cons_succ, i64_w, i32_w]
                 rfl
                refine take_ (i := 11) (N := some 44) (v := ?_) (a' := ?_) #[true, true, true, true, true, true, true, true, true, true, true, true, false, false, false, false] rfl rfl (take_ofW HT_.out HW_.out (by kernel_rfl)) (fun _ _ _ h => h) (Or.inl ⟨by rfl, ?_⟩) hHeld ?_ ?_
                rotate_left
                ·rintro w' ⟨s0, s1, s2, s3, s4, s5⟩
                 go_simp
                 with_reducible rfl
                rotate_left
                ·simp only [Act.put, List.setIfInBounds_toArray, List.set_cons_zero, List.set_cons_succ, i64_w, i32_w]
                 rfl
                refine join_ (σ := Nat × Nat) 2 #[true, true, true, true, true, true, true, true, true, true, true, true, true, true, false, false] (fun s_ => [(6, .pointer (some ⟨s_.1, 0, none⟩)), (7, .pointer (some ⟨s_.2, 0, none⟩))]) (fun s_ w' => (w'.cell? (ad208.add (((ji20)).toNat * 3)) = some (.string ((rd_T54 x3_1 (ji20)).f0)) ∧ w'.cell? ⟨(ad208.add (((ji20)).toNat * 3)).block, (ad208.add (((ji20)).toNat * 3)).off + 1, none⟩ = some (.bool ((rd_T54 x3_1 (ji20)).f1)) ∧ w'.cell? ⟨(ad208.add (((ji20)).toNat * 3)).block, (ad208.add (((ji20)).toNat * 3)).off + 2, none⟩ = some (.int .i64 ((rd_T54 x3_1 (ji20)).f2)) ∧ w'.cell? (ad208.add (((ji23)).toNat * 3)) = some (.string ((rd_T54 x3_1 (ji23)).f0)) ∧ w'.cell? ⟨(ad208.add (((ji23)).toNat * 3)).block, (ad208.add (((ji23)).toNat * 3)).off + 1, none⟩ = some (.bool ((rd_T54 x3_1 (ji23)).f1)) ∧ w'.cell? ⟨(ad208.add (((ji23)).toNat * 3)).block, (ad208.add (((ji23)).toNat * 3)).off + 2, none⟩ = some (.int .i64 ((rd_T54 x3_1 (ji23)).f2))) ∧ (Kd.R k54 54 w' w.heap.size (fun k_ => k_ ≠ s_.1 ∧ k_ ≠ s_.2) (.slice (some ad208) x3_1.length co36) x3_1) ∧ (w'.heap[gb203]? = some (.cells #[.int .i64 ((rd_T41 l0 x12_1).f0), .int .i64 ((rd_T41 l0 x12_1).f1), .int .i64 ((rd_T41 l0 x12_1).f2)] 41 (0, 0))) ∧ (w'.heap[s_.1]? = some (.cells #[.string (⟨#[]⟩ : ByteArray), .bool false, .int .i64 0] 54 (0, 0))) ∧ (w'.heap[s_.2]? = some (.cells #[.string (⟨#[]⟩ : ByteArray), .bool false, .int .i64 0] 54 (0, 0))) ∧ (w.heap.size ≤ s_.1) ∧ (w.heap.size ≤ s_.1) ∧ (gb203 ≠ s_.1) ∧ (s_.1 ≠ gb203) ∧ (s_.2 ≠ s_.1) ∧ (s_.1 ≠ s_.2) ∧ (w.heap.size ≤ s_.2) ∧ (w.heap.size ≤ s_.2) ∧ (gb203 ≠ s_.2) ∧ (s_.2 ≠ gb203) ∧ (Below w.heap.size w w')) ?_ ?_
                rotate_left
                ·intro hCont
                 refine two_ (i := 12) (j := 13) (Ni := some 6) (Nj := some 7) #[true, true, true, true, true, true, true, true, true, true, true, true, true, false, false, false] #[true, true, true, true, true, true, true, true, true, true, true, true, false, true, false, false] rfl rfl rfl rfl (two_of HT_.out (by kernel_rfl)) (by decide) (by decide) (fun K hK => ?_) (fun K hK => ?_)
                 ·skip
                  refine box_step ?hg (N := 6) ?hd (cs := #[.string (⟨#[]⟩ : ByteArray), .bool false, .int .i64 0]) (t := 54) ?hr ?_; (case hd => rfl); (case hg => rfl); (case hr => first | (go_simp; done) | (go_simp; rfl))
                  intro gb210 hg w37 hbox hb; have HS0_ := (hb.cell (World.block_lt_of_cell? _ _ (hHeld.1))).trans (hHeld.1); have HS1_ := (hb.cell (World.block_lt_of_cell? _ _ (hHeld.2.1))).trans (hHeld.2.1); have HS2_ := (hb.cell (World.block_lt_of_cell? _ _ (hHeld.2.2.1))).trans (hHeld.2.2.1); have HS3_ := (hb.cell (World.block_lt_of_cell? _ _ (hHeld.2.2.2.1))).trans (hHeld.2.2.2.1); have HS4_ := (hb.cell (World.block_lt_of_cell? _ _ (hHeld.2.2.2.2.1))).trans (hHeld.2.2.2.2.1); have HS5_ := (hb.cell (World.block_lt_of_cell? _ _ (hHeld.2.2.2.2.2))).trans (hHeld.2.2.2.2.2); have n0_ := Aside0.mk (Kd.R_below (Kd.R_elderB (r_ HO_3.out) gb210 (Nat.le_of_eq hg.symm)) hb); have n1_ := Aside0.mk (blk_below (g := gb203) (o := .cells #[.int .i64 ((rd_T41 l0 x12_1).f0), .int .i64 ((rd_T41 l0 x12_1).f1), .int .i64 ((rd_T41 l0 x12_1).f2)] 41 (0, 0)) (bk_ BK203.out) hb); have n2_ := Aside0.mk (below_step (bs_ HB.out GE203.out) hb); have n3_ := Aside0.mk (hbox); have n4_ := Aside0.mk ((by rw [hg]; exact (below_size (bs_ HB.out GE203.out)) : w.heap.size ≤ gb210)); have n5_ := Aside0.mk ((by rw [hg]; exact (below_size (bs_ HB.out GE203.out)) : w.heap.size ≤ gb210)); have n6_ := Aside0.mk ((by rw [hg]; exact Nat.ne_of_lt (blk_lt (g := gb203) (o := .cells #[.int .i64 ((rd_T41 l0 x12_1).f0), .int .i64 ((rd_T41 l0 x12_1).f1), .int .i64 ((rd_T41 l0 x12_1).f2)] 41 (0, 0)) (bk_ BK203.out)) : gb203 ≠ gb210)); have n7_ := Aside0.mk ((by rw [hg]; exact Nat.ne_of_gt (blk_lt (g := gb203) (o := .cells #[.int .i64 ((rd_T41 l0 x12_1).f0), .int .i64 ((rd_T41 l0 x12_1).f1), .int .i64 ((rd_T41 l0 x12_1).f2)] 41 (0, 0)) (bk_ BK203.out)) : gb210 ≠ gb203)); clear HO_3 BK203 HB; have HO_3 := n0_; have BK203 := n1_; have HB := n2_; have BK210 := n3_; have GW210 := n4_; have GE210 := n5_; have NB203_210 := n6_; have NB210_203 := n7_; clear n0_ n1_ n2_ n3_ n4_ n5_ n6_ n7_ hb hbox hg
                  refine hK.out _ _ ⟨HS0_, HS1_, HS2_, HS3_, HS4_, HS5_⟩ (fun hHeld => ?_)
                  clear hK K
                  refine norm_ (a' := ?_) ?_ ?_
                  rotate_left
                  ·show Act.put _ (some 6) _ = _
                   simp only [Act.put, List.setIfInBounds_toArray, List.set_cons_zero, List.set_cons_succ, i64_w, i32_w]
                   rfl
                  refine one_ (i := 13) (N := some 7) #[true, true, true, true, true, true, true, true, true, true, true, true, true, true, false, false] rfl rfl (one_of HT_.out (by kernel_rfl)) (by decide) (fun K hK => ?_)
                  refine box_step ?hg (N := 7) ?hd (cs := #[.string (⟨#[]⟩ : ByteArray), .bool false, .int .i64 0]) (t := 54) ?hr ?_; (case hd => rfl); (case hg => rfl); (case hr => first | (go_simp; done) | (go_simp; rfl))
                  intro gb211 hg w38 hbox hb; have HS0_ := (hb.cell (World.block_lt_of_cell? _ _ (hHeld.1))).trans (hHeld.1); have HS1_ := (hb.cell (World.block_lt_of_cell? _ _ (hHeld.2.1))).trans (hHeld.2.1); have HS2_ := (hb.cell (World.block_lt_of_cell? _ _ (hHeld.2.2.1))).trans (hHeld.2.2.1); have HS3_ := (hb.cell (World.block_lt_of_cell? _ _ (hHeld.2.2.2.1))).trans (hHeld.2.2.2.1); have HS4_ := (hb.cell (World.block_lt_of_cell? _ _ (hHeld.2.2.2.2.1))).trans (hHeld.2.2.2.2.1); have HS5_ := (hb.cell (World.block_lt_of_cell? _ _ (hHeld.2.2.2.2.2))).trans (hHeld.2.2.2.2.2); have n0_ := Aside0.mk (Kd.R_below (Kd.R_elderB (r_ HO_3.out) gb211 (Nat.le_of_eq hg.symm)) hb); have n1_ := Aside0.mk (blk_below (g := gb203) (o := .cells #[.int .i64 ((rd_T41 l0 x12_1).f0), .int .i64 ((rd_T41 l0 x12_1).f1), .int .i64 ((rd_T41 l0 x12_1).f2)] 41 (0, 0)) (bk_ BK203.out) hb); have n2_ := Aside0.mk (blk_below (g := gb210) (o := .cells #[.string (⟨#[]⟩ : ByteArray), .bool false, .int .i64 0] 54 (0, 0)) (bk_ BK210.out) hb); have n3_ := Aside0.mk (below_step (bt_ HB.out GE203.out GE210.out) hb); have n4_ := Aside0.mk (hbox); have n5_ := Aside0.mk ((by rw [hg]; exact (below_size (bt_ HB.out GE203.out GE210.out)) : w.heap.size ≤ gb211)); have n6_ := Aside0.mk ((by rw [hg]; exact (below_size (bt_ HB.out GE203.out GE210.out)) : w.heap.size ≤ gb211)); have n7_ := Aside0.mk ((by rw [hg]; exact Nat.ne_of_lt (blk_lt (g := gb203) (o := .cells #[.int .i64 ((rd_T41 l0 x12_1).f0), .int .i64 ((rd_T41 l0 x12_1).f1), .int .i64 ((rd_T41 l0 x12_1).f2)] 41 (0, 0)) (bk_ BK203.out)) : gb203 ≠ gb211)); have n8_ := Aside0.mk ((by rw [hg]; exact Nat.ne_of_gt (blk_lt (g := gb203) (o := .cells #[.int .i64 ((rd_T41 l0 x12_1).f0), .int .i64 ((rd_T41 l0 x12_1).f1), .int .i64 ((rd_T41 l0 x12_1).f2)] 41 (0, 0)) (bk_ BK203.out)) : gb211 ≠ gb203)); have n9_ := Aside0.mk ((by rw [hg]; exact Nat.ne_of_lt (blk_lt (g := gb210) (o := .cells #[.string (⟨#[]⟩ : ByteArray), .bool false, .int .i64 0] 54 (0, 0)) (bk_ BK210.out)) : gb210 ≠ gb211)); have n10_ := Aside0.mk ((by rw [hg]; exact Nat.ne_of_gt (blk_lt (g := gb210) (o := .cells #[.string (⟨#[]⟩ : ByteArray), .bool false, .int .i64 0] 54 (0, 0)) (bk_ BK210.out)) : gb211 ≠ gb210)); clear HO_3 BK203 BK210 HB; have HO_3 := n0_; have BK203 := n1_; have BK210 := n2_; have HB := n3_; have BK211 := n4_; have GW211 := n5_; have GE211 := n6_; have NB203_211 := n7_; have NB211_203 := n8_; have NB210_211 := n9_; have NB211_210 := n10_; clear n0_ n1_ n2_ n3_ n4_ n5_ n6_ n7_ n8_ n9_ n10_ hb hbox hg
                  refine hK.out _ _ ⟨HS0_, HS1_, HS2_, HS3_, HS4_, HS5_⟩ (fun hHeld => ?_)
                  clear hK K
                  refine norm_ (a' := ?_) ?_ ?_
                  rotate_left
                  ·show Act.put _ (some 7) _ = _
                   simp only [Act.put, List.setIfInBounds_toArray, List.set_cons_zero, List.set_cons_succ, i64_w, i32_w]
                   rfl
                  exact norm_ (by simp only [putAll, Act.put, List.setIfInBounds_toArray, List.set_cons_zero, List.set_cons_succ]) (hCont (gb210, gb211) _ ⟨hHeld, (by (with_reducible repeat (first | apply Kd.R_alloc | apply Kd.R_drewN | apply Kd.R_drew)); exact Kd.R_mono HO_3.out (fun _ hk => ⟨hk.1.2, hk.2⟩)), (bk_ BK203.out), (bk_ BK210.out), (bk_ BK211.out), GW210.out, GE210.out, NB203_210.out, NB210_203.out, NB211_210.out, NB210_211.out, GW211.out, GE211.out, NB203_211.out, NB211_203.out, (bu_ HB.out GE203.out GE210.out GE211.out)⟩)
                 ·skip
                  refine box_step ?hg (N := 7) ?hd (cs := #[.string (⟨#[]⟩ : ByteArray), .bool false, .int .i64 0]) (t := 54) ?hr ?_; (case hd => rfl); (case hg => rfl); (case hr => first | (go_simp; done) | (go_simp; rfl))
                  intro gb211 hg w37 hbox hb; have HS0_ := (hb.cell (World.block_lt_of_cell? _ _ (hHeld.1))).trans (hHeld.1); have HS1_ := (hb.cell (World.block_lt_of_cell? _ _ (hHeld.2.1))).trans (hHeld.2.1); have HS2_ := (hb.cell (World.block_lt_of_cell? _ _ (hHeld.2.2.1))).trans (hHeld.2.2.1); have HS3_ := (hb.cell (World.block_lt_of_cell? _ _ (hHeld.2.2.2.1))).trans (hHeld.2.2.2.1); have HS4_ := (hb.cell (World.block_lt_of_cell? _ _ (hHeld.2.2.2.2.1))).trans (hHeld.2.2.2.2.1); have HS5_ := (hb.cell (World.block_lt_of_cell? _ _ (hHeld.2.2.2.2.2))).trans (hHeld.2.2.2.2.2); have n0_ := Aside0.mk (Kd.R_below (Kd.R_elderB (r_ HO_3.out) gb211 (Nat.le_of_eq hg.symm)) hb); have n1_ := Aside0.mk (blk_below (g := gb203) (o := .cells #[.int .i64 ((rd_T41 l0 x12_1).f0), .int .i64 ((rd_T41 l0 x12_1).f1), .int .i64 ((rd_T41 l0 x12_1).f2)] 41 (0, 0)) (bk_ BK203.out) hb); have n2_ := Aside0.mk (below_step (bs_ HB.out GE203.out) hb); have n3_ := Aside0.mk (hbox); have n4_ := Aside0.mk ((by rw [hg]; exact (below_size (bs_ HB.out GE203.out)) : w.heap.size ≤ gb211)); have n5_ := Aside0.mk ((by rw [hg]; exact (below_size (bs_ HB.out GE203.out)) : w.heap.size ≤ gb211)); have n6_ := Aside0.mk ((by rw [hg]; exact Nat.ne_of_lt (blk_lt (g := gb203) (o := .cells #[.int .i64 ((rd_T41 l0 x12_1).f0), .int .i64 ((rd_T41 l0 x12_1).f1), .int .i64 ((rd_T41 l0 x12_1).f2)] 41 (0, 0)) (bk_ BK203.out)) : gb203 ≠ gb211)); have n7_ := Aside0.mk ((by rw [hg]; exact Nat.ne_of_gt (blk_lt (g := gb203) (o := .cells #[.int .i64 ((rd_T41 l0 x12_1).f0), .int .i64 ((rd_T41 l0 x12_1).f1), .int .i64 ((rd_T41 l0 x12_1).f2)] 41 (0, 0)) (bk_ BK203.out)) : gb211 ≠ gb203)); clear HO_3 BK203 HB; have HO_3 := n0_; have BK203 := n1_; have HB := n2_; have BK211 := n3_; have GW211 := n4_; have GE211 := n5_; have NB203_211 := n6_; have NB211_203 := n7_; clear n0_ n1_ n2_ n3_ n4_ n5_ n6_ n7_ hb hbox hg
                  refine hK.out _ _ ⟨HS0_, HS1_, HS2_, HS3_, HS4_, HS5_⟩ (fun hHeld => ?_)
                  clear hK K
                  refine norm_ (a' := ?_) ?_ ?_
                  rotate_left
                  ·show Act.put _ (some 7) _ = _
                   simp only [Act.put, List.setIfInBounds_toArray, List.set_cons_zero, List.set_cons_succ, i64_w, i32_w]
                   rfl
                  refine one_ (i := 12) (N := some 6) #[true, true, true, true, true, true, true, true, true, true, true, true, true, true, false, false] rfl rfl (one_of HT_.out (by kernel_rfl)) (by decide) (fun K hK => ?_)
                  refine box_step ?hg (N := 6) ?hd (cs := #[.string (⟨#[]⟩ : ByteArray), .bool false, .int .i64 0]) (t := 54) ?hr ?_; (case hd => rfl); (case hg => rfl); (case hr => first | (go_simp; done) | (go_simp; rfl))
                  intro gb210 hg w38 hbox hb; have HS0_ := (hb.cell (World.block_lt_of_cell? _ _ (hHeld.1))).trans (hHeld.1); have HS1_ := (hb.cell (World.block_lt_of_cell? _ _ (hHeld.2.1))).trans (hHeld.2.1); have HS2_ := (hb.cell (World.block_lt_of_cell? _ _ (hHeld.2.2.1))).trans (hHeld.2.2.1); have HS3_ := (hb.cell (World.block_lt_of_cell? _ _ (hHeld.2.2.2.1))).trans (hHeld.2.2.2.1); have HS4_ := (hb.cell (World.block_lt_of_cell? _ _ (hHeld.2.2.2.2.1))).trans (hHeld.2.2.2.2.1); have HS5_ := (hb.cell (World.block_lt_of_cell? _ _ (hHeld.2.2.2.2.2))).trans (hHeld.2.2.2.2.2); have n0_ := Aside0.mk (Kd.R_below (Kd.R_elderB (r_ HO_3.out) gb210 (Nat.le_of_eq hg.symm)) hb); have n1_ := Aside0.mk (blk_below (g := gb203) (o := .cells #[.int .i64 ((rd_T41 l0 x12_1).f0), .int .i64 ((rd_T41 l0 x12_1).f1), .int .i64 ((rd_T41 l0 x12_1).f2)] 41 (0, 0)) (bk_ BK203.out) hb); have n2_ := Aside0.mk (blk_below (g := gb211) (o := .cells #[.string (⟨#[]⟩ : ByteArray), .bool false, .int .i64 0] 54 (0, 0)) (bk_ BK211.out) hb); have n3_ := Aside0.mk (below_step (bt_ HB.out GE203.out GE211.out) hb); have n4_ := Aside0.mk (hbox); have n5_ := Aside0.mk ((by rw [hg]; exact (below_size (bt_ HB.out GE203.out GE211.out)) : w.heap.size ≤ gb210)); have n6_ := Aside0.mk ((by rw [hg]; exact (below_size (bt_ HB.out GE203.out GE211.out)) : w.heap.size ≤ gb210)); have n7_ := Aside0.mk ((by rw [hg]; exact Nat.ne_of_lt (blk_lt (g := gb203) (o := .cells #[.int .i64 ((rd_T41 l0 x12_1).f0), .int .i64 ((rd_T41 l0 x12_1).f1), .int .i64 ((rd_T41 l0 x12_1).f2)] 41 (0, 0)) (bk_ BK203.out)) : gb203 ≠ gb210)); have n8_ := Aside0.mk ((by rw [hg]; exact Nat.ne_of_gt (blk_lt (g := gb203) (o := .cells #[.int .i64 ((rd_T41 l0 x12_1).f0), .int .i64 ((rd_T41 l0 x12_1).f1), .int .i64 ((rd_T41 l0 x12_1).f2)] 41 (0, 0)) (bk_ BK203.out)) : gb210 ≠ gb203)); have n9_ := Aside0.mk ((by rw [hg]; exact Nat.ne_of_lt (blk_lt (g := gb211) (o := .cells #[.string (⟨#[]⟩ : ByteArray), .bool false, .int .i64 0] 54 (0, 0)) (bk_ BK211.out)) : gb211 ≠ gb210)); have n10_ := Aside0.mk ((by rw [hg]; exact Nat.ne_of_gt (blk_lt (g := gb211) (o := .cells #[.string (⟨#[]⟩ : ByteArray), .bool false, .int .i64 0] 54 (0, 0)) (bk_ BK211.out)) : gb210 ≠ gb211)); clear HO_3 BK203 BK211 HB; have HO_3 := n0_; have BK203 := n1_; have BK211 := n2_; have HB := n3_; have BK210 := n4_; have GW210 := n5_; have GE210 := n6_; have NB203_210 := n7_; have NB210_203 := n8_; have NB211_210 := n9_; have NB210_211 := n10_; clear n0_ n1_ n2_ n3_ n4_ n5_ n6_ n7_ n8_ n9_ n10_ hb hbox hg
                  refine hK.out _ _ ⟨HS0_, HS1_, HS2_, HS3_, HS4_, HS5_⟩ (fun hHeld => ?_)
                  clear hK K
                  refine norm_ (a' := ?_) ?_ ?_
                  rotate_left
                  ·show Act.put _ (some 6) _ = _
                   simp only [Act.put, List.setIfInBounds_toArray, List.set_cons_zero, List.set_cons_succ, i64_w, i32_w]
                   rfl
                  exact norm_ (by simp only [putAll, Act.put, List.setIfInBounds_toArray, List.set_cons_zero, List.set_cons_succ]) (hCont (gb210, gb211) _ ⟨hHeld, (by (with_reducible repeat (first | apply Kd.R_alloc | apply Kd.R_drewN | apply Kd.R_drew)); exact Kd.R_mono HO_3.out (fun _ hk => ⟨hk.2, hk.1.2⟩)), (bk_ BK203.out), (bk_ BK210.out), (bk_ BK211.out), GW210.out, GE210.out, NB203_210.out, NB210_203.out, NB211_210.out, NB210_211.out, GW211.out, GE211.out, NB203_211.out, NB211_203.out, (bu_ HB.out GE203.out GE211.out GE210.out)⟩)
                rintro ⟨gb210, gb211⟩ w39 ⟨hS_, h0_, h1_, h2_, h3_, h4_, h5_, h6_, h7_, h8_, h9_, h10_, h11_, h12_, h13_, h14_⟩; have n0_ : Aside0 (Kd.R k54 54 w39 w.heap.size (fun k_ => k_ ≠ gb210 ∧ k_ ≠ gb211) (.slice (some ad208) x3_1.length co36) x3_1) := ⟨h0_⟩; have n1_ : Aside0 (w39.heap[gb203]? = some (.cells #[.int .i64 ((rd_T41 l0 x12_1).f0), .int .i64 ((rd_T41 l0 x12_1).f1), .int .i64 ((rd_T41 l0 x12_1).f2)] 41 (0, 0))) := ⟨h1_⟩; have n2_ : Aside0 (w39.heap[gb210]? = some (.cells #[.string (⟨#[]⟩ : ByteArray), .bool false, .int .i64 0] 54 (0, 0))) := ⟨h2_⟩; have n3_ : Aside0 (w39.heap[gb211]? = some (.cells #[.string (⟨#[]⟩ : ByteArray), .bool false, .int .i64 0] 54 (0, 0))) := ⟨h3_⟩; have n4_ : Aside0 (w.heap.size ≤ gb210) := ⟨h4_⟩; have n5_ : Aside0 (w.heap.size ≤ gb210) := ⟨h5_⟩; have n6_ : Aside0 (gb203 ≠ gb210) := ⟨h6_⟩; have n7_ : Aside0 (gb210 ≠ gb203) := ⟨h7_⟩; have n8_ : Aside0 (gb211 ≠ gb210) := ⟨h8_⟩; have n9_ : Aside0 (gb210 ≠ gb211) := ⟨h9_⟩; have n10_ : Aside0 (w.heap.size ≤ gb211) := ⟨h10_⟩; have n11_ : Aside0 (w.heap.size ≤ gb211) := ⟨h11_⟩; have n12_ : Aside0 (gb203 ≠ gb211) := ⟨h12_⟩; have n13_ : Aside0 (gb211 ≠ gb203) := ⟨h13_⟩; have n14_ : Aside0 (Below w.heap.size w w39) := ⟨h14_⟩; clear HO_3 BK203 HB h0_ h1_ h2_ h3_ h4_ h5_ h6_ h7_ h8_ h9_ h10_ h11_ h12_ h13_ h14_; have HO_3 := n0_; have BK203 := n1_; have BK210 := n2_; have BK211 := n3_; have GW210 := n4_; have GE210 := n5_; have NB203_210 := n6_; have NB210_203 := n7_; have NB211_210 := n8_; have NB210_211 := n9_; have GW211 := n10_; have GE211 := n11_; have NB203_211 := n12_; have NB211_203 := n13_; have HB := n14_; clear n0_ n1_ n2_ n3_ n4_ n5_ n6_ n7_ n8_ n9_ n10_ n11_ n12_ n13_ n14_; have hHeld : w39.cell? (ad208.add (((ji20)).toNat * 3)) = some (.string ((rd_T54 x3_1 (ji20)).f0)) ∧ w39.cell? ⟨(ad208.add (((ji20)).toNat * 3)).block, (ad208.add (((ji20)).toNat * 3)).off + 1, none⟩ = some (.bool ((rd_T54 x3_1 (ji20)).f1)) ∧ w39.cell? ⟨(ad208.add (((ji20)).toNat * 3)).block, (ad208.add (((ji20)).toNat * 3)).off + 2, none⟩ = some (.int .i64 ((rd_T54 x3_1 (ji20)).f2)) ∧ w39.cell? (ad208.add (((ji23)).toNat * 3)) = some (.string ((rd_T54 x3_1 (ji23)).f0)) ∧ w39.cell? ⟨(ad208.add (((ji23)).toNat * 3)).block, (ad208.add (((ji23)).toNat * 3)).off + 1, none⟩ = some (.bool ((rd_T54 x3_1 (ji23)).f1)) ∧ w39.cell? ⟨(ad208.add (((ji23)).toNat * 3)).block, (ad208.add (((ji23)).toNat * 3)).off + 2, none⟩ = some (.int .i64 ((rd_T54 x3_1 (ji23)).f2)) := hS_
                refine norm_ (a' := ?_) ?_ ?_
                rotate_left
                ·simp only [putAll, Act.put, List.setIfInBounds_toArray, List.set_cons_zero, List.set_cons_succ]
                 rfl
                refine one_ (i := 14) (N := none) #[true, true, true, true, true, true, true, true, true, true, true, true, true, true, true, false] rfl rfl (one_of HT_.out (by kernel_rfl)) (by decide) (fun K hK => ?_)
                have hs40 : w39.cell? ⟨gb210, 0, none⟩ = some (.string (⟨#[]⟩ : ByteArray)) := (blk_cell BK210.out 0).trans rfl; have hfs40 := blk_frozen BK210.out 0; have hns40_0 := NB203_210.out; have hns40_2 := NB211_210.out; have hms40_0 := NB210_203.out; have hms40_2 := NB210_211.out; have hs41 : w39.cell? ⟨gb210, 1, none⟩ = some (.bool false) := (blk_cell BK210.out 1).trans rfl; have hfs41 := blk_frozen BK210.out 1; have hns41_0 := NB203_210.out; have hns41_2 := NB211_210.out; have hms41_0 := NB210_203.out; have hms41_2 := NB210_211.out; have hs42 : w39.cell? ⟨gb210, 2, none⟩ = some (.int .i64 0) := (blk_cell BK210.out 2).trans rfl; have hfs42 := blk_frozen BK210.out 2; have hns42_0 := NB203_210.out; have hns42_2 := NB211_210.out; have hms42_0 := NB210_203.out; have hms42_2 := NB210_211.out
                refine skip_ (w1 := ?_) (by rfl) rfl ?_ ?_
                rotate_left
                ·go_simp
                 rfl
                refine hK.out _ _ ⟨((cell_far (p := ⟨gb210, _, none⟩) (by first | exact Kd.own_blk (Kd.R_away HO_3.out (fun _ hk => hk.1)) | (rw [add_block]; exact Kd.own_blk (Kd.R_away HO_3.out (fun _ hk => hk.1))) | (show (Addr.add _ _).block ≠ _; rw [add_block]; exact Kd.own_blk (Kd.R_away HO_3.out (fun _ hk => hk.1))) | (dsimp only; exact Kd.own_blk (Kd.R_away HO_3.out (fun _ hk => hk.1)))) _).trans (((cell_far (p := ⟨gb210, _, none⟩) (by first | exact Kd.own_blk (Kd.R_away HO_3.out (fun _ hk => hk.1)) | (rw [add_block]; exact Kd.own_blk (Kd.R_away HO_3.out (fun _ hk => hk.1))) | (show (Addr.add _ _).block ≠ _; rw [add_block]; exact Kd.own_blk (Kd.R_away HO_3.out (fun _ hk => hk.1))) | (dsimp only; exact Kd.own_blk (Kd.R_away HO_3.out (fun _ hk => hk.1)))) _).trans (((cell_far (p := ⟨gb210, _, none⟩) (by first | exact Kd.own_blk (Kd.R_away HO_3.out (fun _ hk => hk.1)) | (rw [add_block]; exact Kd.own_blk (Kd.R_away HO_3.out (fun _ hk => hk.1))) | (show (Addr.add _ _).block ≠ _; rw [add_block]; exact Kd.own_blk (Kd.R_away HO_3.out (fun _ hk => hk.1))) | (dsimp only; exact Kd.own_blk (Kd.R_away HO_3.out (fun _ hk => hk.1)))) _).trans (hHeld.1)))))), ((cell_far (p := ⟨gb210, _, none⟩) (by first | exact Kd.own_blk (Kd.R_away HO_3.out (fun _ hk => hk.1)) | (rw [add_block]; exact Kd.own_blk (Kd.R_away HO_3.out (fun _ hk => hk.1))) | (show (Addr.add _ _).block ≠ _; rw [add_block]; exact Kd.own_blk (Kd.R_away HO_3.out (fun _ hk => hk.1))) | (dsimp only; exact Kd.own_blk (Kd.R_away HO_3.out (fun _ hk => hk.1)))) _).trans (((cell_far (p := ⟨gb210, _, none⟩) (by first | exact Kd.own_blk (Kd.R_away HO_3.out (fun _ hk => hk.1)) | (rw [add_block]; exact Kd.own_blk (Kd.R_away HO_3.out (fun _ hk => hk.1))) | (show (Addr.add _ _).block ≠ _; rw [add_block]; exact Kd.own_blk (Kd.R_away HO_3.out (fun _ hk => hk.1))) | (dsimp only; exact Kd.own_blk (Kd.R_away HO_3.out (fun _ hk => hk.1)))) _).trans (((cell_far (p := ⟨gb210, _, none⟩) (by first | exact Kd.own_blk (Kd.R_away HO_3.out (fun _ hk => hk.1)) | (rw [add_block]; exact Kd.own_blk (Kd.R_away HO_3.out (fun _ hk => hk.1))) | (show (Addr.add _ _).block ≠ _; rw [add_block]; exact Kd.own_blk (Kd.R_away HO_3.out (fun _ hk => hk.1))) | (dsimp only; exact Kd.own_blk (Kd.R_away HO_3.out (fun _ hk => hk.1)))) _).trans (hHeld.2.1)))))), ((cell_far (p := ⟨gb210, _, none⟩) (by first | exact Kd.own_blk (Kd.R_away HO_3.out (fun _ hk => hk.1)) | (rw [add_block]; exact Kd.own_blk (Kd.R_away HO_3.out (fun _ hk => hk.1))) | (show (Addr.add _ _).block ≠ _; rw [add_block]; exact Kd.own_blk (Kd.R_away HO_3.out (fun _ hk => hk.1))) | (dsimp only; exact Kd.own_blk (Kd.R_away HO_3.out (fun _ hk => hk.1)))) _).trans (((cell_far (p := ⟨gb210, _, none⟩) (by first | exact Kd.own_blk (Kd.R_away HO_3.out (fun _ hk => hk.1)) | (rw [add_block]; exact Kd.own_blk (Kd.R_away HO_3.out (fun _ hk => hk.1))) | (show (Addr.add _ _).block ≠ _; rw [add_block]; exact Kd.own_blk (Kd.R_away HO_3.out (fun _ hk => hk.1))) | (dsimp only; exact Kd.own_blk (Kd.R_away HO_3.out (fun _ hk => hk.1)))) _).trans (((cell_far (p := ⟨gb210, _, none⟩) (by first | exact Kd.own_blk (Kd.R_away HO_3.out (fun _ hk => hk.1)) | (rw [add_block]; exact Kd.own_blk (Kd.R_away HO_3.out (fun _ hk => hk.1))) | (show (Addr.add _ _).block ≠ _; rw [add_block]; exact Kd.own_blk (Kd.R_away HO_3.out (fun _ hk => hk.1))) | (dsimp only; exact Kd.own_blk (Kd.R_away HO_3.out (fun _ hk => hk.1)))) _).trans (hHeld.2.2.1)))))), ((cell_far (p := ⟨gb210, _, none⟩) (by first | exact Kd.own_blk (Kd.R_away HO_3.out (fun _ hk => hk.1)) | (rw [add_block]; exact Kd.own_blk (Kd.R_away HO_3.out (fun _ hk => hk.1))) | (show (Addr.add _ _).block ≠ _; rw [add_block]; exact Kd.own_blk (Kd.R_away HO_3.out (fun _ hk => hk.1))) | (dsimp only; exact Kd.own_blk (Kd.R_away HO_3.out (fun _ hk => hk.1)))) _).trans (((cell_far (p := ⟨gb210, _, none⟩) (by first | exact Kd.own_blk (Kd.R_away HO_3.out (fun _ hk => hk.1)) | (rw [add_block]; exact Kd.own_blk (Kd.R_away HO_3.out (fun _ hk => hk.1))) | (show (Addr.add _ _).block ≠ _; rw [add_block]; exact Kd.own_blk (Kd.R_away HO_3.out (fun _ hk => hk.1))) | (dsimp only; exact Kd.own_blk (Kd.R_away HO_3.out (fun _ hk => hk.1)))) _).trans (((cell_far (p := ⟨gb210, _, none⟩) (by first | exact Kd.own_blk (Kd.R_away HO_3.out (fun _ hk => hk.1)) | (rw [add_block]; exact Kd.own_blk (Kd.R_away HO_3.out (fun _ hk => hk.1))) | (show (Addr.add _ _).block ≠ _; rw [add_block]; exact Kd.own_blk (Kd.R_away HO_3.out (fun _ hk => hk.1))) | (dsimp only; exact Kd.own_blk (Kd.R_away HO_3.out (fun _ hk => hk.1)))) _).trans (hHeld.2.2.2.1)))))), ((cell_far (p := ⟨gb210, _, none⟩) (by first | exact Kd.own_blk (Kd.R_away HO_3.out (fun _ hk => hk.1)) | (rw [add_block]; exact Kd.own_blk (Kd.R_away HO_3.out (fun _ hk => hk.1))) | (show (Addr.add _ _).block ≠ _; rw [add_block]; exact Kd.own_blk (Kd.R_away HO_3.out (fun _ hk => hk.1))) | (dsimp only; exact Kd.own_blk (Kd.R_away HO_3.out (fun _ hk => hk.1)))) _).trans (((cell_far (p := ⟨gb210, _, none⟩) (by first | exact Kd.own_blk (Kd.R_away HO_3.out (fun _ hk => hk.1)) | (rw [add_block]; exact Kd.own_blk (Kd.R_away HO_3.out (fun _ hk => hk.1))) | (show (Addr.add _ _).block ≠ _; rw [add_block]; exact Kd.own_blk (Kd.R_away HO_3.out (fun _ hk => hk.1))) | (dsimp only; exact Kd.own_blk (Kd.R_away HO_3.out (fun _ hk => hk.1)))) _).trans (((cell_far (p := ⟨gb210, _, none⟩) (by first | exact Kd.own_blk (Kd.R_away HO_3.out (fun _ hk => hk.1)) | (rw [add_block]; exact Kd.own_blk (Kd.R_away HO_3.out (fun _ hk => hk.1))) | (show (Addr.add _ _).block ≠ _; rw [add_block]; exact Kd.own_blk (Kd.R_away HO_3.out (fun _ hk => hk.1))) | (dsimp only; exact Kd.own_blk (Kd.R_away HO_3.out (fun _ hk => hk.1)))) _).trans (hHeld.2.2.2.2.1)))))), ((cell_far (p := ⟨gb210, _, none⟩) (by first | exact Kd.own_blk (Kd.R_away HO_3.out (fun _ hk => hk.1)) | (rw [add_block]; exact Kd.own_blk (Kd.R_away HO_3.out (fun _ hk => hk.1))) | (show (Addr.add _ _).block ≠ _; rw [add_block]; exact Kd.own_blk (Kd.R_away HO_3.out (fun _ hk => hk.1))) | (dsimp only; exact Kd.own_blk (Kd.R_away HO_3.out (fun _ hk => hk.1)))) _).trans (((cell_far (p := ⟨gb210, _, none⟩) (by first | exact Kd.own_blk (Kd.R_away HO_3.out (fun _ hk => hk.1)) | (rw [add_block]; exact Kd.own_blk (Kd.R_away HO_3.out (fun _ hk => hk.1))) | (show (Addr.add _ _).block ≠ _; rw [add_block]; exact Kd.own_blk (Kd.R_away HO_3.out (fun _ hk => hk.1))) | (dsimp only; exact Kd.own_blk (Kd.R_away HO_3.out (fun _ hk => hk.1)))) _).trans (((cell_far (p := ⟨gb210, _, none⟩) (by first | exact Kd.own_blk (Kd.R_away HO_3.out (fun _ hk => hk.1)) | (rw [add_block]; exact Kd.own_blk (Kd.R_away HO_3.out (fun _ hk => hk.1))) | (show (Addr.add _ _).block ≠ _; rw [add_block]; exact Kd.own_blk (Kd.R_away HO_3.out (fun _ hk => hk.1))) | (dsimp only; exact Kd.own_blk (Kd.R_away HO_3.out (fun _ hk => hk.1)))) _).trans (hHeld.2.2.2.2.2))))))⟩ (fun hHeld => ?_)
                clear hK K
                refine one_ (i := 15) (N := none) #[true, true, true, true, true, true, true, true, true, true, true, true, true, true, true, true] rfl rfl (one_of HT_.out (by kernel_rfl)) (by decide) (fun K hK => ?_)
                have hs43 : w39.cell? ⟨gb211, 0, none⟩ = some (.string (⟨#[]⟩ : ByteArray)) := (blk_cell BK211.out 0).trans rfl; have hfs43 := blk_frozen BK211.out 0; have hns43_0 := NB203_211.out; have hns43_1 := NB210_211.out; have hms43_0 := NB211_203.out; have hms43_1 := NB211_210.out; have hs44 : w39.cell? ⟨gb211, 1, none⟩ = some (.bool false) := (blk_cell BK211.out 1).trans rfl; have hfs44 := blk_frozen BK211.out 1; have hns44_0 := NB203_211.out; have hns44_1 := NB210_211.out; have hms44_0 := NB211_203.out; have hms44_1 := NB211_210.out; have hs45 : w39.cell? ⟨gb211, 2, none⟩ = some (.int .i64 0) := (blk_cell BK211.out 2).trans rfl; have hfs45 := blk_frozen BK211.out 2; have hns45_0 := NB203_211.out; have hns45_1 := NB210_211.out; have hms45_0 := NB211_203.out; have hms45_1 := NB211_210.out
                refine skip_ (w1 := ?_) (by rfl) rfl ?_ ?_
                rotate_left
                ·go_simp
                 rfl
                refine hK.out _ _ ⟨((cell_far (p := ⟨gb211, _, none⟩) (by first | exact Kd.own_blk (Kd.R_away HO_3.out (fun _ hk => hk.2)) | (rw [add_block]; exact Kd.own_blk (Kd.R_away HO_3.out (fun _ hk => hk.2))) | (show (Addr.add _ _).block ≠ _; rw [add_block]; exact Kd.own_blk (Kd.R_away HO_3.out (fun _ hk => hk.2))) | (dsimp only; exact Kd.own_blk (Kd.R_away HO_3.out (fun _ hk => hk.2)))) _).trans (((cell_far (p := ⟨gb211, _, none⟩) (by first | exact Kd.own_blk (Kd.R_away HO_3.out (fun _ hk => hk.2)) | (rw [add_block]; exact Kd.own_blk (Kd.R_away HO_3.out (fun _ hk => hk.2))) | (show (Addr.add _ _).block ≠ _; rw [add_block]; exact Kd.own_blk (Kd.R_away HO_3.out (fun _ hk => hk.2))) | (dsimp only; exact Kd.own_blk (Kd.R_away HO_3.out (fun _ hk => hk.2)))) _).trans (((cell_far (p := ⟨gb211, _, none⟩) (by first | exact Kd.own_blk (Kd.R_away HO_3.out (fun _ hk => hk.2)) | (rw [add_block]; exact Kd.own_blk (Kd.R_away HO_3.out (fun _ hk => hk.2))) | (show (Addr.add _ _).block ≠ _; rw [add_block]; exact Kd.own_blk (Kd.R_away HO_3.out (fun _ hk => hk.2))) | (dsimp only; exact Kd.own_blk (Kd.R_away HO_3.out (fun _ hk => hk.2)))) _).trans (hHeld.1)))))), ((cell_far (p := ⟨gb211, _, none⟩) (by first | exact Kd.own_blk (Kd.R_away HO_3.out (fun _ hk => hk.2)) | (rw [add_block]; exact Kd.own_blk (Kd.R_away HO_3.out (fun _ hk => hk.2))) | (show (Addr.add _ _).block ≠ _; rw [add_block]; exact Kd.own_blk (Kd.R_away HO_3.out (fun _ hk => hk.2))) | (dsimp only; exact Kd.own_blk (Kd.R_away HO_3.out (fun _ hk => hk.2)))) _).trans (((cell_far (p := ⟨gb211, _, none⟩) (by first | exact Kd.own_blk (Kd.R_away HO_3.out (fun _ hk => hk.2)) | (rw [add_block]; exact Kd.own_blk (Kd.R_away HO_3.out (fun _ hk => hk.2))) | (show (Addr.add _ _).block ≠ _; rw [add_block]; exact Kd.own_blk (Kd.R_away HO_3.out (fun _ hk => hk.2))) | (dsimp only; exact Kd.own_blk (Kd.R_away HO_3.out (fun _ hk => hk.2)))) _).trans (((cell_far (p := ⟨gb211, _, none⟩) (by first | exact Kd.own_blk (Kd.R_away HO_3.out (fun _ hk => hk.2)) | (rw [add_block]; exact Kd.own_blk (Kd.R_away HO_3.out (fun _ hk => hk.2))) | (show (Addr.add _ _).block ≠ _; rw [add_block]; exact Kd.own_blk (Kd.R_away HO_3.out (fun _ hk => hk.2))) | (dsimp only; exact Kd.own_blk (Kd.R_away HO_3.out (fun _ hk => hk.2)))) _).trans (hHeld.2.1)))))), ((cell_far (p := ⟨gb211, _, none⟩) (by first | exact Kd.own_blk (Kd.R_away HO_3.out (fun _ hk => hk.2)) | (rw [add_block]; exact Kd.own_blk (Kd.R_away HO_3.out (fun _ hk => hk.2))) | (show (Addr.add _ _).block ≠ _; rw [add_block]; exact Kd.own_blk (Kd.R_away HO_3.out (fun _ hk => hk.2))) | (dsimp only; exact Kd.own_blk (Kd.R_away HO_3.out (fun _ hk => hk.2)))) _).trans (((cell_far (p := ⟨gb211, _, none⟩) (by first | exact Kd.own_blk (Kd.R_away HO_3.out (fun _ hk => hk.2)) | (rw [add_block]; exact Kd.own_blk (Kd.R_away HO_3.out (fun _ hk => hk.2))) | (show (Addr.add _ _).block ≠ _; rw [add_block]; exact Kd.own_blk (Kd.R_away HO_3.out (fun _ hk => hk.2))) | (dsimp only; exact Kd.own_blk (Kd.R_away HO_3.out (fun _ hk => hk.2)))) _).trans (((cell_far (p := ⟨gb211, _, none⟩) (by first | exact Kd.own_blk (Kd.R_away HO_3.out (fun _ hk => hk.2)) | (rw [add_block]; exact Kd.own_blk (Kd.R_away HO_3.out (fun _ hk => hk.2))) | (show (Addr.add _ _).block ≠ _; rw [add_block]; exact Kd.own_blk (Kd.R_away HO_3.out (fun _ hk => hk.2))) | (dsimp only; exact Kd.own_blk (Kd.R_away HO_3.out (fun _ hk => hk.2)))) _).trans (hHeld.2.2.1)))))), ((cell_far (p := ⟨gb211, _, none⟩) (by first | exact Kd.own_blk (Kd.R_away HO_3.out (fun _ hk => hk.2)) | (rw [add_block]; exact Kd.own_blk (Kd.R_away HO_3.out (fun _ hk => hk.2))) | (show (Addr.add _ _).block ≠ _; rw [add_block]; exact Kd.own_blk (Kd.R_away HO_3.out (fun _ hk => hk.2))) | (dsimp only; exact Kd.own_blk (Kd.R_away HO_3.out (fun _ hk => hk.2)))) _).trans (((cell_far (p := ⟨gb211, _, none⟩) (by first | exact Kd.own_blk (Kd.R_away HO_3.out (fun _ hk => hk.2)) | (rw [add_block]; exact Kd.own_blk (Kd.R_away HO_3.out (fun _ hk => hk.2))) | (show (Addr.add _ _).block ≠ _; rw [add_block]; exact Kd.own_blk (Kd.R_away HO_3.out (fun _ hk => hk.2))) | (dsimp only; exact Kd.own_blk (Kd.R_away HO_3.out (fun _ hk => hk.2)))) _).trans (((cell_far (p := ⟨gb211, _, none⟩) (by first | exact Kd.own_blk (Kd.R_away HO_3.out (fun _ hk => hk.2)) | (rw [add_block]; exact Kd.own_blk (Kd.R_away HO_3.out (fun _ hk => hk.2))) | (show (Addr.add _ _).block ≠ _; rw [add_block]; exact Kd.own_blk (Kd.R_away HO_3.out (fun _ hk => hk.2))) | (dsimp only; exact Kd.own_blk (Kd.R_away HO_3.out (fun _ hk => hk.2)))) _).trans (hHeld.2.2.2.1)))))), ((cell_far (p := ⟨gb211, _, none⟩) (by first | exact Kd.own_blk (Kd.R_away HO_3.out (fun _ hk => hk.2)) | (rw [add_block]; exact Kd.own_blk (Kd.R_away HO_3.out (fun _ hk => hk.2))) | (show (Addr.add _ _).block ≠ _; rw [add_block]; exact Kd.own_blk (Kd.R_away HO_3.out (fun _ hk => hk.2))) | (dsimp only; exact Kd.own_blk (Kd.R_away HO_3.out (fun _ hk => hk.2)))) _).trans (((cell_far (p := ⟨gb211, _, none⟩) (by first | exact Kd.own_blk (Kd.R_away HO_3.out (fun _ hk => hk.2)) | (rw [add_block]; exact Kd.own_blk (Kd.R_away HO_3.out (fun _ hk => hk.2))) | (show (Addr.add _ _).block ≠ _; rw [add_block]; exact Kd.own_blk (Kd.R_away HO_3.out (fun _ hk => hk.2))) | (dsimp only; exact Kd.own_blk (Kd.R_away HO_3.out (fun _ hk => hk.2)))) _).trans (((cell_far (p := ⟨gb211, _, none⟩) (by first | exact Kd.own_blk (Kd.R_away HO_3.out (fun _ hk => hk.2)) | (rw [add_block]; exact Kd.own_blk (Kd.R_away HO_3.out (fun _ hk => hk.2))) | (show (Addr.add _ _).block ≠ _; rw [add_block]; exact Kd.own_blk (Kd.R_away HO_3.out (fun _ hk => hk.2))) | (dsimp only; exact Kd.own_blk (Kd.R_away HO_3.out (fun _ hk => hk.2)))) _).trans (hHeld.2.2.2.2.1)))))), ((cell_far (p := ⟨gb211, _, none⟩) (by first | exact Kd.own_blk (Kd.R_away HO_3.out (fun _ hk => hk.2)) | (rw [add_block]; exact Kd.own_blk (Kd.R_away HO_3.out (fun _ hk => hk.2))) | (show (Addr.add _ _).block ≠ _; rw [add_block]; exact Kd.own_blk (Kd.R_away HO_3.out (fun _ hk => hk.2))) | (dsimp only; exact Kd.own_blk (Kd.R_away HO_3.out (fun _ hk => hk.2)))) _).trans (((cell_far (p := ⟨gb211, _, none⟩) (by first | exact Kd.own_blk (Kd.R_away HO_3.out (fun _ hk => hk.2)) | (rw [add_block]; exact Kd.own_blk (Kd.R_away HO_3.out (fun _ hk => hk.2))) | (show (Addr.add _ _).block ≠ _; rw [add_block]; exact Kd.own_blk (Kd.R_away HO_3.out (fun _ hk => hk.2))) | (dsimp only; exact Kd.own_blk (Kd.R_away HO_3.out (fun _ hk => hk.2)))) _).trans (((cell_far (p := ⟨gb211, _, none⟩) (by first | exact Kd.own_blk (Kd.R_away HO_3.out (fun _ hk => hk.2)) | (rw [add_block]; exact Kd.own_blk (Kd.R_away HO_3.out (fun _ hk => hk.2))) | (show (Addr.add _ _).block ≠ _; rw [add_block]; exact Kd.own_blk (Kd.R_away HO_3.out (fun _ hk => hk.2))) | (dsimp only; exact Kd.own_blk (Kd.R_away HO_3.out (fun _ hk => hk.2)))) _).trans (hHeld.2.2.2.2.2))))))⟩ (fun hHeld => ?_)
                clear hK K
                refine done_ (done_of HT_.out (by kernel_rfl)) ?_
                have hnb46 := NB203_210.out; have hnc46 := NB210_203.out; have hnb47 := NB203_211.out; have hnc47 := NB211_203.out; have hcz48_0 : w39.cell? ⟨gb203, 0, none⟩ = some (.int .i64 ((rd_T41 l0 x12_1).f0)) := (blk_cell BK203.out 0).trans rfl; have hcz48_1 : w39.cell? ⟨gb203, 1, none⟩ = some (.int .i64 ((rd_T41 l0 x12_1).f1)) := (blk_cell BK203.out 1).trans rfl; have hcz48_2 : w39.cell? ⟨gb203, 2, none⟩ = some (.int .i64 ((rd_T41 l0 x12_1).f2)) := (blk_cell BK203.out 2).trans rfl; have hfz48_0 := blk_frozen BK203.out 0; have hfz48_1 := blk_frozen BK203.out 1; have hfz48_2 := blk_frozen BK203.out 2; have hnb49 := NB210_211.out; have hnc49 := NB211_210.out; have hcz50_0 : w39.cell? ⟨gb210, 0, none⟩ = some (.string (⟨#[]⟩ : ByteArray)) := (blk_cell BK210.out 0).trans rfl; have hcz50_1 : w39.cell? ⟨gb210, 1, none⟩ = some (.bool false) := (blk_cell BK210.out 1).trans rfl; have hcz50_2 : w39.cell? ⟨gb210, 2, none⟩ = some (.int .i64 0) := (blk_cell BK210.out 2).trans rfl; have hfz50_0 := blk_frozen BK210.out 0; have hfz50_1 := blk_frozen BK210.out 1; have hfz50_2 := blk_frozen BK210.out 2; have hcz51_0 : w39.cell? ⟨gb211, 0, none⟩ = some (.string (⟨#[]⟩ : ByteArray)) := (blk_cell BK211.out 0).trans rfl; have hcz51_1 : w39.cell? ⟨gb211, 1, none⟩ = some (.bool false) := (blk_cell BK211.out 1).trans rfl; have hcz51_2 : w39.cell? ⟨gb211, 2, none⟩ = some (.int .i64 0) := (blk_cell BK211.out 2).trans rfl; have hfz51_0 := blk_frozen BK211.out 0; have hfz51_1 := blk_frozen BK211.out 1; have hfz51_2 := blk_frozen BK211.out 2
                try go_wp2_with (first | ((with_reducible refine gate_dst (N := 8) rfl ?_); refine box_event ?hg (N := 8) ?hd (cs := #[.string (⟨#[]⟩ : ByteArray), .bool false, .int .i64 0]) (t := 54) ?hr ?_; (case hd => rfl); (case hg => rfl); (case hr => first | (go_simp; done) | (go_simp; rfl)); intro gb212 hg w52 hbox hb; have n0_ := Aside0.mk (Kd.R_below (Kd.R_elderB (by (with_reducible repeat (first | apply Kd.R_alloc | apply Kd.R_drewN | apply Kd.R_drew)); exact (Kd.R_mono (Kd.R_mono (Kd.R_far (p := ⟨gb211, 2, none⟩) (Kd.R_far (p := ⟨gb211, 1, none⟩) (Kd.R_far (p := ⟨gb211, 0, none⟩) (Kd.R_far (p := ⟨gb210, 2, none⟩) (Kd.R_far (p := ⟨gb210, 1, none⟩) (Kd.R_far (p := ⟨gb210, 0, none⟩) (Kd.R_mono (Kd.R_mono HO_3.out (fun k_ hk => (⟨hk, hk.1⟩ : _ ∧ k_ ≠ gb210))) (fun k_ hk => (⟨hk, hk.1.2⟩ : _ ∧ k_ ≠ gb211))) (fun _ hk => hk.1.2) (.string ((rd_T54 x3_1 (ji20)).f0))) (fun _ hk => hk.1.2) (.bool ((rd_T54 x3_1 (ji20)).f1))) (fun _ hk => hk.1.2) (.int .i64 ((rd_T54 x3_1 (ji20)).f2))) (fun _ hk => hk.2) (.string ((rd_T54 x3_1 (ji23)).f0))) (fun _ hk => hk.2) (.bool ((rd_T54 x3_1 (ji23)).f1))) (fun _ hk => hk.2) (.int .i64 ((rd_T54 x3_1 (ji23)).f2))) (fun _ h_ => h_.1)) (fun _ h_ => h_.1))) gb212 (Nat.le_of_eq hg.symm)) hb); have n1_ := Aside0.mk (blk_below (g := gb203) (o := .cells #[.int .i64 ((rd_T41 l0 x12_1).f0), .int .i64 ((rd_T41 l0 x12_1).f1), .int .i64 ((rd_T41 l0 x12_1).f2)] 41 (0, 0)) (by (with_reducible repeat (first | refine blk_drewN ?_ _ | refine blk_drew ?_ | refine blk_alloc ?_ _)); refine blk_far ?_ NB203_211.out _; (with_reducible repeat (first | refine blk_drewN ?_ _ | refine blk_drew ?_ | refine blk_alloc ?_ _)); refine blk_far ?_ NB203_211.out _; (with_reducible repeat (first | refine blk_drewN ?_ _ | refine blk_drew ?_ | refine blk_alloc ?_ _)); refine blk_far ?_ NB203_211.out _; (with_reducible repeat (first | refine blk_drewN ?_ _ | refine blk_drew ?_ | refine blk_alloc ?_ _)); refine blk_far ?_ NB203_210.out _; (with_reducible repeat (first | refine blk_drewN ?_ _ | refine blk_drew ?_ | refine blk_alloc ?_ _)); refine blk_far ?_ NB203_210.out _; (with_reducible repeat (first | refine blk_drewN ?_ _ | refine blk_drew ?_ | refine blk_alloc ?_ _)); refine blk_far ?_ NB203_210.out _; (with_reducible repeat (first | refine blk_drewN ?_ _ | refine blk_drew ?_ | refine blk_alloc ?_ _)); exact BK203.out) hb); have n2_ := Aside0.mk (blk_below (g := gb210) (o := .cells #[.string ((rd_T54 x3_1 (ji20)).f0), .bool ((rd_T54 x3_1 (ji20)).f1), .int .i64 ((rd_T54 x3_1 (ji20)).f2)] 54 (0, 0)) (by (with_reducible repeat (first | refine blk_drewN ?_ _ | refine blk_drew ?_ | refine blk_alloc ?_ _)); refine blk_far ?_ NB210_211.out _; (with_reducible repeat (first | refine blk_drewN ?_ _ | refine blk_drew ?_ | refine blk_alloc ?_ _)); refine blk_far ?_ NB210_211.out _; (with_reducible repeat (first | refine blk_drewN ?_ _ | refine blk_drew ?_ | refine blk_alloc ?_ _)); refine blk_far ?_ NB210_211.out _; (with_reducible repeat (first | refine blk_drewN ?_ _ | refine blk_drew ?_ | refine blk_alloc ?_ _)); refine blk_put (cs := #[.string ((rd_T54 x3_1 (ji20)).f0), .bool ((rd_T54 x3_1 (ji20)).f1), .int .i64 0]) ?_ 2 _ rfl; (with_reducible repeat (first | refine blk_drewN ?_ _ | refine blk_drew ?_ | refine blk_alloc ?_ _)); refine blk_put (cs := #[.string ((rd_T54 x3_1 (ji20)).f0), .bool false, .int .i64 0]) ?_ 1 _ rfl; (with_reducible repeat (first | refine blk_drewN ?_ _ | refine blk_drew ?_ | refine blk_alloc ?_ _)); refine blk_put (cs := #[.string (⟨#[]⟩ : ByteArray), .bool false, .int .i64 0]) ?_ 0 _ rfl; (with_reducible repeat (first | refine blk_drewN ?_ _ | refine blk_drew ?_ | refine blk_alloc ?_ _)); exact BK210.out) hb); have n3_ := Aside0.mk (blk_below (g := gb211) (o := .cells #[.string ((rd_T54 x3_1 (ji23)).f0), .bool ((rd_T54 x3_1 (ji23)).f1), .int .i64 ((rd_T54 x3_1 (ji23)).f2)] 54 (0, 0)) (by (with_reducible repeat (first | refine blk_drewN ?_ _ | refine blk_drew ?_ | refine blk_alloc ?_ _)); refine blk_put (cs := #[.string ((rd_T54 x3_1 (ji23)).f0), .bool ((rd_T54 x3_1 (ji23)).f1), .int .i64 0]) ?_ 2 _ rfl; (with_reducible repeat (first | refine blk_drewN ?_ _ | refine blk_drew ?_ | refine blk_alloc ?_ _)); refine blk_put (cs := #[.string ((rd_T54 x3_1 (ji23)).f0), .bool false, .int .i64 0]) ?_ 1 _ rfl; (with_reducible repeat (first | refine blk_drewN ?_ _ | refine blk_drew ?_ | refine blk_alloc ?_ _)); refine blk_put (cs := #[.string (⟨#[]⟩ : ByteArray), .bool false, .int .i64 0]) ?_ 0 _ rfl; (with_reducible repeat (first | refine blk_drewN ?_ _ | refine blk_drew ?_ | refine blk_alloc ?_ _)); refine blk_far ?_ NB211_210.out _; (with_reducible repeat (first | refine blk_drewN ?_ _ | refine blk_drew ?_ | refine blk_alloc ?_ _)); refine blk_far ?_ NB211_210.out _; (with_reducible repeat (first | refine blk_drewN ?_ _ | refine blk_drew ?_ | refine blk_alloc ?_ _)); refine blk_far ?_ NB211_210.out _; (with_reducible repeat (first | refine blk_drewN ?_ _ | refine blk_drew ?_ | refine blk_alloc ?_ _)); exact BK211.out) hb); have n4_ := Aside0.mk (below_step (bu_ HB.out GE203.out GE210.out GE211.out) hb); have n5_ := Aside0.mk (hbox); have n6_ := Aside0.mk ((by rw [hg]; exact (below_size (bu_ HB.out GE203.out GE210.out GE211.out)) : w.heap.size ≤ gb212)); have n7_ := Aside0.mk ((by rw [hg]; exact (below_size (bu_ HB.out GE203.out GE210.out GE211.out)) : w.heap.size ≤ gb212)); have n8_ := Aside0.mk ((by rw [hg]; exact Nat.ne_of_lt (blk_lt (g := gb203) (o := .cells #[.int .i64 ((rd_T41 l0 x12_1).f0), .int .i64 ((rd_T41 l0 x12_1).f1), .int .i64 ((rd_T41 l0 x12_1).f2)] 41 (0, 0)) (by (with_reducible repeat (first | refine blk_drewN ?_ _ | refine blk_drew ?_ | refine blk_alloc ?_ _)); refine blk_far ?_ NB203_211.out _; (with_reducible repeat (first | refine blk_drewN ?_ _ | refine blk_drew ?_ | refine blk_alloc ?_ _)); refine blk_far ?_ NB203_211.out _; (with_reducible repeat (first | refine blk_drewN ?_ _ | refine blk_drew ?_ | refine blk_alloc ?_ _)); refine blk_far ?_ NB203_211.out _; (with_reducible repeat (first | refine blk_drewN ?_ _ | refine blk_drew ?_ | refine blk_alloc ?_ _)); refine blk_far ?_ NB203_210.out _; (with_reducible repeat (first | refine blk_drewN ?_ _ | refine blk_drew ?_ | refine blk_alloc ?_ _)); refine blk_far ?_ NB203_210.out _; (with_reducible repeat (first | refine blk_drewN ?_ _ | refine blk_drew ?_ | refine blk_alloc ?_ _)); refine blk_far ?_ NB203_210.out _; (with_reducible repeat (first | refine blk_drewN ?_ _ | refine blk_drew ?_ | refine blk_alloc ?_ _)); exact BK203.out)) : gb203 ≠ gb212)); have n9_ := Aside0.mk ((by rw [hg]; exact Nat.ne_of_gt (blk_lt (g := gb203) (o := .cells #[.int .i64 ((rd_T41 l0 x12_1).f0), .int .i64 ((rd_T41 l0 x12_1).f1), .int .i64 ((rd_T41 l0 x12_1).f2)] 41 (0, 0)) (by (with_reducible repeat (first | refine blk_drewN ?_ _ | refine blk_drew ?_ | refine blk_alloc ?_ _)); refine blk_far ?_ NB203_211.out _; (with_reducible repeat (first | refine blk_drewN ?_ _ | refine blk_drew ?_ | refine blk_alloc ?_ _)); refine blk_far ?_ NB203_211.out _; (with_reducible repeat (first | refine blk_drewN ?_ _ | refine blk_drew ?_ | refine blk_alloc ?_ _)); refine blk_far ?_ NB203_211.out _; (with_reducible repeat (first | refine blk_drewN ?_ _ | refine blk_drew ?_ | refine blk_alloc ?_ _)); refine blk_far ?_ NB203_210.out _; (with_reducible repeat (first | refine blk_drewN ?_ _ | refine blk_drew ?_ | refine blk_alloc ?_ _)); refine blk_far ?_ NB203_210.out _; (with_reducible repeat (first | refine blk_drewN ?_ _ | refine blk_drew ?_ | refine blk_alloc ?_ _)); refine blk_far ?_ NB203_210.out _; (with_reducible repeat (first | refine blk_drewN ?_ _ | refine blk_drew ?_ | refine blk_alloc ?_ _)); exact BK203.out)) : gb212 ≠ gb203)); have n10_ := Aside0.mk ((by rw [hg]; exact Nat.ne_of_lt (blk_lt (g := gb210) (o := .cells #[.string ((rd_T54 x3_1 (ji20)).f0), .bool ((rd_T54 x3_1 (ji20)).f1), .int .i64 ((rd_T54 x3_1 (ji20)).f2)] 54 (0, 0)) (by (with_reducible repeat (first | refine blk_drewN ?_ _ | refine blk_drew ?_ | refine blk_alloc ?_ _)); refine blk_far ?_ NB210_211.out _; (with_reducible repeat (first | refine blk_drewN ?_ _ | refine blk_drew ?_ | refine blk_alloc ?_ _)); refine blk_far ?_ NB210_211.out _; (with_reducible repeat (first | refine blk_drewN ?_ _ | refine blk_drew ?_ | refine blk_alloc ?_ _)); refine blk_far ?_ NB210_211.out _; (with_reducible repeat (first | refine blk_drewN ?_ _ | refine blk_drew ?_ | refine blk_alloc ?_ _)); refine blk_put (cs := #[.string ((rd_T54 x3_1 (ji20)).f0), .bool ((rd_T54 x3_1 (ji20)).f1), .int .i64 0]) ?_ 2 _ rfl; (with_reducible repeat (first | refine blk_drewN ?_ _ | refine blk_drew ?_ | refine blk_alloc ?_ _)); refine blk_put (cs := #[.string ((rd_T54 x3_1 (ji20)).f0), .bool false, .int .i64 0]) ?_ 1 _ rfl; (with_reducible repeat (first | refine blk_drewN ?_ _ | refine blk_drew ?_ | refine blk_alloc ?_ _)); refine blk_put (cs := #[.string (⟨#[]⟩ : ByteArray), .bool false, .int .i64 0]) ?_ 0 _ rfl; (with_reducible repeat (first | refine blk_drewN ?_ _ | refine blk_drew ?_ | refine blk_alloc ?_ _)); exact BK210.out)) : gb210 ≠ gb212)); have n11_ := Aside0.mk ((by rw [hg]; exact Nat.ne_of_gt (blk_lt (g := gb210) (o := .cells #[.string ((rd_T54 x3_1 (ji20)).f0), .bool ((rd_T54 x3_1 (ji20)).f1), .int .i64 ((rd_T54 x3_1 (ji20)).f2)] 54 (0, 0)) (by (with_reducible repeat (first | refine blk_drewN ?_ _ | refine blk_drew ?_ | refine blk_alloc ?_ _)); refine blk_far ?_ NB210_211.out _; (with_reducible repeat (first | refine blk_drewN ?_ _ | refine blk_drew ?_ | refine blk_alloc ?_ _)); refine blk_far ?_ NB210_211.out _; (with_reducible repeat (first | refine blk_drewN ?_ _ | refine blk_drew ?_ | refine blk_alloc ?_ _)); refine blk_far ?_ NB210_211.out _; (with_reducible repeat (first | refine blk_drewN ?_ _ | refine blk_drew ?_ | refine blk_alloc ?_ _)); refine blk_put (cs := #[.string ((rd_T54 x3_1 (ji20)).f0), .bool ((rd_T54 x3_1 (ji20)).f1), .int .i64 0]) ?_ 2 _ rfl; (with_reducible repeat (first | refine blk_drewN ?_ _ | refine blk_drew ?_ | refine blk_alloc ?_ _)); refine blk_put (cs := #[.string ((rd_T54 x3_1 (ji20)).f0), .bool false, .int .i64 0]) ?_ 1 _ rfl; (with_reducible repeat (first | refine blk_drewN ?_ _ | refine blk_drew ?_ | refine blk_alloc ?_ _)); refine blk_put (cs := #[.string (⟨#[]⟩ : ByteArray), .bool false, .int .i64 0]) ?_ 0 _ rfl; (with_reducible repeat (first | refine blk_drewN ?_ _ | refine blk_drew ?_ | refine blk_alloc ?_ _)); exact BK210.out)) : gb212 ≠ gb210)); have n12_ := Aside0.mk ((by rw [hg]; exact Nat.ne_of_lt (blk_lt (g := gb211) (o := .cells #[.string ((rd_T54 x3_1 (ji23)).f0), .bool ((rd_T54 x3_1 (ji23)).f1), .int .i64 ((rd_T54 x3_1 (ji23)).f2)] 54 (0, 0)) (by (with_reducible repeat (first | refine blk_drewN ?_ _ | refine blk_drew ?_ | refine blk_alloc ?_ _)); refine blk_put (cs := #[.string ((rd_T54 x3_1 (ji23)).f0), .bool ((rd_T54 x3_1 (ji23)).f1), .int .i64 0]) ?_ 2 _ rfl; (with_reducible repeat (first | refine blk_drewN ?_ _ | refine blk_drew ?_ | refine blk_alloc ?_ _)); refine blk_put (cs := #[.string ((rd_T54 x3_1 (ji23)).f0), .bool false, .int .i64 0]) ?_ 1 _ rfl; (with_reducible repeat (first | refine blk_drewN ?_ _ | refine blk_drew ?_ | refine blk_alloc ?_ _)); refine blk_put (cs := #[.string (⟨#[]⟩ : ByteArray), .bool false, .int .i64 0]) ?_ 0 _ rfl; (with_reducible repeat (first | refine blk_drewN ?_ _ | refine blk_drew ?_ | refine blk_alloc ?_ _)); refine blk_far ?_ NB211_210.out _; (with_reducible repeat (first | refine blk_drewN ?_ _ | refine blk_drew ?_ | refine blk_alloc ?_ _)); refine blk_far ?_ NB211_210.out _; (with_reducible repeat (first | refine blk_drewN ?_ _ | refine blk_drew ?_ | refine blk_alloc ?_ _)); refine blk_far ?_ NB211_210.out _; (with_reducible repeat (first | refine blk_drewN ?_ _ | refine blk_drew ?_ | refine blk_alloc ?_ _)); exact BK211.out)) : gb211 ≠ gb212)); have n13_ := Aside0.mk ((by rw [hg]; exact Nat.ne_of_gt (blk_lt (g := gb211) (o := .cells #[.string ((rd_T54 x3_1 (ji23)).f0), .bool ((rd_T54 x3_1 (ji23)).f1), .int .i64 ((rd_T54 x3_1 (ji23)).f2)] 54 (0, 0)) (by (with_reducible repeat (first | refine blk_drewN ?_ _ | refine blk_drew ?_ | refine blk_alloc ?_ _)); refine blk_put (cs := #[.string ((rd_T54 x3_1 (ji23)).f0), .bool ((rd_T54 x3_1 (ji23)).f1), .int .i64 0]) ?_ 2 _ rfl; (with_reducible repeat (first | refine blk_drewN ?_ _ | refine blk_drew ?_ | refine blk_alloc ?_ _)); refine blk_put (cs := #[.string ((rd_T54 x3_1 (ji23)).f0), .bool false, .int .i64 0]) ?_ 1 _ rfl; (with_reducible repeat (first | refine blk_drewN ?_ _ | refine blk_drew ?_ | refine blk_alloc ?_ _)); refine blk_put (cs := #[.string (⟨#[]⟩ : ByteArray), .bool false, .int .i64 0]) ?_ 0 _ rfl; (with_reducible repeat (first | refine blk_drewN ?_ _ | refine blk_drew ?_ | refine blk_alloc ?_ _)); refine blk_far ?_ NB211_210.out _; (with_reducible repeat (first | refine blk_drewN ?_ _ | refine blk_drew ?_ | refine blk_alloc ?_ _)); refine blk_far ?_ NB211_210.out _; (with_reducible repeat (first | refine blk_drewN ?_ _ | refine blk_drew ?_ | refine blk_alloc ?_ _)); refine blk_far ?_ NB211_210.out _; (with_reducible repeat (first | refine blk_drewN ?_ _ | refine blk_drew ?_ | refine blk_alloc ?_ _)); exact BK211.out)) : gb212 ≠ gb211)); clear HO_3; clear BK203; clear BK210; clear BK211; clear HB; have HO_3 := n0_; have BK203 := n1_; have BK210 := n2_; have BK211 := n3_; have HB := n4_; have BK212 := n5_; have GW212 := n6_; have GE212 := n7_; have NB203_212 := n8_; have NB212_203 := n9_; have NB210_212 := n10_; have NB212_210 := n11_; have NB211_212 := n12_; have NB212_211 := n13_; clear n0_ n1_ n2_ n3_ n4_ n5_ n6_ n7_ n8_ n9_ n10_ n11_ n12_ n13_; clear hb hbox hg; have hnb53 := NB212_203.out; have hnc53 := NB203_212.out; have hnb54 := NB212_210.out; have hnc54 := NB210_212.out; have hnb55 := NB212_211.out; have hnc55 := NB211_212.out; have hcz56_0 : w52.cell? ⟨gb212, 0, none⟩ = some (.string (⟨#[]⟩ : ByteArray)) := (blk_cell BK212.out 0).trans rfl; have hcz56_1 : w52.cell? ⟨gb212, 1, none⟩ = some (.bool false) := (blk_cell BK212.out 1).trans rfl; have hcz56_2 : w52.cell? ⟨gb212, 2, none⟩ = some (.int .i64 0) := (blk_cell BK212.out 2).trans rfl; have hfz56_0 := blk_frozen BK212.out 0; have hfz56_1 := blk_frozen BK212.out 1; have hfz56_2 := blk_frozen BK212.out 2))
                have n0_ : Aside0 (Kd.R k54 54 (((w52.setCell ⟨gb212, 0, none⟩ (.string (⟨#[]⟩ : ByteArray))).setCell ⟨gb212, 1, none⟩ (.bool true)).setCell ⟨gb212, 2, none⟩ (.int .i64 (wrap64 ((wrap64 (((rd_T54 x3_1 (ji20)).f2) + ((rd_T54 x3_1 (ji23)).f2))) + 1)))) w.heap.size (fun k_ => k_ ≠ gb210 ∧ k_ ≠ gb211 ∧ k_ ≠ gb212) (.slice (some ad208) x3_1.length co36) x3_1) := ⟨by (with_reducible repeat (first | apply Kd.R_alloc | apply Kd.R_drewN | apply Kd.R_drew)); exact Kd.R_mono (Kd.R_far (p := ⟨gb212, 2, none⟩) (Kd.R_far (p := ⟨gb212, 1, none⟩) (Kd.R_far (p := ⟨gb212, 0, none⟩) (Kd.R_mono HO_3.out (fun k_ hk => (⟨hk, hk.2⟩ : _ ∧ k_ ≠ gb212))) (fun _ hk => hk.2) (.string (⟨#[]⟩ : ByteArray))) (fun _ hk => hk.2) (.bool true)) (fun _ hk => hk.2) (.int .i64 (wrap64 ((wrap64 (((rd_T54 x3_1 (ji20)).f2) + ((rd_T54 x3_1 (ji23)).f2))) + 1)))) (fun _ hk => ⟨hk.1.1.1, ⟨hk.1.1.2, hk.1.2⟩⟩)⟩; have n1_ : Aside0 ((((w52.setCell ⟨gb212, 0, none⟩ (.string (⟨#[]⟩ : ByteArray))).setCell ⟨gb212, 1, none⟩ (.bool true)).setCell ⟨gb212, 2, none⟩ (.int .i64 (wrap64 ((wrap64 (((rd_T54 x3_1 (ji20)).f2) + ((rd_T54 x3_1 (ji23)).f2))) + 1)))).heap[gb203]? = some (.cells #[.int .i64 ((rd_T41 l0 x12_1).f0), .int .i64 ((rd_T41 l0 x12_1).f1), .int .i64 ((rd_T41 l0 x12_1).f2)] 41 (0, 0))) := ⟨by (with_reducible repeat (first | refine blk_drewN ?_ _ | refine blk_drew ?_ | refine blk_alloc ?_ _)); refine blk_far ?_ NB203_212.out _; (with_reducible repeat (first | refine blk_drewN ?_ _ | refine blk_drew ?_ | refine blk_alloc ?_ _)); refine blk_far ?_ NB203_212.out _; (with_reducible repeat (first | refine blk_drewN ?_ _ | refine blk_drew ?_ | refine blk_alloc ?_ _)); refine blk_far ?_ NB203_212.out _; (with_reducible repeat (first | refine blk_drewN ?_ _ | refine blk_drew ?_ | refine blk_alloc ?_ _)); exact BK203.out⟩; have n2_ : Aside0 ((((w52.setCell ⟨gb212, 0, none⟩ (.string (⟨#[]⟩ : ByteArray))).setCell ⟨gb212, 1, none⟩ (.bool true)).setCell ⟨gb212, 2, none⟩ (.int .i64 (wrap64 ((wrap64 (((rd_T54 x3_1 (ji20)).f2) + ((rd_T54 x3_1 (ji23)).f2))) + 1)))).heap[gb210]? = some (.cells #[.string ((rd_T54 x3_1 (ji20)).f0), .bool ((rd_T54 x3_1 (ji20)).f1), .int .i64 ((rd_T54 x3_1 (ji20)).f2)] 54 (0, 0))) := ⟨by (with_reducible repeat (first | refine blk_drewN ?_ _ | refine blk_drew ?_ | refine blk_alloc ?_ _)); refine blk_far ?_ NB210_212.out _; (with_reducible repeat (first | refine blk_drewN ?_ _ | refine blk_drew ?_ | refine blk_alloc ?_ _)); refine blk_far ?_ NB210_212.out _; (with_reducible repeat (first | refine blk_drewN ?_ _ | refine blk_drew ?_ | refine blk_alloc ?_ _)); refine blk_far ?_ NB210_212.out _; (with_reducible repeat (first | refine blk_drewN ?_ _ | refine blk_drew ?_ | refine blk_alloc ?_ _)); exact BK210.out⟩; have n3_ : Aside0 ((((w52.setCell ⟨gb212, 0, none⟩ (.string (⟨#[]⟩ : ByteArray))).setCell ⟨gb212, 1, none⟩ (.bool true)).setCell ⟨gb212, 2, none⟩ (.int .i64 (wrap64 ((wrap64 (((rd_T54 x3_1 (ji20)).f2) + ((rd_T54 x3_1 (ji23)).f2))) + 1)))).heap[gb211]? = some (.cells #[.string ((rd_T54 x3_1 (ji23)).f0), .bool ((rd_T54 x3_1 (ji23)).f1), .int .i64 ((rd_T54 x3_1 (ji23)).f2)] 54 (0, 0))) := ⟨by (with_reducible repeat (first | refine blk_drewN ?_ _ | refine blk_drew ?_ | refine blk_alloc ?_ _)); refine blk_far ?_ NB211_212.out _; (with_reducible repeat (first | refine blk_drewN ?_ _ | refine blk_drew ?_ | refine blk_alloc ?_ _)); refine blk_far ?_ NB211_212.out _; (with_reducible repeat (first | refine blk_drewN ?_ _ | refine blk_drew ?_ | refine blk_alloc ?_ _)); refine blk_far ?_ NB211_212.out _; (with_reducible repeat (first | refine blk_drewN ?_ _ | refine blk_drew ?_ | refine blk_alloc ?_ _)); exact BK211.out⟩; have n4_ : Aside0 ((((w52.setCell ⟨gb212, 0, none⟩ (.string (⟨#[]⟩ : ByteArray))).setCell ⟨gb212, 1, none⟩ (.bool true)).setCell ⟨gb212, 2, none⟩ (.int .i64 (wrap64 ((wrap64 (((rd_T54 x3_1 (ji20)).f2) + ((rd_T54 x3_1 (ji23)).f2))) + 1)))).heap[gb212]? = some (.cells #[.string (⟨#[]⟩ : ByteArray), .bool true, .int .i64 (wrap64 ((wrap64 (((rd_T54 x3_1 (ji20)).f2) + ((rd_T54 x3_1 (ji23)).f2))) + 1))] 54 (0, 0))) := ⟨by (with_reducible repeat (first | refine blk_drewN ?_ _ | refine blk_drew ?_ | refine blk_alloc ?_ _)); refine blk_put (cs := #[.string (⟨#[]⟩ : ByteArray), .bool true, .int .i64 0]) ?_ 2 _ rfl; (with_reducible repeat (first | refine blk_drewN ?_ _ | refine blk_drew ?_ | refine blk_alloc ?_ _)); refine blk_put (cs := #[.string (⟨#[]⟩ : ByteArray), .bool false, .int .i64 0]) ?_ 1 _ rfl; (with_reducible repeat (first | refine blk_drewN ?_ _ | refine blk_drew ?_ | refine blk_alloc ?_ _)); refine blk_put (cs := #[.string (⟨#[]⟩ : ByteArray), .bool false, .int .i64 0]) ?_ 0 _ rfl; (with_reducible repeat (first | refine blk_drewN ?_ _ | refine blk_drew ?_ | refine blk_alloc ?_ _)); exact BK212.out⟩; have n5_ : Aside0 (Below w.heap.size w (((w52.setCell ⟨gb212, 0, none⟩ (.string (⟨#[]⟩ : ByteArray))).setCell ⟨gb212, 1, none⟩ (.bool true)).setCell ⟨gb212, 2, none⟩ (.int .i64 (wrap64 ((wrap64 (((rd_T54 x3_1 (ji20)).f2) + ((rd_T54 x3_1 (ji23)).f2))) + 1))))) := ⟨by repeat (first | (with_reducible first | exact HB.out | apply below_alloc | apply pw_below_drewN | apply below_drew1 | refine below_set ?_ GE203.out | refine below_set ?_ GE210.out | refine below_set ?_ GE211.out | refine below_set ?_ GE212.out) | exact HB.out)⟩
                (try clear HO_3)
                (try clear BK203)
                (try clear BK210)
                (try clear BK211)
                (try clear BK212)
                (try clear HB)
                generalize (((w52.setCell ⟨gb212, 0, none⟩ (.string (⟨#[]⟩ : ByteArray))).setCell ⟨gb212, 1, none⟩ (.bool true)).setCell ⟨gb212, 2, none⟩ (.int .i64 (wrap64 ((wrap64 (((rd_T54 x3_1 (ji20)).f2) + ((rd_T54 x3_1 (ji23)).f2))) + 1)))) = w57 at n0_ n1_ n2_ n3_ n4_ n5_ ⊢
                have HO_3 := n0_; have BK203 := n1_; have BK210 := n2_; have BK211 := n3_; have BK212 := n4_; have HB := n5_; clear n0_ n1_ n2_ n3_ n4_ n5_; have n0_ := Aside0.mk (Kd.R_drew HO_3.out); have n1_ := Aside0.mk (blk_drew BK203.out); have n2_ := Aside0.mk (blk_drew BK210.out); have n3_ := Aside0.mk (blk_drew BK211.out); have n4_ := Aside0.mk (blk_drew BK212.out); have n5_ := Aside0.mk (below_drew1 HB.out); clear HO_3 BK203 BK210 BK211 BK212 HB; have HO_3 := n0_; have BK203 := n1_; have BK210 := n2_; have BK211 := n3_; have BK212 := n4_; have HB := n5_; clear n0_ n1_ n2_ n3_ n4_ n5_
                refine start_ (n := 11) (S := fun w' => w'.cell? ⟨gb210, 0, none⟩ = some (.string ((rd_T54 x3_1 (ji20)).f0)) ∧ w'.cell? ⟨gb210, 1, none⟩ = some (.bool ((rd_T54 x3_1 (ji20)).f1)) ∧ w'.cell? ⟨gb210, 2, none⟩ = some (.int .i64 ((rd_T54 x3_1 (ji20)).f2)) ∧ w'.cell? ⟨gb211, 0, none⟩ = some (.string ((rd_T54 x3_1 (ji23)).f0)) ∧ w'.cell? ⟨gb211, 1, none⟩ = some (.bool ((rd_T54 x3_1 (ji23)).f1)) ∧ w'.cell? ⟨gb211, 2, none⟩ = some (.int .i64 ((rd_T54 x3_1 (ji23)).f2))) (ds := []) #[false, false, false, false, false, false, false, false, false, false, false] (by kernel_rfl) rfl rfl ⟨(blk_cell BK210.out 0).trans rfl, (blk_cell BK210.out 1).trans rfl, (blk_cell BK210.out 2).trans rfl, (blk_cell BK211.out 0).trans rfl, (blk_cell BK211.out 1).trans rfl, (blk_cell BK211.out 2).trans rfl⟩ (fun hHeld => ?_); refine with_tabW impl_termText.tab10 impl_termText.bits10 (fun HT_ HW_ => ?_)
                generalize w57.drew = w58 at HO_3 BK203 BK210 BK211 BK212 HB hHeld ⊢
                refine pure_ (i := 0) (N := some 57) (v := ?_) (a' := ?_) #[true, false, false, false, false, false, false, false, false, false, false] rfl rfl (any_of HT_.out (by kernel_rfl)) (fun _ _ _ h => h) (Or.inl ⟨by rfl, ?_⟩) ?_ ?_
                rotate_left
                ·intro w'
                 go_simp
                 with_reducible rfl
                rotate_left
                ·simp only [Act.put, List.setIfInBounds_toArray, List.set_cons_zero, List.set_cons_succ, i64_w, i32_w]
                 rfl
                refine pure_ (i := 3) (N := some 60) (v := ?_) (a' := ?_) #[true, false, false, true, false, false, false, false, false, false, false] rfl rfl (any_of HT_.out (by kernel_rfl)) (fun _ _ _ h => h) (Or.inl ⟨by rfl, ?_⟩) ?_ ?_
                rotate_left
                ·intro w'
                 go_simp
                 with_reducible rfl
                rotate_left
                ·simp only [Act.put, List.setIfInBounds_toArray, List.set_cons_zero, List.set_cons_succ, i64_w, i32_w]
                 rfl
                refine pure_ (i := 5) (N := some 62) (v := ?_) (a' := ?_) #[true, false, false, true, false, true, false, false, false, false, false] rfl rfl (any_of HT_.out (by kernel_rfl)) (fun _ _ _ h => h) (Or.inl ⟨by rfl, ?_⟩) ?_ ?_
                rotate_left
                ·intro w'
                 go_simp
                 with_reducible rfl
                rotate_left
                ·simp only [Act.put, List.setIfInBounds_toArray, List.set_cons_zero, List.set_cons_succ, i64_w, i32_w]
                 rfl
                refine take_ (i := 1) (N := some 58) (v := ?_) (a' := ?_) #[true, true, false, true, false, true, false, false, false, false, false] rfl rfl (take_ofW HT_.out HW_.out (by kernel_rfl)) (fun _ _ _ h => h) (Or.inl ⟨by rfl, ?_⟩) hHeld ?_ ?_
                rotate_left
                ·rintro w' ⟨s0, s1, s2, s3, s4, s5⟩
                 go_simp
                 with_reducible rfl
                rotate_left
                ·simp only [Act.put, List.setIfInBounds_toArray, List.set_cons_zero, List.set_cons_succ, i64_w, i32_w]
                 rfl
                refine pure_ (i := 2) (N := some 59) (v := ?_) (a' := ?_) #[true, true, true, true, false, true, false, false, false, false, false] rfl rfl (any_of HT_.out (by kernel_rfl)) (fun _ _ _ h => h) (Or.inl ⟨by rfl, ?_⟩) ?_ ?_
                rotate_left
                ·intro w'
                 go_simp
                 with_reducible rfl
                rotate_left
                ·simp only [Act.put, List.setIfInBounds_toArray, List.set_cons_zero, List.set_cons_succ, i64_w, i32_w]
                 rfl
                refine take_ (i := 4) (N := some 61) (v := ?_) (a' := ?_) #[true, true, true, true, true, true, false, false, false, false, false] rfl rfl (take_ofW HT_.out HW_.out (by kernel_rfl)) (fun _ _ _ h => h) (Or.inl ⟨by rfl, ?_⟩) hHeld ?_ ?_
                rotate_left
                ·rintro w' ⟨s0, s1, s2, s3, s4, s5⟩
                 go_simp
                 with_reducible rfl
                rotate_left
                ·simp only [Act.put, List.setIfInBounds_toArray, List.set_cons_zero, List.set_cons_succ, i64_w, i32_w]
                 rfl
                refine take_ (i := 6) (N := some 63) (v := ?_) (a' := ?_) #[true, true, true, true, true, true, true, false, false, false, false] rfl rfl (take_ofW HT_.out HW_.out (by kernel_rfl)) (fun _ _ _ h => h) (Or.inl ⟨by rfl, ?_⟩) hHeld ?_ ?_
                rotate_left
                ·rintro w' ⟨s0, s1, s2, s3, s4, s5⟩
                 go_simp
                 with_reducible rfl
                rotate_left
                ·simp only [Act.put, List.setIfInBounds_toArray, List.set_cons_zero, List.set_cons_succ, i64_w, i32_w]
                 rfl
                refine one_ (i := 7) (N := some 64) #[true, true, true, true, true, true, true, true, false, false, false] rfl rfl (one_of HT_.out (by kernel_rfl)) (by decide) (fun K hK => ?_)
                refine goes_ Tryd.func29 (by kernel_rfl) rfl #[.string ((rd_T54 x3_1 (ji23)).f0), .bool ((rd_T54 x3_1 (ji23)).f1)] (by rfl) rfl rfl (by (try simp only [List.map_toArray, List.map_cons, List.map_nil]); first | done | (simp only [hji23]; rfl) | rfl | (simp only [List.length_drop, List.length_take]; rfl)) ?_
                with_reducible refine (impl_wrapped.calls ((rd_T54 x3_1 (ji23)).f0) ((rd_T54 x3_1 (ji23)).f1) t213 _ A28.out).mono ?_
                rintro e w' ⟨rfl, ⟨nd, rfl⟩⟩
                refine ⟨_, rfl, ?_⟩
                refine hK.out _ _ ⟨(blk_cell BK210.out 0).trans rfl, (blk_cell BK210.out 1).trans rfl, (blk_cell BK210.out 2).trans rfl, (blk_cell BK211.out 0).trans rfl, (blk_cell BK211.out 1).trans rfl, (blk_cell BK211.out 2).trans rfl⟩ (fun hHeld => ?_)
                clear hK K
                have n0_ := Aside0.mk (Kd.R_drewN HO_3.out nd); have n1_ := Aside0.mk (blk_drewN BK203.out nd); have n2_ := Aside0.mk (blk_drewN BK210.out nd); have n3_ := Aside0.mk (blk_drewN BK211.out nd); have n4_ := Aside0.mk (blk_drewN BK212.out nd); have n5_ := Aside0.mk (pw_below_drewN HB.out nd); clear HO_3 BK203 BK210 BK211 BK212 HB
                generalize w58.drewN nd = w58 at n0_ n1_ n2_ n3_ n4_ n5_ hHeld ⊢
                have HO_3 := n0_; have BK203 := n1_; have BK210 := n2_; have BK211 := n3_; have BK212 := n4_; have HB := n5_; clear n0_ n1_ n2_ n3_ n4_ n5_
                refine norm_ (a' := ?_) ?_ ?_
                rotate_left
                ·show Act.put _ (some 64) _ = _
                 simp only [Act.put, List.setIfInBounds_toArray, List.set_cons_zero, List.set_cons_succ, i64_w, i32_w]
                 rfl
                refine pure_ (i := 8) (N := some 65) (v := ?_) (a' := ?_) #[true, true, true, true, true, true, true, true, true, false, false] rfl rfl (any_of HT_.out (by kernel_rfl)) (fun _ _ _ h => h) (Or.inl ⟨by rfl, ?_⟩) ?_ ?_
                rotate_left
                ·intro w'
                 go_simp
                 with_reducible rfl
                rotate_left
                ·simp only [Act.put, List.setIfInBounds_toArray, List.set_cons_zero, List.set_cons_succ, i64_w, i32_w]
                 rfl
                refine pure_ (i := 9) (N := some 66) (v := ?_) (a' := ?_) #[true, true, true, true, true, true, true, true, true, true, false] rfl rfl (any_of HT_.out (by kernel_rfl)) (fun _ _ _ h => h) (Or.inl ⟨by rfl, ?_⟩) ?_ ?_
                rotate_left
                ·intro w'
                 go_simp
                 with_reducible rfl
                rotate_left
                ·simp only [Act.put, List.setIfInBounds_toArray, List.set_cons_zero, List.set_cons_succ, i64_w, i32_w]
                 rfl
                refine one_ (i := 10) (N := none) #[true, true, true, true, true, true, true, true, true, true, true] rfl rfl (one_of HT_.out (by kernel_rfl)) (by decide) (fun K hK => ?_)
                have hs59 : w58.cell? ⟨gb212, 0, none⟩ = some (.string (⟨#[]⟩ : ByteArray)) := (blk_cell BK212.out 0).trans rfl; have hfs59 := blk_frozen BK212.out 0; have hns59_0 := NB203_212.out; have hns59_1 := NB210_212.out; have hns59_2 := NB211_212.out; have hms59_0 := NB212_203.out; have hms59_1 := NB212_210.out; have hms59_2 := NB212_211.out
                refine skip_ (w1 := ?_) (by rfl) rfl ?_ ?_
                rotate_left
                ·go_simp
                 rfl
                refine hK.out _ _ ⟨((cell_far (p := ⟨gb212, _, none⟩) NB210_212.out _).trans (hHeld.1)), ((cell_far (p := ⟨gb212, _, none⟩) NB210_212.out _).trans (hHeld.2.1)), ((cell_far (p := ⟨gb212, _, none⟩) NB210_212.out _).trans (hHeld.2.2.1)), ((cell_far (p := ⟨gb212, _, none⟩) NB211_212.out _).trans (hHeld.2.2.2.1)), ((cell_far (p := ⟨gb212, _, none⟩) NB211_212.out _).trans (hHeld.2.2.2.2.1)), ((cell_far (p := ⟨gb212, _, none⟩) NB211_212.out _).trans (hHeld.2.2.2.2.2))⟩ (fun hHeld => ?_)
                clear hK K
                refine done_ (done_of HT_.out (by kernel_rfl)) ?_
                try go_wp2
                have n0_ : Aside0 (Kd.R k54 54 (w58.setCell ⟨gb212, 0, none⟩ (.string ((((rd_T54 x3_1 (ji20)).f0) ++ (⟨#[124]⟩ : ByteArray)) ++ t213))) w.heap.size (fun k_ => k_ ≠ gb210 ∧ k_ ≠ gb211 ∧ k_ ≠ gb212) (.slice (some ad208) x3_1.length co36) x3_1) := ⟨by (with_reducible repeat (first | apply Kd.R_alloc | apply Kd.R_drewN | apply Kd.R_drew)); exact Kd.R_mono (Kd.R_far (p := ⟨gb212, 0, none⟩) (Kd.R_mono HO_3.out (fun k_ hk => (⟨hk, hk.2.2⟩ : _ ∧ k_ ≠ gb212))) (fun _ hk => hk.2) (.string ((((rd_T54 x3_1 (ji20)).f0) ++ (⟨#[124]⟩ : ByteArray)) ++ t213))) (fun _ hk => ⟨hk.1.1, ⟨hk.1.2.1, hk.1.2.2⟩⟩)⟩; have n1_ : Aside0 ((w58.setCell ⟨gb212, 0, none⟩ (.string ((((rd_T54 x3_1 (ji20)).f0) ++ (⟨#[124]⟩ : ByteArray)) ++ t213))).heap[gb203]? = some (.cells #[.int .i64 ((rd_T41 l0 x12_1).f0), .int .i64 ((rd_T41 l0 x12_1).f1), .int .i64 ((rd_T41 l0 x12_1).f2)] 41 (0, 0))) := ⟨by (with_reducible repeat (first | refine blk_drewN ?_ _ | refine blk_drew ?_ | refine blk_alloc ?_ _)); refine blk_far ?_ NB203_212.out _; (with_reducible repeat (first | refine blk_drewN ?_ _ | refine blk_drew ?_ | refine blk_alloc ?_ _)); exact BK203.out⟩; have n2_ : Aside0 ((w58.setCell ⟨gb212, 0, none⟩ (.string ((((rd_T54 x3_1 (ji20)).f0) ++ (⟨#[124]⟩ : ByteArray)) ++ t213))).heap[gb210]? = some (.cells #[.string ((rd_T54 x3_1 (ji20)).f0), .bool ((rd_T54 x3_1 (ji20)).f1), .int .i64 ((rd_T54 x3_1 (ji20)).f2)] 54 (0, 0))) := ⟨by (with_reducible repeat (first | refine blk_drewN ?_ _ | refine blk_drew ?_ | refine blk_alloc ?_ _)); refine blk_far ?_ NB210_212.out _; (with_reducible repeat (first | refine blk_drewN ?_ _ | refine blk_drew ?_ | refine blk_alloc ?_ _)); exact BK210.out⟩; have n3_ : Aside0 ((w58.setCell ⟨gb212, 0, none⟩ (.string ((((rd_T54 x3_1 (ji20)).f0) ++ (⟨#[124]⟩ : ByteArray)) ++ t213))).heap[gb211]? = some (.cells #[.string ((rd_T54 x3_1 (ji23)).f0), .bool ((rd_T54 x3_1 (ji23)).f1), .int .i64 ((rd_T54 x3_1 (ji23)).f2)] 54 (0, 0))) := ⟨by (with_reducible repeat (first | refine blk_drewN ?_ _ | refine blk_drew ?_ | refine blk_alloc ?_ _)); refine blk_far ?_ NB211_212.out _; (with_reducible repeat (first | refine blk_drewN ?_ _ | refine blk_drew ?_ | refine blk_alloc ?_ _)); exact BK211.out⟩; have n4_ : Aside0 ((w58.setCell ⟨gb212, 0, none⟩ (.string ((((rd_T54 x3_1 (ji20)).f0) ++ (⟨#[124]⟩ : ByteArray)) ++ t213))).heap[gb212]? = some (.cells #[.string ((((rd_T54 x3_1 (ji20)).f0) ++ (⟨#[124]⟩ : ByteArray)) ++ t213), .bool true, .int .i64 (wrap64 ((wrap64 (((rd_T54 x3_1 (ji20)).f2) + ((rd_T54 x3_1 (ji23)).f2))) + 1))] 54 (0, 0))) := ⟨by (with_reducible repeat (first | refine blk_drewN ?_ _ | refine blk_drew ?_ | refine blk_alloc ?_ _)); refine blk_put (cs := #[.string (⟨#[]⟩ : ByteArray), .bool true, .int .i64 (wrap64 ((wrap64 (((rd_T54 x3_1 (ji20)).f2) + ((rd_T54 x3_1 (ji23)).f2))) + 1))]) ?_ 0 _ rfl; (with_reducible repeat (first | refine blk_drewN ?_ _ | refine blk_drew ?_ | refine blk_alloc ?_ _)); exact BK212.out⟩; have n5_ : Aside0 (Below w.heap.size w (w58.setCell ⟨gb212, 0, none⟩ (.string ((((rd_T54 x3_1 (ji20)).f0) ++ (⟨#[124]⟩ : ByteArray)) ++ t213)))) := ⟨by repeat (first | (with_reducible first | exact HB.out | apply below_alloc | apply pw_below_drewN | apply below_drew1 | refine below_set ?_ GE203.out | refine below_set ?_ GE210.out | refine below_set ?_ GE211.out | refine below_set ?_ GE212.out) | exact HB.out)⟩
                (try clear HO_3)
                (try clear BK203)
                (try clear BK210)
                (try clear BK211)
                (try clear BK212)
                (try clear HB)
                generalize (w58.setCell ⟨gb212, 0, none⟩ (.string ((((rd_T54 x3_1 (ji20)).f0) ++ (⟨#[124]⟩ : ByteArray)) ++ t213))) = w60 at n0_ n1_ n2_ n3_ n4_ n5_ ⊢
                have HO_3 := n0_; have BK203 := n1_; have BK210 := n2_; have BK211 := n3_; have BK212 := n4_; have HB := n5_; clear n0_ n1_ n2_ n3_ n4_ n5_
                (try (rw [drewN_self w60]; generalize hq_ : World.drewN w60 _ = w60; have n0_ : Aside0 (Kd.R k54 54 w60 w.heap.size (fun k_ => k_ ≠ gb210 ∧ k_ ≠ gb211 ∧ k_ ≠ gb212) (.slice (some ad208) x3_1.length co36) x3_1) := ⟨by rw [← hq_]; exact (r_ HO_3.out)⟩; have n1_ : Aside0 (w60.heap[gb203]? = some (.cells #[.int .i64 ((rd_T41 l0 x12_1).f0), .int .i64 ((rd_T41 l0 x12_1).f1), .int .i64 ((rd_T41 l0 x12_1).f2)] 41 (0, 0))) := ⟨by rw [← hq_]; exact (bk_ BK203.out)⟩; have n2_ : Aside0 (w60.heap[gb210]? = some (.cells #[.string ((rd_T54 x3_1 (ji20)).f0), .bool ((rd_T54 x3_1 (ji20)).f1), .int .i64 ((rd_T54 x3_1 (ji20)).f2)] 54 (0, 0))) := ⟨by rw [← hq_]; exact (bk_ BK210.out)⟩; have n3_ : Aside0 (w60.heap[gb211]? = some (.cells #[.string ((rd_T54 x3_1 (ji23)).f0), .bool ((rd_T54 x3_1 (ji23)).f1), .int .i64 ((rd_T54 x3_1 (ji23)).f2)] 54 (0, 0))) := ⟨by rw [← hq_]; exact (bk_ BK211.out)⟩; have n4_ : Aside0 (w60.heap[gb212]? = some (.cells #[.string ((((rd_T54 x3_1 (ji20)).f0) ++ (⟨#[124]⟩ : ByteArray)) ++ t213), .bool true, .int .i64 (wrap64 ((wrap64 (((rd_T54 x3_1 (ji20)).f2) + ((rd_T54 x3_1 (ji23)).f2))) + 1))] 54 (0, 0))) := ⟨by rw [← hq_]; exact (bk_ BK212.out)⟩; have n5_ : Aside0 (Below w.heap.size w w60) := ⟨by rw [← hq_]; exact (by repeat (first | (with_reducible first | exact HB.out | apply below_alloc | apply pw_below_drewN | apply below_drew1 | refine below_set ?_ GE203.out | refine below_set ?_ GE210.out | refine below_set ?_ GE211.out | refine below_set ?_ GE212.out) | exact HB.out))⟩; clear HO_3 BK203 BK210 BK211 BK212 HB hq_; have HO_3 := n0_; have BK203 := n1_; have BK210 := n2_; have BK211 := n3_; have BK212 := n4_; have HB := n5_; clear n0_ n1_ n2_ n3_ n4_ n5_))
                have n0_ := Aside0.mk (Kd.R_drew HO_3.out); have n1_ := Aside0.mk (blk_drew BK203.out); have n2_ := Aside0.mk (blk_drew BK210.out); have n3_ := Aside0.mk (blk_drew BK211.out); have n4_ := Aside0.mk (blk_drew BK212.out); have n5_ := Aside0.mk (below_drew1 HB.out); clear HO_3 BK203 BK210 BK211 BK212 HB; have HO_3 := n0_; have BK203 := n1_; have BK210 := n2_; have BK211 := n3_; have BK212 := n4_; have HB := n5_; clear n0_ n1_ n2_ n3_ n4_ n5_; have q62 : ((ji20) : Int) ≤ ((x3_1.length : Int) : Int) := of_decide_eq_true as_; obtain ⟨i062, hi062, _, hsz62, _⟩ := info_parts info54; have hcut62 := cut_to (P := Tryd.prog) 52 54 .i64 Tryd.underlying52 hi062 (some ad208) x3_1.length co36 (ji20) (of_decide_eq_true as_) q62 (Kd.R_reads' HO_3.out).2.1; have hr62 := Kd.R_take (m := ((ji20) : Int).toNat) HO_3.out (by omega); have hy62 : y214.length = ((ji20) : Int).toNat := (by rw [Ny214.out, List.length_take]; omega)
                rw [← Ny214.out] at hr62
                rw [← hy62] at hr62 hcut62
                clear hy62 hi062 hsz62 HO_3; have HO216 := Aside0.mk hr62; clear hr62; replace q62 := eq_true q62
                refine start_ (n := 9) (S := fun w' => w'.cell? ⟨gb212, 0, none⟩ = some (.string ((((rd_T54 x3_1 (ji20)).f0) ++ (⟨#[124]⟩ : ByteArray)) ++ t213)) ∧ w'.cell? ⟨gb212, 1, none⟩ = some (.bool true) ∧ w'.cell? ⟨gb212, 2, none⟩ = some (.int .i64 (wrap64 ((wrap64 (((rd_T54 x3_1 (ji20)).f2) + ((rd_T54 x3_1 (ji23)).f2))) + 1)))) (ds := []) #[false, false, false, false, false, false, false, false, false] (by kernel_rfl) rfl rfl ⟨(blk_cell BK212.out 0).trans rfl, (blk_cell BK212.out 1).trans rfl, (blk_cell BK212.out 2).trans rfl⟩ (fun hHeld => ?_); refine with_tabW impl_termText.tab12 impl_termText.bits12 (fun HT_ HW_ => ?_)
                generalize w60.drew = w61 at BK203 BK210 BK211 BK212 HB HO216 hHeld ⊢
                refine pure_ (i := 0) (N := some 81) (v := ?_) (a' := ?_) #[true, false, false, false, false, false, false, false, false] rfl rfl (any_of HT_.out (by kernel_rfl)) (fun _ _ _ h => h) (Or.inl ⟨by rfl, ?_⟩) ?_ ?_
                rotate_left
                ·intro w'
                 go_simp
                 with_reducible rfl
                rotate_left
                ·simp only [Act.put, List.setIfInBounds_toArray, List.set_cons_zero, List.set_cons_succ, i64_w, i32_w]
                 rfl
                refine pure_ (i := 1) (N := some 82) (v := ?_) (a' := ?_) #[true, true, false, false, false, false, false, false, false] rfl rfl (any_of HT_.out (by kernel_rfl)) (fun _ _ _ h => h) (Or.inl ⟨by rfl, ?_⟩) ?_ ?_
                rotate_left
                ·intro w'
                 go_simp
                 with_reducible rfl
                rotate_left
                ·simp only [Act.put, List.setIfInBounds_toArray, List.set_cons_zero, List.set_cons_succ, i64_w, i32_w]
                 rfl
                refine pure_ (i := 2) (N := some 83) (v := ?_) (a' := ?_) #[true, true, true, false, false, false, false, false, false] rfl rfl (any_of HT_.out (by kernel_rfl)) (fun _ _ _ h => h) (Or.inl ⟨by rfl, ?_⟩) ?_ ?_
                rotate_left
                ·intro w'
                 go_simp
                 with_reducible rfl
                rotate_left
                ·simp only [Act.put, List.setIfInBounds_toArray, List.set_cons_zero, List.set_cons_succ, i64_w, i32_w]
                 rfl
                refine pure_ (i := 3) (N := some 84) (v := ?_) (a' := ?_) #[true, true, true, true, false, false, false, false, false] rfl rfl (any_of HT_.out (by kernel_rfl)) (fun _ _ _ h => h) (Or.inl ⟨by rfl, ?_⟩) ?_ ?_
                rotate_left
                ·intro w'
                 go_simp
                 with_reducible rfl
                rotate_left
                ·simp only [Act.put, List.setIfInBounds_toArray, List.set_cons_zero, List.set_cons_succ, i64_w, i32_w]
                 rfl
                refine pure_ (i := 4) (N := some 85) (v := ?_) (a' := ?_) #[true, true, true, true, true, false, false, false, false] rfl rfl (any_of HT_.out (by kernel_rfl)) (fun _ _ _ h => h) (Or.inl ⟨by rfl, ?_⟩) ?_ ?_
                rotate_left
                ·intro w'
                 go_simp
                 with_reducible rfl
                rotate_left
                ·simp only [Act.put, List.setIfInBounds_toArray, List.set_cons_zero, List.set_cons_succ, i64_w, i32_w]
                 rfl
                refine take_ (i := 5) (N := some 86) (v := ?_) (a' := ?_) #[true, true, true, true, true, true, false, false, false] rfl rfl (take_ofW HT_.out HW_.out (by kernel_rfl)) (fun _ _ _ h => h) (Or.inl ⟨by rfl, ?_⟩) hHeld ?_ ?_
                rotate_left
                ·rintro w' ⟨s0, s1, s2⟩
                 go_simp
                 with_reducible rfl
                rotate_left
                ·simp only [Act.put, List.setIfInBounds_toArray, List.set_cons_zero, List.set_cons_succ, i64_w, i32_w]
                 rfl
                refine one_ (i := 6) (N := some 87) #[true, true, true, true, true, true, true, false, false] rfl rfl (one_of HT_.out (by kernel_rfl)) (by decide) (fun K hK => ?_)
                refine value_ (w1 := ?_) (v := ?_) (by rfl) rfl ?_ ?_
                rotate_left 2
                ·go_simp
                 constructor
                 ·rfl
                 ·rfl
                refine hK.out _ _ ⟨(blk_cell (blk_alloc BK212.out _) 0).trans rfl, (blk_cell (blk_alloc BK212.out _) 1).trans rfl, (blk_cell (blk_alloc BK212.out _) 2).trans rfl⟩ (fun hHeld => ?_)
                clear hK K
                refine norm_ (a' := ?_) ?_ ?_
                rotate_left
                ·show Act.put _ (some 87) _ = _
                 simp only [Act.put, List.setIfInBounds_toArray, List.set_cons_zero, List.set_cons_succ, i64_w, i32_w]
                 rfl
                refine one_ (i := 7) (N := some 88) #[true, true, true, true, true, true, true, true, false] rfl rfl (one_of HT_.out (by kernel_rfl)) (by decide) (fun K hK => ?_)
                refine Kd.R_append_step k54 (w0 := w) w.heap.size (by rfl) (.tmp 85) (.tmp 87) 52 54 (.agg #[(.string ⟨#[]⟩), (.bool false), (.int .i64 0)]) 32 rfl Tryd.underlying52 info54 rfl (by decide) (by omega) (.slice (some ad208) y214.length co36) y214 (⟨(((rd_T54 x3_1 (ji20)).f0) ++ (⟨#[124]⟩ : ByteArray)) ++ t213, true, wrap64 ((wrap64 (((rd_T54 x3_1 (ji20)).f2) + ((rd_T54 x3_1 (ji23)).f2))) + 1)⟩ : S54) [.string ((((rd_T54 x3_1 (ji20)).f0) ++ (⟨#[124]⟩ : ByteArray)) ++ t213), .bool true, .int .i64 (wrap64 ((wrap64 (((rd_T54 x3_1 (ji20)).f2) + ((rd_T54 x3_1 (ji23)).f2))) + 1))] (fun k_ => k_ ≠ gb210 ∧ k_ ≠ gb211 ∧ k_ ≠ gb212) (fun _ => False) rfl rfl ?aP (fun _ hk => hk.elim) ?aF ?aO ?aB ?aS ?aL ?_
                (case aP => exact k54_mkM _ _ _ (⟨(((rd_T54 x3_1 (ji20)).f0) ++ (⟨#[124]⟩ : ByteArray)) ++ t213, true, wrap64 ((wrap64 (((rd_T54 x3_1 (ji20)).f2) + ((rd_T54 x3_1 (ji23)).f2))) + 1)⟩ : S54))
                (case aB => exact (by repeat (first | (with_reducible first | exact HB.out | apply below_alloc | apply pw_below_drewN | apply below_drew1 | refine below_set ?_ GE203.out | refine below_set ?_ GE210.out | refine below_set ?_ GE211.out | refine below_set ?_ GE212.out) | exact HB.out)))
                (case aF => exact (fun k_ hk => ⟨Kd.freshB (g := gb210) (o := .cells #[.string ((rd_T54 x3_1 (ji20)).f0), .bool ((rd_T54 x3_1 (ji20)).f1), .int .i64 ((rd_T54 x3_1 (ji20)).f2)] 54 (0, 0)) (bk_ BK210.out) k_ hk, Kd.freshB (g := gb211) (o := .cells #[.string ((rd_T54 x3_1 (ji23)).f0), .bool ((rd_T54 x3_1 (ji23)).f1), .int .i64 ((rd_T54 x3_1 (ji23)).f2)] 54 (0, 0)) (bk_ BK211.out) k_ hk, Kd.freshB (g := gb212) (o := .cells #[.string ((((rd_T54 x3_1 (ji20)).f0) ++ (⟨#[124]⟩ : ByteArray)) ++ t213), .bool true, .int .i64 (wrap64 ((wrap64 (((rd_T54 x3_1 (ji20)).f2) + ((rd_T54 x3_1 (ji23)).f2))) + 1))] 54 (0, 0)) (bk_ BK212.out) k_ hk⟩))
                (case aO => exact (r_ HO216.out))
                (case aS => exact (below_size (by repeat (first | (with_reducible first | exact HB.out | apply below_alloc | apply pw_below_drewN | apply below_drew1 | refine below_set ?_ GE203.out | refine below_set ?_ GE210.out | refine below_set ?_ GE211.out | refine below_set ?_ GE212.out) | exact HB.out))))
                (case aL => have := LMc31.out; omega)
                intro v218 w63 ho hb hg hat
                rw [← Ny217.out] at ho
                have n0_ := Aside0.mk (blk_grown (g := gb203) (o := .cells #[.int .i64 ((rd_T41 l0 x12_1).f0), .int .i64 ((rd_T41 l0 x12_1).f1), .int .i64 ((rd_T41 l0 x12_1).f2)] 41 (0, 0)) (bk_ BK203.out) hg (Kd.R_ne HO216.out BK203.out (by decide))); have n1_ := Aside0.mk (blk_grown (g := gb210) (o := .cells #[.string ((rd_T54 x3_1 (ji20)).f0), .bool ((rd_T54 x3_1 (ji20)).f1), .int .i64 ((rd_T54 x3_1 (ji20)).f2)] 54 (0, 0)) (bk_ BK210.out) hg (Kd.R_away HO216.out (fun _ hk => hk.1))); have n2_ := Aside0.mk (blk_grown (g := gb211) (o := .cells #[.string ((rd_T54 x3_1 (ji23)).f0), .bool ((rd_T54 x3_1 (ji23)).f1), .int .i64 ((rd_T54 x3_1 (ji23)).f2)] 54 (0, 0)) (bk_ BK211.out) hg (Kd.R_away HO216.out (fun _ hk => hk.2.1))); have n3_ := Aside0.mk (blk_grown (g := gb212) (o := .cells #[.string ((((rd_T54 x3_1 (ji20)).f0) ++ (⟨#[124]⟩ : ByteArray)) ++ t213), .bool true, .int .i64 (wrap64 ((wrap64 (((rd_T54 x3_1 (ji20)).f2) + ((rd_T54 x3_1 (ji23)).f2))) + 1))] 54 (0, 0)) (bk_ BK212.out) hg (Kd.R_away HO216.out (fun _ hk => hk.2.2))); have n4_ := Aside0.mk (hb); have n5_ := Aside0.mk (ho); clear BK203 BK210 BK211 BK212 HB HO216; have BK203 := n0_; have BK210 := n1_; have BK211 := n2_; have BK212 := n3_; have HB := n4_; have HO219 := n5_; clear n0_ n1_ n2_ n3_ n4_ n5_ ho hb hg hat
                refine hK.out _ _ ⟨(blk_cell BK212.out 0).trans rfl, (blk_cell BK212.out 1).trans rfl, (blk_cell BK212.out 2).trans rfl⟩ (fun hHeld => ?_)
                clear hK K
                refine norm_ (a' := ?_) ?_ ?_
                rotate_left
                ·show Act.put _ (some 88) _ = _
                 simp only [Act.put, List.setIfInBounds_toArray, List.set_cons_zero, List.set_cons_succ, i64_w, i32_w]
                 rfl
                refine pure_ (i := 8) (N := some 3) (v := ?_) (a' := ?_) #[true, true, true, true, true, true, true, true, true] rfl rfl (any_of HT_.out (by kernel_rfl)) (fun _ _ _ h => h) (Or.inl ⟨by rfl, ?_⟩) ?_ ?_
                rotate_left
                ·intro w'
                 go_simp
                 with_reducible rfl
                rotate_left
                ·simp only [Act.put, List.setIfInBounds_toArray, List.set_cons_zero, List.set_cons_succ, i64_w, i32_w]
                 rfl
                refine done_ (done_of HT_.out (by kernel_rfl)) ?_
                try go_wp2
                go_roundg k1
                case measure => have := HK1.out; omega
                case rel => exact ⟨(y217), (wrap64 (x12_1 + 1)), si_, H', ⟨by have := HK1.out; omega⟩, ⟨by (with_reducible repeat (first | apply Kd.R_alloc | apply Kd.R_drewN | apply Kd.R_drew)); exact Kd.R_mono HO219.out (fun _ hk => trivial)⟩, ⟨by repeat (first | (with_reducible first | exact HB.out | apply below_alloc | apply pw_below_drewN | apply below_drew1 | refine below_set ?_ GE203.out | refine below_set ?_ GE210.out | refine below_set ?_ GE211.out | refine below_set ?_ GE212.out) | exact HB.out)⟩⟩
               ·rw [if_neg c31] at H
                exact absurd H (by simp)
              ·rw [if_neg c30] at H
               exact absurd H (by simp)
             ·rw [if_neg c29] at H
              exact absurd H (by simp)
            ·rw [if_neg c27] at H
             exact absurd H (by simp)
           ·rw [if_neg c26] at H
            have c26b0 : (((rd_T41 l0 x12_1).f0) == 2) = false := beq_eq_false_iff_ne.mpr c26; have c26b1 : (((rd_T41 l0 x12_1).f0) != 2) = true := bne_iff_ne.mpr c26; rw [c26b0] at H; replace H := Option.bind_eq_some_iff.mp H; obtain ⟨t220, A640, H⟩ := H
            try dsimp only at H
            have A64 := Aside0.mk A640; clear A640
            by_cases c65 : t220.size + 1 ≤ 9223372036854775807
            ·rw [if_pos c65] at H
             have c65b0 := eq_true c65; have c65b1 : decide (t220.size + 1 ≤ 9223372036854775807) = true := decide_eq_true c65
             try have c65b2 : (9223372036854775807 < t220.size + 1) = False := eq_false (Nat.not_lt.2 c65)
             replace H := Option.bind_eq_some_iff.mp H; obtain ⟨t221, A660, H⟩ := H
             try dsimp only at H
             have A66 := Aside0.mk A660; clear A660
             by_cases c67 : (t220 ++ (⟨#[38]⟩ : ByteArray)).size + t221.size ≤ 9223372036854775807
             ·rw [if_pos c67] at H
              have c67b0 := eq_true c67; have c67b1 : decide ((t220 ++ (⟨#[38]⟩ : ByteArray)).size + t221.size ≤ 9223372036854775807) = true := decide_eq_true c67
              try have c67b2 : (9223372036854775807 < (t220 ++ (⟨#[38]⟩ : ByteArray)).size + t221.size) = False := eq_false (Nat.not_lt.2 c67)
              try have c67b3 : (9223372036854775807 < t220.size + 1 + t221.size) = False := eq_false (Nat.not_lt.2 (by have h_ := c67; simp only [ByteArray.size_append] at h_; exact h_))
              try have c67b4 : (t220.size + 1 + t221.size ≤ 9223372036854775807) = True := eq_true (by have h_ := c67; simp only [ByteArray.size_append] at h_; exact h_)
              by_cases c68 : (ji20) ≤ (x3_1.length : Int)
              ·rw [if_pos c68] at H
               have c68b0 := eq_true c68; have c68b1 : decide ((ji20) ≤ (x3_1.length : Int)) = true := decide_eq_true c68; clear c68; obtain ⟨y222, hy222⟩ : ∃ y_ : List (S54), y_ = (x3_1.take ((ji20) : Int).toNat) := ⟨_, rfl⟩
               replace H : (if y222.length < 4398046511104 then (impl_termText.l0 k1 (y222 ++ [(⟨(t220 ++ (⟨#[38]⟩ : ByteArray)) ++ t221, false, wrap64 ((wrap64 (((rd_T54 x3_1 (ji20)).f2) + ((rd_T54 x3_1 (ji23)).f2))) + 1)⟩ : S54)]) l0 (l0.length : Int) (wrap64 (x12_1 + 1))) else (none)) = some r := by first | (rw [hy222]; with_reducible exact H) | (have H2_ := (Option.bind_some _ _).symm.trans H; rw [hy222]; with_reducible exact H2_) | (have H2_ := (Option.bind_some _ _).symm.trans H; with_reducible exact H2_) | with_reducible exact H | (rw [hy222]; exact H) | exact H
               have Ny222 := Aside0.mk hy222; clear hy222
               by_cases c69 : y222.length < 4398046511104
               ·rw [if_pos c69] at H
                have LMc69 := Aside0.mk c69; clear c69; obtain ⟨y225, hy225⟩ : ∃ y_ : List (S54), y_ = (y222 ++ [(⟨(t220 ++ (⟨#[38]⟩ : ByteArray)) ++ t221, false, wrap64 ((wrap64 (((rd_T54 x3_1 (ji20)).f2) + ((rd_T54 x3_1 (ji23)).f2))) + 1)⟩ : S54)]) := ⟨_, rfl⟩
                replace H : (impl_termText.l0 k1 y225 l0 (l0.length : Int) (wrap64 (x12_1 + 1))) = some r := by first | (rw [hy225]; with_reducible exact H) | (have H2_ := (Option.bind_some _ _).symm.trans H; rw [hy225]; with_reducible exact H2_) | (have H2_ := (Option.bind_some _ _).symm.trans H; with_reducible exact H2_) | with_reducible exact H | (rw [hy225]; exact H) | exact H
                have Ny225 := Aside0.mk hy225; clear hy225; have H' := Aside0.mk H; clear H; have p202 : 0 ≤ (x12_1 : Int) := of_decide_eq_true as_; have q202 : x12_1 < (l0.length : Int) := of_decide_eq_true as_; obtain ⟨ad202, e202, hx202_0, hx202_1, hx202_2⟩ := at_T41 HR0.out x12_1 p202 q202; cases e202; replace hx202_0 := (HB.out.cell (World.block_lt_of_cell? w _ hx202_0)).trans hx202_0; replace hx202_1 := (HB.out.cell (World.block_lt_of_cell? w _ hx202_1)).trans hx202_1; replace hx202_2 := (HB.out.cell (World.block_lt_of_cell? w _ hx202_2)).trans hx202_2; replace p202 := eq_true p202; replace q202 := eq_true q202
                try go_wp2_with (first | ((with_reducible refine gate_dst (N := 5) rfl ?_); refine box_event ?hg (N := 5) ?hd (cs := #[.int .i64 0, .int .i64 0, .int .i64 0]) (t := 41) ?hr ?_; (case hd => rfl); (case hg => rfl); (case hr => first | (go_simp; done) | (go_simp; rfl)); intro gb203 hg w70 hbox hb; have n0_ := Aside0.mk (Kd.R_below (r_ HO_3.out) hb); have n1_ := Aside0.mk (below_step (bl_ HB.out) hb); have n2_ := Aside0.mk (hbox); have n3_ := Aside0.mk ((by rw [hg]; exact (below_size (bl_ HB.out)) : w.heap.size ≤ gb203)); have n4_ := Aside0.mk ((by rw [hg]; exact (below_size (bl_ HB.out)) : w.heap.size ≤ gb203)); clear HO_3; clear HB; have HO_3 := n0_; have HB := n1_; have BK203 := n2_; have GW203 := n3_; have GE203 := n4_; clear n0_ n1_ n2_ n3_ n4_; clear hb hbox hg; have hcz71_0 : w70.cell? ⟨gb203, 0, none⟩ = some (.int .i64 0) := (blk_cell BK203.out 0).trans rfl; have hcz71_1 : w70.cell? ⟨gb203, 1, none⟩ = some (.int .i64 0) := (blk_cell BK203.out 1).trans rfl; have hcz71_2 : w70.cell? ⟨gb203, 2, none⟩ = some (.int .i64 0) := (blk_cell BK203.out 2).trans rfl; have hfz71_0 := blk_frozen BK203.out 0; have hfz71_1 := blk_frozen BK203.out 1; have hfz71_2 := blk_frozen BK203.out 2))
                have n0_ : Aside0 (Kd.R k54 54 (((w70.setCell ⟨gb203, 0, none⟩ (.int .i64 ((rd_T41 l0 x12_1).f0))).setCell ⟨gb203, 1, none⟩ (.int .i64 ((rd_T41 l0 x12_1).f1))).setCell ⟨gb203, 2, none⟩ (.int .i64 ((rd_T41 l0 x12_1).f2))) w.heap.size (fun _ => True) u3 x3_1) := ⟨by (with_reducible repeat (first | apply Kd.R_alloc | apply Kd.R_drewN | apply Kd.R_drew)); exact Kd.R_mono (Kd.R_far (p := ⟨gb203, 2, none⟩) (Kd.R_far (p := ⟨gb203, 1, none⟩) (Kd.R_far (p := ⟨gb203, 0, none⟩) (Kd.R_types HO_3.out BK203.out (by decide)) (fun _ hk => hk.2) (.int .i64 ((rd_T41 l0 x12_1).f0))) (fun _ hk => hk.2) (.int .i64 ((rd_T41 l0 x12_1).f1))) (fun _ hk => hk.2) (.int .i64 ((rd_T41 l0 x12_1).f2))) (fun _ hk => trivial)⟩; have n1_ : Aside0 ((((w70.setCell ⟨gb203, 0, none⟩ (.int .i64 ((rd_T41 l0 x12_1).f0))).setCell ⟨gb203, 1, none⟩ (.int .i64 ((rd_T41 l0 x12_1).f1))).setCell ⟨gb203, 2, none⟩ (.int .i64 ((rd_T41 l0 x12_1).f2))).heap[gb203]? = some (.cells #[.int .i64 ((rd_T41 l0 x12_1).f0), .int .i64 ((rd_T41 l0 x12_1).f1), .int .i64 ((rd_T41 l0 x12_1).f2)] 41 (0, 0))) := ⟨by (with_reducible repeat (first | refine blk_drewN ?_ _ | refine blk_drew ?_ | refine blk_alloc ?_ _)); refine blk_put (cs := #[.int .i64 ((rd_T41 l0 x12_1).f0), .int .i64 ((rd_T41 l0 x12_1).f1), .int .i64 0]) ?_ 2 _ rfl; (with_reducible repeat (first | refine blk_drewN ?_ _ | refine blk_drew ?_ | refine blk_alloc ?_ _)); refine blk_put (cs := #[.int .i64 ((rd_T41 l0 x12_1).f0), .int .i64 0, .int .i64 0]) ?_ 1 _ rfl; (with_reducible repeat (first | refine blk_drewN ?_ _ | refine blk_drew ?_ | refine blk_alloc ?_ _)); refine blk_put (cs := #[.int .i64 0, .int .i64 0, .int .i64 0]) ?_ 0 _ rfl; (with_reducible repeat (first | refine blk_drewN ?_ _ | refine blk_drew ?_ | refine blk_alloc ?_ _)); exact BK203.out⟩; have n2_ : Aside0 (Below w.heap.size w (((w70.setCell ⟨gb203, 0, none⟩ (.int .i64 ((rd_T41 l0 x12_1).f0))).setCell ⟨gb203, 1, none⟩ (.int .i64 ((rd_T41 l0 x12_1).f1))).setCell ⟨gb203, 2, none⟩ (.int .i64 ((rd_T41 l0 x12_1).f2)))) := ⟨bs_ HB.out GE203.out⟩
                (try clear HO_3)
                (try clear BK203)
                (try clear HB)
                generalize (((w70.setCell ⟨gb203, 0, none⟩ (.int .i64 ((rd_T41 l0 x12_1).f0))).setCell ⟨gb203, 1, none⟩ (.int .i64 ((rd_T41 l0 x12_1).f1))).setCell ⟨gb203, 2, none⟩ (.int .i64 ((rd_T41 l0 x12_1).f2))) = w72 at n0_ n1_ n2_ ⊢
                have HO_3 := n0_; have BK203 := n1_; have HB := n2_; clear n0_ n1_ n2_; have n0_ := Aside0.mk (Kd.R_drew HO_3.out); have n1_ := Aside0.mk (blk_drew BK203.out); have n2_ := Aside0.mk (below_drew1 HB.out); clear HO_3 BK203 HB; have HO_3 := n0_; have BK203 := n1_; have HB := n2_; clear n0_ n1_ n2_; obtain ⟨Ao74, co74, eo74⟩ := Kd.R_slice HO_3.out
                (first | subst eo74 | (injection eo74 with f1_ f2_ f3_; have f4_ := f1_.symm; have f5_ := f3_.symm; clear f1_ f2_ f3_; subst f4_; subst f5_))
                have p208 : 0 ≤ ((ji20) : Int) := of_decide_eq_true as_; have q208 : (ji20) < (x3_1.length : Int) := of_decide_eq_true as_; obtain ⟨ad208, e208, hx208_0, hx208_1, hx208_2⟩ := at_T54 (Kd.R_reads' HO_3.out).2.2 (ji20) p208 q208; cases e208; replace p208 := eq_true p208; replace q208 := eq_true q208; have p209 : 0 ≤ ((ji23) : Int) := of_decide_eq_true as_; have q209 : (ji23) < (x3_1.length : Int) := of_decide_eq_true as_; obtain ⟨ad209, e209, hx209_0, hx209_1, hx209_2⟩ := at_T54 (Kd.R_reads' HO_3.out).2.2 (ji23) p209 q209; obtain rfl : ad208 = ad209 := (by injection e209); replace p209 := eq_true p209; replace q209 := eq_true q209
                refine start_ (n := 16) (S := fun w' => w'.cell? (ad208.add (((ji20)).toNat * 3)) = some (.string ((rd_T54 x3_1 (ji20)).f0)) ∧ w'.cell? ⟨(ad208.add (((ji20)).toNat * 3)).block, (ad208.add (((ji20)).toNat * 3)).off + 1, none⟩ = some (.bool ((rd_T54 x3_1 (ji20)).f1)) ∧ w'.cell? ⟨(ad208.add (((ji20)).toNat * 3)).block, (ad208.add (((ji20)).toNat * 3)).off + 2, none⟩ = some (.int .i64 ((rd_T54 x3_1 (ji20)).f2)) ∧ w'.cell? (ad208.add (((ji23)).toNat * 3)) = some (.string ((rd_T54 x3_1 (ji23)).f0)) ∧ w'.cell? ⟨(ad208.add (((ji23)).toNat * 3)).block, (ad208.add (((ji23)).toNat * 3)).off + 1, none⟩ = some (.bool ((rd_T54 x3_1 (ji23)).f1)) ∧ w'.cell? ⟨(ad208.add (((ji23)).toNat * 3)).block, (ad208.add (((ji23)).toNat * 3)).off + 2, none⟩ = some (.int .i64 ((rd_T54 x3_1 (ji23)).f2))) (ds := []) #[false, false, false, false, false, false, false, false, false, false, false, false, false, false, false, false] (by kernel_rfl) rfl rfl ⟨hx208_0, hx208_1, hx208_2, hx209_0, hx209_1, hx209_2⟩ (fun hHeld => ?_); refine with_tabW impl_termText.tab7 impl_termText.bits7 (fun HT_ HW_ => ?_)
                generalize w72.drew = w73 at HO_3 BK203 HB hx208_0 hx208_1 hx208_2 hx209_0 hx209_1 hx209_2 hHeld ⊢
                refine pure_ (i := 0) (N := some 33) (v := ?_) (a' := ?_) #[true, false, false, false, false, false, false, false, false, false, false, false, false, false, false, false] rfl rfl (any_of HT_.out (by kernel_rfl)) (fun _ _ _ h => h) (Or.inl ⟨by rfl, ?_⟩) ?_ ?_
                rotate_left
                ·intro w'
                 go_simp
                 with_reducible rfl
                rotate_left
                ·simp only [Act.put, List.setIfInBounds_toArray, List.set_cons_zero, List.set_cons_succ, i64_w, i32_w]
                 rfl
                refine pure_ (i := 1) (N := some 34) (v := ?_) (a' := ?_) #[true, true, false, false, false, false, false, false, false, false, false, false, false, false, false, false] rfl rfl (any_of HT_.out (by kernel_rfl)) (fun _ _ _ h => h) (Or.inl ⟨by rfl, ?_⟩) ?_ ?_
                rotate_left
                ·intro w'
                 go_simp
                 with_reducible rfl
                rotate_left
                ·simp only [Act.put, List.setIfInBounds_toArray, List.set_cons_zero, List.set_cons_succ, i64_w, i32_w]
                 rfl
                refine pure_ (i := 2) (N := some 35) (v := ?_) (a' := ?_) #[true, true, true, false, false, false, false, false, false, false, false, false, false, false, false, false] rfl rfl (any_of HT_.out (by kernel_rfl)) (fun _ _ _ h => h) (Or.inl ⟨by rfl, ?_⟩) ?_ ?_
                rotate_left
                ·intro w'
                 go_simp
                 with_reducible rfl
                rotate_left
                ·simp only [Act.put, List.setIfInBounds_toArray, List.set_cons_zero, List.set_cons_succ, i64_w, i32_w]
                 rfl
                refine pure_ (i := 3) (N := some 36) (v := ?_) (a' := ?_) #[true, true, true, true, false, false, false, false, false, false, false, false, false, false, false, false] rfl rfl (any_of HT_.out (by kernel_rfl)) (fun _ _ _ h => h) (Or.inl ⟨by rfl, ?_⟩) ?_ ?_
                rotate_left
                ·intro w'
                 go_simp
                 with_reducible rfl
                rotate_left
                ·simp only [Act.put, List.setIfInBounds_toArray, List.set_cons_zero, List.set_cons_succ, i64_w, i32_w]
                 rfl
                refine pure_ (i := 4) (N := some 37) (v := ?_) (a' := ?_) #[true, true, true, true, true, false, false, false, false, false, false, false, false, false, false, false] rfl rfl (any_of HT_.out (by kernel_rfl)) (fun _ _ _ h => h) (Or.inl ⟨by rfl, ?_⟩) ?_ ?_
                rotate_left
                ·intro w'
                 go_simp
                 with_reducible rfl
                rotate_left
                ·simp only [Act.put, List.setIfInBounds_toArray, List.set_cons_zero, List.set_cons_succ, i64_w, i32_w]
                 rfl
                refine pure_ (i := 6) (N := some 39) (v := ?_) (a' := ?_) #[true, true, true, true, true, false, true, false, false, false, false, false, false, false, false, false] rfl rfl (any_of HT_.out (by kernel_rfl)) (fun _ _ _ h => h) (Or.inl ⟨by rfl, ?_⟩) ?_ ?_
                rotate_left
                ·intro w'
                 go_simp
                 with_reducible rfl
                rotate_left
                ·simp only [Act.put, List.setIfInBounds_toArray, List.set_cons_zero, List.set_cons_succ, i64_w, i32_w]
                 rfl
                refine pure_ (i := 7) (N := some 40) (v := ?_) (a' := ?_) #[true, true, true, true, true, false, true, true, false, false, false, false, false, false, false, false] rfl rfl (any_of HT_.out (by kernel_rfl)) (fun _ _ _ h => h) (Or.inl ⟨by rfl, ?_⟩) ?_ ?_
                rotate_left
                ·intro w'
                 go_simp
                 with_reducible rfl
                rotate_left
                ·simp only [Act.put, List.setIfInBounds_toArray, List.set_cons_zero, List.set_cons_succ, i64_w, i32_w]
                 rfl
                refine pure_ (i := 8) (N := some 41) (v := ?_) (a' := ?_) #[true, true, true, true, true, false, true, true, true, false, false, false, false, false, false, false] rfl rfl (any_of HT_.out (by kernel_rfl)) (fun _ _ _ h => h) (Or.inl ⟨by rfl, ?_⟩) ?_ ?_
                rotate_left
                ·intro w'
                 go_simp
                 with_reducible rfl
                rotate_left
                ·simp only [Act.put, List.setIfInBounds_toArray, List.set_cons_zero, List.set_cons_succ, i64_w, i32_w]
                 rfl
                refine pure_ (i := 9) (N := some 42) (v := ?_) (a' := ?_) #[true, true, true, true, true, false, true, true, true, true, false, false, false, false, false, false] rfl rfl (any_of HT_.out (by kernel_rfl)) (fun _ _ _ h => h) (Or.inl ⟨by rfl, ?_⟩) ?_ ?_
                rotate_left
                ·intro w'
                 go_simp
                 with_reducible rfl
                rotate_left
                ·simp only [Act.put, List.setIfInBounds_toArray, List.set_cons_zero, List.set_cons_succ, i64_w, i32_w]
                 rfl
                refine pure_ (i := 10) (N := some 43) (v := ?_) (a' := ?_) #[true, true, true, true, true, false, true, true, true, true, true, false, false, false, false, false] rfl rfl (any_of HT_.out (by kernel_rfl)) (fun _ _ _ h => h) (Or.inl ⟨by rfl, ?_⟩) ?_ ?_
                rotate_left
                ·intro w'
                 go_simp
                 with_reducible rfl
                rotate_left
                ·simp only [Act.put, List.setIfInBounds_toArray, List.set_cons_zero, List.set_cons_succ, i64_w, i32_w]
                 rfl
                refine take_ (i := 5) (N := some 38) (v := ?_) (a' := ?_) #[true, true, true, true, true, true, true, true, true, true, true, false, false, false, false, false] rfl rfl (take_ofW HT_.out HW_.out (by kernel_rfl)) (fun _ _ _ h => h) (Or.inl ⟨by rfl, ?_⟩) hHeld ?_ ?_
                rotate_left
                ·rintro w' ⟨s0, s1, s2, s3, s4, s5⟩
                 go_simp
                 with_reducible rfl
                rotate_left
                ·simp only [Act.put, List.setIfInBounds_toArray, List.set_cons_zero, List.set_cons_succ, i64_w, i32_w]
                 rfl
                refine take_ (i := 11) (N := some 44) (v := ?_) (a' := ?_) #[true, true, true, true, true, true, true, true, true, true, true, true, false, false, false, false] rfl rfl (take_ofW HT_.out HW_.out (by kernel_rfl)) (fun _ _ _ h => h) (Or.inl ⟨by rfl, ?_⟩) hHeld ?_ ?_
                rotate_left
                ·rintro w' ⟨s0, s1, s2, s3, s4, s5⟩
                 go_simp
                 with_reducible rfl
                rotate_left
                ·simp only [Act.put, List.setIfInBounds_toArray, List.set_cons_zero, List.set_cons_succ, i64_w, i32_w]
                 rfl
                refine join_ (σ := Nat × Nat) 2 #[true, true, true, true, true, true, true, true, true, true, true, true, true, true, false, false] (fun s_ => [(6, .pointer (some ⟨s_.1, 0, none⟩)), (7, .pointer (some ⟨s_.2, 0, none⟩))]) (fun s_ w' => (w'.cell? (ad208.add (((ji20)).toNat * 3)) = some (.string ((rd_T54 x3_1 (ji20)).f0)) ∧ w'.cell? ⟨(ad208.add (((ji20)).toNat * 3)).block, (ad208.add (((ji20)).toNat * 3)).off + 1, none⟩ = some (.bool ((rd_T54 x3_1 (ji20)).f1)) ∧ w'.cell? ⟨(ad208.add (((ji20)).toNat * 3)).block, (ad208.add (((ji20)).toNat * 3)).off + 2, none⟩ = some (.int .i64 ((rd_T54 x3_1 (ji20)).f2)) ∧ w'.cell? (ad208.add (((ji23)).toNat * 3)) = some (.string ((rd_T54 x3_1 (ji23)).f0)) ∧ w'.cell? ⟨(ad208.add (((ji23)).toNat * 3)).block, (ad208.add (((ji23)).toNat * 3)).off + 1, none⟩ = some (.bool ((rd_T54 x3_1 (ji23)).f1)) ∧ w'.cell? ⟨(ad208.add (((ji23)).toNat * 3)).block, (ad208.add (((ji23)).toNat * 3)).off + 2, none⟩ = some (.int .i64 ((rd_T54 x3_1 (ji23)).f2))) ∧ (Kd.R k54 54 w' w.heap.size (fun k_ => k_ ≠ s_.1 ∧ k_ ≠ s_.2) (.slice (some ad208) x3_1.length co74) x3_1) ∧ (w'.heap[gb203]? = some (.cells #[.int .i64 ((rd_T41 l0 x12_1).f0), .int .i64 ((rd_T41 l0 x12_1).f1), .int .i64 ((rd_T41 l0 x12_1).f2)] 41 (0, 0))) ∧ (w'.heap[s_.1]? = some (.cells #[.string (⟨#[]⟩ : ByteArray), .bool false, .int .i64 0] 54 (0, 0))) ∧ (w'.heap[s_.2]? = some (.cells #[.string (⟨#[]⟩ : ByteArray), .bool false, .int .i64 0] 54 (0, 0))) ∧ (w.heap.size ≤ s_.1) ∧ (w.heap.size ≤ s_.1) ∧ (gb203 ≠ s_.1) ∧ (s_.1 ≠ gb203) ∧ (s_.2 ≠ s_.1) ∧ (s_.1 ≠ s_.2) ∧ (w.heap.size ≤ s_.2) ∧ (w.heap.size ≤ s_.2) ∧ (gb203 ≠ s_.2) ∧ (s_.2 ≠ gb203) ∧ (Below w.heap.size w w')) ?_ ?_
                rotate_left
                ·intro hCont
                 refine two_ (i := 12) (j := 13) (Ni := some 6) (Nj := some 7) #[true, true, true, true, true, true, true, true, true, true, true, true, true, false, false, false] #[true, true, true, true, true, true, true, true, true, true, true, true, false, true, false, false] rfl rfl rfl rfl (two_of HT_.out (by kernel_rfl)) (by decide) (by decide) (fun K hK => ?_) (fun K hK => ?_)
                 ·skip
                  refine box_step ?hg (N := 6) ?hd (cs := #[.string (⟨#[]⟩ : ByteArray), .bool false, .int .i64 0]) (t := 54) ?hr ?_; (case hd => rfl); (case hg => rfl); (case hr => first | (go_simp; done) | (go_simp; rfl))
                  intro gb210 hg w75 hbox hb; have HS0_ := (hb.cell (World.block_lt_of_cell? _ _ (hHeld.1))).trans (hHeld.1); have HS1_ := (hb.cell (World.block_lt_of_cell? _ _ (hHeld.2.1))).trans (hHeld.2.1); have HS2_ := (hb.cell (World.block_lt_of_cell? _ _ (hHeld.2.2.1))).trans (hHeld.2.2.1); have HS3_ := (hb.cell (World.block_lt_of_cell? _ _ (hHeld.2.2.2.1))).trans (hHeld.2.2.2.1); have HS4_ := (hb.cell (World.block_lt_of_cell? _ _ (hHeld.2.2.2.2.1))).trans (hHeld.2.2.2.2.1); have HS5_ := (hb.cell (World.block_lt_of_cell? _ _ (hHeld.2.2.2.2.2))).trans (hHeld.2.2.2.2.2); have n0_ := Aside0.mk (Kd.R_below (Kd.R_elderB (r_ HO_3.out) gb210 (Nat.le_of_eq hg.symm)) hb); have n1_ := Aside0.mk (blk_below (g := gb203) (o := .cells #[.int .i64 ((rd_T41 l0 x12_1).f0), .int .i64 ((rd_T41 l0 x12_1).f1), .int .i64 ((rd_T41 l0 x12_1).f2)] 41 (0, 0)) (bk_ BK203.out) hb); have n2_ := Aside0.mk (below_step (bs_ HB.out GE203.out) hb); have n3_ := Aside0.mk (hbox); have n4_ := Aside0.mk ((by rw [hg]; exact (below_size (bs_ HB.out GE203.out)) : w.heap.size ≤ gb210)); have n5_ := Aside0.mk ((by rw [hg]; exact (below_size (bs_ HB.out GE203.out)) : w.heap.size ≤ gb210)); have n6_ := Aside0.mk ((by rw [hg]; exact Nat.ne_of_lt (blk_lt (g := gb203) (o := .cells #[.int .i64 ((rd_T41 l0 x12_1).f0), .int .i64 ((rd_T41 l0 x12_1).f1), .int .i64 ((rd_T41 l0 x12_1).f2)] 41 (0, 0)) (bk_ BK203.out)) : gb203 ≠ gb210)); have n7_ := Aside0.mk ((by rw [hg]; exact Nat.ne_of_gt (blk_lt (g := gb203) (o := .cells #[.int .i64 ((rd_T41 l0 x12_1).f0), .int .i64 ((rd_T41 l0 x12_1).f1), .int .i64 ((rd_T41 l0 x12_1).f2)] 41 (0, 0)) (bk_ BK203.out)) : gb210 ≠ gb203)); clear HO_3 BK203 HB; have HO_3 := n0_; have BK203 := n1_; have HB := n2_; have BK210 := n3_; have GW210 := n4_; have GE210 := n5_; have NB203_210 := n6_; have NB210_203 := n7_; clear n0_ n1_ n2_ n3_ n4_ n5_ n6_ n7_ hb hbox hg
                  refine hK.out _ _ ⟨HS0_, HS1_, HS2_, HS3_, HS4_, HS5_⟩ (fun hHeld => ?_)
                  clear hK K
                  refine norm_ (a' := ?_) ?_ ?_
                  rotate_left
                  ·show Act.put _ (some 6) _ = _
                   simp only [Act.put, List.setIfInBounds_toArray, List.set_cons_zero, List.set_cons_succ, i64_w, i32_w]
                   rfl
                  refine one_ (i := 13) (N := some 7) #[true, true, true, true, true, true, true, true, true, true, true, true, true, true, false, false] rfl rfl (one_of HT_.out (by kernel_rfl)) (by decide) (fun K hK => ?_)
                  refine box_step ?hg (N := 7) ?hd (cs := #[.string (⟨#[]⟩ : ByteArray), .bool false, .int .i64 0]) (t := 54) ?hr ?_; (case hd => rfl); (case hg => rfl); (case hr => first | (go_simp; done) | (go_simp; rfl))
                  intro gb211 hg w76 hbox hb; have HS0_ := (hb.cell (World.block_lt_of_cell? _ _ (hHeld.1))).trans (hHeld.1); have HS1_ := (hb.cell (World.block_lt_of_cell? _ _ (hHeld.2.1))).trans (hHeld.2.1); have HS2_ := (hb.cell (World.block_lt_of_cell? _ _ (hHeld.2.2.1))).trans (hHeld.2.2.1); have HS3_ := (hb.cell (World.block_lt_of_cell? _ _ (hHeld.2.2.2.1))).trans (hHeld.2.2.2.1); have HS4_ := (hb.cell (World.block_lt_of_cell? _ _ (hHeld.2.2.2.2.1))).trans (hHeld.2.2.2.2.1); have HS5_ := (hb.cell (World.block_lt_of_cell? _ _ (hHeld.2.2.2.2.2))).trans (hHeld.2.2.2.2.2); have n0_ := Aside0.mk (Kd.R_below (Kd.R_elderB (r_ HO_3.out) gb211 (Nat.le_of_eq hg.symm)) hb); have n1_ := Aside0.mk (blk_below (g := gb203) (o := .cells #[.int .i64 ((rd_T41 l0 x12_1).f0), .int .i64 ((rd_T41 l0 x12_1).f1), .int .i64 ((rd_T41 l0 x12_1).f2)] 41 (0, 0)) (bk_ BK203.out) hb); have n2_ := Aside0.mk (blk_below (g := gb210) (o := .cells #[.string (⟨#[]⟩ : ByteArray), .bool false, .int .i64 0] 54 (0, 0)) (bk_ BK210.out) hb); have n3_ := Aside0.mk (below_step (bt_ HB.out GE203.out GE210.out) hb); have n4_ := Aside0.mk (hbox); have n5_ := Aside0.mk ((by rw [hg]; exact (below_size (bt_ HB.out GE203.out GE210.out)) : w.heap.size ≤ gb211)); have n6_ := Aside0.mk ((by rw [hg]; exact (below_size (bt_ HB.out GE203.out GE210.out)) : w.heap.size ≤ gb211)); have n7_ := Aside0.mk ((by rw [hg]; exact Nat.ne_of_lt (blk_lt (g := gb203) (o := .cells #[.int .i64 ((rd_T41 l0 x12_1).f0), .int .i64 ((rd_T41 l0 x12_1).f1), .int .i64 ((rd_T41 l0 x12_1).f2)] 41 (0, 0)) (bk_ BK203.out)) : gb203 ≠ gb211)); have n8_ := Aside0.mk ((by rw [hg]; exact Nat.ne_of_gt (blk_lt (g := gb203) (o := .cells #[.int .i64 ((rd_T41 l0 x12_1).f0), .int .i64 ((rd_T41 l0 x12_1).f1), .int .i64 ((rd_T41 l0 x12_1).f2)] 41 (0, 0)) (bk_ BK203.out)) : gb211 ≠ gb203)); have n9_ := Aside0.mk ((by rw [hg]; exact Nat.ne_of_lt (blk_lt (g := gb210) (o := .cells #[.string (⟨#[]⟩ : ByteArray), .bool false, .int .i64 0] 54 (0, 0)) (bk_ BK210.out)) : gb210 ≠ gb211)); have n10_ := Aside0.mk ((by rw [hg]; exact Nat.ne_of_gt (blk_lt (g := gb210) (o := .cells #[.string (⟨#[]⟩ : ByteArray), .bool false, .int .i64 0] 54 (0, 0)) (bk_ BK210.out)) : gb211 ≠ gb210)); clear HO_3 BK203 BK210 HB; have HO_3 := n0_; have BK203 := n1_; have BK210 := n2_; have HB := n3_; have BK211 := n4_; have GW211 := n5_; have GE211 := n6_; have NB203_211 := n7_; have NB211_203 := n8_; have NB210_211 := n9_; have NB211_210 := n10_; clear n0_ n1_ n2_ n3_ n4_ n5_ n6_ n7_ n8_ n9_ n10_ hb hbox hg
                  refine hK.out _ _ ⟨HS0_, HS1_, HS2_, HS3_, HS4_, HS5_⟩ (fun hHeld => ?_)
                  clear hK K
                  refine norm_ (a' := ?_) ?_ ?_
                  rotate_left
                  ·show Act.put _ (some 7) _ = _
                   simp only [Act.put, List.setIfInBounds_toArray, List.set_cons_zero, List.set_cons_succ, i64_w, i32_w]
                   rfl
                  exact norm_ (by simp only [putAll, Act.put, List.setIfInBounds_toArray, List.set_cons_zero, List.set_cons_succ]) (hCont (gb210, gb211) _ ⟨hHeld, (by (with_reducible repeat (first | apply Kd.R_alloc | apply Kd.R_drewN | apply Kd.R_drew)); exact Kd.R_mono HO_3.out (fun _ hk => ⟨hk.1.2, hk.2⟩)), (bk_ BK203.out), (bk_ BK210.out), (bk_ BK211.out), GW210.out, GE210.out, NB203_210.out, NB210_203.out, NB211_210.out, NB210_211.out, GW211.out, GE211.out, NB203_211.out, NB211_203.out, (bu_ HB.out GE203.out GE210.out GE211.out)⟩)
                 ·skip
                  refine box_step ?hg (N := 7) ?hd (cs := #[.string (⟨#[]⟩ : ByteArray), .bool false, .int .i64 0]) (t := 54) ?hr ?_; (case hd => rfl); (case hg => rfl); (case hr => first | (go_simp; done) | (go_simp; rfl))
                  intro gb211 hg w75 hbox hb; have HS0_ := (hb.cell (World.block_lt_of_cell? _ _ (hHeld.1))).trans (hHeld.1); have HS1_ := (hb.cell (World.block_lt_of_cell? _ _ (hHeld.2.1))).trans (hHeld.2.1); have HS2_ := (hb.cell (World.block_lt_of_cell? _ _ (hHeld.2.2.1))).trans (hHeld.2.2.1); have HS3_ := (hb.cell (World.block_lt_of_cell? _ _ (hHeld.2.2.2.1))).trans (hHeld.2.2.2.1); have HS4_ := (hb.cell (World.block_lt_of_cell? _ _ (hHeld.2.2.2.2.1))).trans (hHeld.2.2.2.2.1); have HS5_ := (hb.cell (World.block_lt_of_cell? _ _ (hHeld.2.2.2.2.2))).trans (hHeld.2.2.2.2.2); have n0_ := Aside0.mk (Kd.R_below (Kd.R_elderB (r_ HO_3.out) gb211 (Nat.le_of_eq hg.symm)) hb); have n1_ := Aside0.mk (blk_below (g := gb203) (o := .cells #[.int .i64 ((rd_T41 l0 x12_1).f0), .int .i64 ((rd_T41 l0 x12_1).f1), .int .i64 ((rd_T41 l0 x12_1).f2)] 41 (0, 0)) (bk_ BK203.out) hb); have n2_ := Aside0.mk (below_step (bs_ HB.out GE203.out) hb); have n3_ := Aside0.mk (hbox); have n4_ := Aside0.mk ((by rw [hg]; exact (below_size (bs_ HB.out GE203.out)) : w.heap.size ≤ gb211)); have n5_ := Aside0.mk ((by rw [hg]; exact (below_size (bs_ HB.out GE203.out)) : w.heap.size ≤ gb211)); have n6_ := Aside0.mk ((by rw [hg]; exact Nat.ne_of_lt (blk_lt (g := gb203) (o := .cells #[.int .i64 ((rd_T41 l0 x12_1).f0), .int .i64 ((rd_T41 l0 x12_1).f1), .int .i64 ((rd_T41 l0 x12_1).f2)] 41 (0, 0)) (bk_ BK203.out)) : gb203 ≠ gb211)); have n7_ := Aside0.mk ((by rw [hg]; exact Nat.ne_of_gt (blk_lt (g := gb203) (o := .cells #[.int .i64 ((rd_T41 l0 x12_1).f0), .int .i64 ((rd_T41 l0 x12_1).f1), .int .i64 ((rd_T41 l0 x12_1).f2)] 41 (0, 0)) (bk_ BK203.out)) : gb211 ≠ gb203)); clear HO_3 BK203 HB; have HO_3 := n0_; have BK203 := n1_; have HB := n2_; have BK211 := n3_; have GW211 := n4_; have GE211 := n5_; have NB203_211 := n6_; have NB211_203 := n7_; clear n0_ n1_ n2_ n3_ n4_ n5_ n6_ n7_ hb hbox hg
                  refine hK.out _ _ ⟨HS0_, HS1_, HS2_, HS3_, HS4_, HS5_⟩ (fun hHeld => ?_)
                  clear hK K
                  refine norm_ (a' := ?_) ?_ ?_
                  rotate_left
                  ·show Act.put _ (some 7) _ = _
                   simp only [Act.put, List.setIfInBounds_toArray, List.set_cons_zero, List.set_cons_succ, i64_w, i32_w]
                   rfl
                  refine one_ (i := 12) (N := some 6) #[true, true, true, true, true, true, true, true, true, true, true, true, true, true, false, false] rfl rfl (one_of HT_.out (by kernel_rfl)) (by decide) (fun K hK => ?_)
                  refine box_step ?hg (N := 6) ?hd (cs := #[.string (⟨#[]⟩ : ByteArray), .bool false, .int .i64 0]) (t := 54) ?hr ?_; (case hd => rfl); (case hg => rfl); (case hr => first | (go_simp; done) | (go_simp; rfl))
                  intro gb210 hg w76 hbox hb; have HS0_ := (hb.cell (World.block_lt_of_cell? _ _ (hHeld.1))).trans (hHeld.1); have HS1_ := (hb.cell (World.block_lt_of_cell? _ _ (hHeld.2.1))).trans (hHeld.2.1); have HS2_ := (hb.cell (World.block_lt_of_cell? _ _ (hHeld.2.2.1))).trans (hHeld.2.2.1); have HS3_ := (hb.cell (World.block_lt_of_cell? _ _ (hHeld.2.2.2.1))).trans (hHeld.2.2.2.1); have HS4_ := (hb.cell (World.block_lt_of_cell? _ _ (hHeld.2.2.2.2.1))).trans (hHeld.2.2.2.2.1); have HS5_ := (hb.cell (World.block_lt_of_cell? _ _ (hHeld.2.2.2.2.2))).trans (hHeld.2.2.2.2.2); have n0_ := Aside0.mk (Kd.R_below (Kd.R_elderB (r_ HO_3.out) gb210 (Nat.le_of_eq hg.symm)) hb); have n1_ := Aside0.mk (blk_below (g := gb203) (o := .cells #[.int .i64 ((rd_T41 l0 x12_1).f0), .int .i64 ((rd_T41 l0 x12_1).f1), .int .i64 ((rd_T41 l0 x12_1).f2)] 41 (0, 0)) (bk_ BK203.out) hb); have n2_ := Aside0.mk (blk_below (g := gb211) (o := .cells #[.string (⟨#[]⟩ : ByteArray), .bool false, .int .i64 0] 54 (0, 0)) (bk_ BK211.out) hb); have n3_ := Aside0.mk (below_step (bt_ HB.out GE203.out GE211.out) hb); have n4_ := Aside0.mk (hbox); have n5_ := Aside0.mk ((by rw [hg]; exact (below_size (bt_ HB.out GE203.out GE211.out)) : w.heap.size ≤ gb210)); have n6_ := Aside0.mk ((by rw [hg]; exact (below_size (bt_ HB.out GE203.out GE211.out)) : w.heap.size ≤ gb210)); have n7_ := Aside0.mk ((by rw [hg]; exact Nat.ne_of_lt (blk_lt (g := gb203) (o := .cells #[.int .i64 ((rd_T41 l0 x12_1).f0), .int .i64 ((rd_T41 l0 x12_1).f1), .int .i64 ((rd_T41 l0 x12_1).f2)] 41 (0, 0)) (bk_ BK203.out)) : gb203 ≠ gb210)); have n8_ := Aside0.mk ((by rw [hg]; exact Nat.ne_of_gt (blk_lt (g := gb203) (o := .cells #[.int .i64 ((rd_T41 l0 x12_1).f0), .int .i64 ((rd_T41 l0 x12_1).f1), .int .i64 ((rd_T41 l0 x12_1).f2)] 41 (0, 0)) (bk_ BK203.out)) : gb210 ≠ gb203)); have n9_ := Aside0.mk ((by rw [hg]; exact Nat.ne_of_lt (blk_lt (g := gb211) (o := .cells #[.string (⟨#[]⟩ : ByteArray), .bool false, .int .i64 0] 54 (0, 0)) (bk_ BK211.out)) : gb211 ≠ gb210)); have n10_ := Aside0.mk ((by rw [hg]; exact Nat.ne_of_gt (blk_lt (g := gb211) (o := .cells #[.string (⟨#[]⟩ : ByteArray), .bool false, .int .i64 0] 54 (0, 0)) (bk_ BK211.out)) : gb210 ≠ gb211)); clear HO_3 BK203 BK211 HB; have HO_3 := n0_; have BK203 := n1_; have BK211 := n2_; have HB := n3_; have BK210 := n4_; have GW210 := n5_; have GE210 := n6_; have NB203_210 := n7_; have NB210_203 := n8_; have NB211_210 := n9_; have NB210_211 := n10_; clear n0_ n1_ n2_ n3_ n4_ n5_ n6_ n7_ n8_ n9_ n10_ hb hbox hg
                  refine hK.out _ _ ⟨HS0_, HS1_, HS2_, HS3_, HS4_, HS5_⟩ (fun hHeld => ?_)
                  clear hK K
                  refine norm_ (a' := ?_) ?_ ?_
                  rotate_left
                  ·show Act.put _ (some 6) _ = _
                   simp only [Act.put, List.setIfInBounds_toArray, List.set_cons_zero, List.set_cons_succ, i64_w, i32_w]
                   rfl
                  exact norm_ (by simp only [putAll, Act.put, List.setIfInBounds_toArray, List.set_cons_zero, List.set_cons_succ]) (hCont (gb210, gb211) _ ⟨hHeld, (by (with_reducible repeat (first | apply Kd.R_alloc | apply Kd.R_drewN | apply Kd.R_drew)); exact Kd.R_mono HO_3.out (fun _ hk => ⟨hk.2, hk.1.2⟩)), (bk_ BK203.out), (bk_ BK210.out), (bk_ BK211.out), GW210.out, GE210.out, NB203_210.out, NB210_203.out, NB211_210.out, NB210_211.out, GW211.out, GE211.out, NB203_211.out, NB211_203.out, (bu_ HB.out GE203.out GE211.out GE210.out)⟩)
                rintro ⟨gb210, gb211⟩ w77 ⟨hS_, h0_, h1_, h2_, h3_, h4_, h5_, h6_, h7_, h8_, h9_, h10_, h11_, h12_, h13_, h14_⟩; have n0_ : Aside0 (Kd.R k54 54 w77 w.heap.size (fun k_ => k_ ≠ gb210 ∧ k_ ≠ gb211) (.slice (some ad208) x3_1.length co74) x3_1) := ⟨h0_⟩; have n1_ : Aside0 (w77.heap[gb203]? = some (.cells #[.int .i64 ((rd_T41 l0 x12_1).f0), .int .i64 ((rd_T41 l0 x12_1).f1), .int .i64 ((rd_T41 l0 x12_1).f2)] 41 (0, 0))) := ⟨h1_⟩; have n2_ : Aside0 (w77.heap[gb210]? = some (.cells #[.string (⟨#[]⟩ : ByteArray), .bool false, .int .i64 0] 54 (0, 0))) := ⟨h2_⟩; have n3_ : Aside0 (w77.heap[gb211]? = some (.cells #[.string (⟨#[]⟩ : ByteArray), .bool false, .int .i64 0] 54 (0, 0))) := ⟨h3_⟩; have n4_ : Aside0 (w.heap.size ≤ gb210) := ⟨h4_⟩; have n5_ : Aside0 (w.heap.size ≤ gb210) := ⟨h5_⟩; have n6_ : Aside0 (gb203 ≠ gb210) := ⟨h6_⟩; have n7_ : Aside0 (gb210 ≠ gb203) := ⟨h7_⟩; have n8_ : Aside0 (gb211 ≠ gb210) := ⟨h8_⟩; have n9_ : Aside0 (gb210 ≠ gb211) := ⟨h9_⟩; have n10_ : Aside0 (w.heap.size ≤ gb211) := ⟨h10_⟩; have n11_ : Aside0 (w.heap.size ≤ gb211) := ⟨h11_⟩; have n12_ : Aside0 (gb203 ≠ gb211) := ⟨h12_⟩; have n13_ : Aside0 (gb211 ≠ gb203) := ⟨h13_⟩; have n14_ : Aside0 (Below w.heap.size w w77) := ⟨h14_⟩; clear HO_3 BK203 HB h0_ h1_ h2_ h3_ h4_ h5_ h6_ h7_ h8_ h9_ h10_ h11_ h12_ h13_ h14_; have HO_3 := n0_; have BK203 := n1_; have BK210 := n2_; have BK211 := n3_; have GW210 := n4_; have GE210 := n5_; have NB203_210 := n6_; have NB210_203 := n7_; have NB211_210 := n8_; have NB210_211 := n9_; have GW211 := n10_; have GE211 := n11_; have NB203_211 := n12_; have NB211_203 := n13_; have HB := n14_; clear n0_ n1_ n2_ n3_ n4_ n5_ n6_ n7_ n8_ n9_ n10_ n11_ n12_ n13_ n14_; have hHeld : w77.cell? (ad208.add (((ji20)).toNat * 3)) = some (.string ((rd_T54 x3_1 (ji20)).f0)) ∧ w77.cell? ⟨(ad208.add (((ji20)).toNat * 3)).block, (ad208.add (((ji20)).toNat * 3)).off + 1, none⟩ = some (.bool ((rd_T54 x3_1 (ji20)).f1)) ∧ w77.cell? ⟨(ad208.add (((ji20)).toNat * 3)).block, (ad208.add (((ji20)).toNat * 3)).off + 2, none⟩ = some (.int .i64 ((rd_T54 x3_1 (ji20)).f2)) ∧ w77.cell? (ad208.add (((ji23)).toNat * 3)) = some (.string ((rd_T54 x3_1 (ji23)).f0)) ∧ w77.cell? ⟨(ad208.add (((ji23)).toNat * 3)).block, (ad208.add (((ji23)).toNat * 3)).off + 1, none⟩ = some (.bool ((rd_T54 x3_1 (ji23)).f1)) ∧ w77.cell? ⟨(ad208.add (((ji23)).toNat * 3)).block, (ad208.add (((ji23)).toNat * 3)).off + 2, none⟩ = some (.int .i64 ((rd_T54 x3_1 (ji23)).f2)) := hS_
                refine norm_ (a' := ?_) ?_ ?_
                rotate_left
                ·simp only [putAll, Act.put, List.setIfInBounds_toArray, List.set_cons_zero, List.set_cons_succ]
                 rfl
                refine one_ (i := 14) (N := none) #[true, true, true, true, true, true, true, true, true, true, true, true, true, true, true, false] rfl rfl (one_of HT_.out (by kernel_rfl)) (by decide) (fun K hK => ?_)
                have hs78 : w77.cell? ⟨gb210, 0, none⟩ = some (.string (⟨#[]⟩ : ByteArray)) := (blk_cell BK210.out 0).trans rfl; have hfs78 := blk_frozen BK210.out 0; have hns78_0 := NB203_210.out; have hns78_2 := NB211_210.out; have hms78_0 := NB210_203.out; have hms78_2 := NB210_211.out; have hs79 : w77.cell? ⟨gb210, 1, none⟩ = some (.bool false) := (blk_cell BK210.out 1).trans rfl; have hfs79 := blk_frozen BK210.out 1; have hns79_0 := NB203_210.out; have hns79_2 := NB211_210.out; have hms79_0 := NB210_203.out; have hms79_2 := NB210_211.out; have hs80 : w77.cell? ⟨gb210, 2, none⟩ = some (.int .i64 0) := (blk_cell BK210.out 2).trans rfl; have hfs80 := blk_frozen BK210.out 2; have hns80_0 := NB203_210.out; have hns80_2 := NB211_210.out; have hms80_0 := NB210_203.out; have hms80_2 := NB210_211.out
                refine skip_ (w1 := ?_) (by rfl) rfl ?_ ?_
                rotate_left
                ·go_simp
                 rfl
                refine hK.out _ _ ⟨((cell_far (p := ⟨gb210, _, none⟩) (by first | exact Kd.own_blk (Kd.R_away HO_3.out (fun _ hk => hk.1)) | (rw [add_block]; exact Kd.own_blk (Kd.R_away HO_3.out (fun _ hk => hk.1))) | (show (Addr.add _ _).block ≠ _; rw [add_block]; exact Kd.own_blk (Kd.R_away HO_3.out (fun _ hk => hk.1))) | (dsimp only; exact Kd.own_blk (Kd.R_away HO_3.out (fun _ hk => hk.1)))) _).trans (((cell_far (p := ⟨gb210, _, none⟩) (by first | exact Kd.own_blk (Kd.R_away HO_3.out (fun _ hk => hk.1)) | (rw [add_block]; exact Kd.own_blk (Kd.R_away HO_3.out (fun _ hk => hk.1))) | (show (Addr.add _ _).block ≠ _; rw [add_block]; exact Kd.own_blk (Kd.R_away HO_3.out (fun _ hk => hk.1))) | (dsimp only; exact Kd.own_blk (Kd.R_away HO_3.out (fun _ hk => hk.1)))) _).trans (((cell_far (p := ⟨gb210, _, none⟩) (by first | exact Kd.own_blk (Kd.R_away HO_3.out (fun _ hk => hk.1)) | (rw [add_block]; exact Kd.own_blk (Kd.R_away HO_3.out (fun _ hk => hk.1))) | (show (Addr.add _ _).block ≠ _; rw [add_block]; exact Kd.own_blk (Kd.R_away HO_3.out (fun _ hk => hk.1))) | (dsimp only; exact Kd.own_blk (Kd.R_away HO_3.out (fun _ hk => hk.1)))) _).trans (hHeld.1)))))), ((cell_far (p := ⟨gb210, _, none⟩) (by first | exact Kd.own_blk (Kd.R_away HO_3.out (fun _ hk => hk.1)) | (rw [add_block]; exact Kd.own_blk (Kd.R_away HO_3.out (fun _ hk => hk.1))) | (show (Addr.add _ _).block ≠ _; rw [add_block]; exact Kd.own_blk (Kd.R_away HO_3.out (fun _ hk => hk.1))) | (dsimp only; exact Kd.own_blk (Kd.R_away HO_3.out (fun _ hk => hk.1)))) _).trans (((cell_far (p := ⟨gb210, _, none⟩) (by first | exact Kd.own_blk (Kd.R_away HO_3.out (fun _ hk => hk.1)) | (rw [add_block]; exact Kd.own_blk (Kd.R_away HO_3.out (fun _ hk => hk.1))) | (show (Addr.add _ _).block ≠ _; rw [add_block]; exact Kd.own_blk (Kd.R_away HO_3.out (fun _ hk => hk.1))) | (dsimp only; exact Kd.own_blk (Kd.R_away HO_3.out (fun _ hk => hk.1)))) _).trans (((cell_far (p := ⟨gb210, _, none⟩) (by first | exact Kd.own_blk (Kd.R_away HO_3.out (fun _ hk => hk.1)) | (rw [add_block]; exact Kd.own_blk (Kd.R_away HO_3.out (fun _ hk => hk.1))) | (show (Addr.add _ _).block ≠ _; rw [add_block]; exact Kd.own_blk (Kd.R_away HO_3.out (fun _ hk => hk.1))) | (dsimp only; exact Kd.own_blk (Kd.R_away HO_3.out (fun _ hk => hk.1)))) _).trans (hHeld.2.1)))))), ((cell_far (p := ⟨gb210, _, none⟩) (by first | exact Kd.own_blk (Kd.R_away HO_3.out (fun _ hk => hk.1)) | (rw [add_block]; exact Kd.own_blk (Kd.R_away HO_3.out (fun _ hk => hk.1))) | (show (Addr.add _ _).block ≠ _; rw [add_block]; exact Kd.own_blk (Kd.R_away HO_3.out (fun _ hk => hk.1))) | (dsimp only; exact Kd.own_blk (Kd.R_away HO_3.out (fun _ hk => hk.1)))) _).trans (((cell_far (p := ⟨gb210, _, none⟩) (by first | exact Kd.own_blk (Kd.R_away HO_3.out (fun _ hk => hk.1)) | (rw [add_block]; exact Kd.own_blk (Kd.R_away HO_3.out (fun _ hk => hk.1))) | (show (Addr.add _ _).block ≠ _; rw [add_block]; exact Kd.own_blk (Kd.R_away HO_3.out (fun _ hk => hk.1))) | (dsimp only; exact Kd.own_blk (Kd.R_away HO_3.out (fun _ hk => hk.1)))) _).trans (((cell_far (p := ⟨gb210, _, none⟩) (by first | exact Kd.own_blk (Kd.R_away HO_3.out (fun _ hk => hk.1)) | (rw [add_block]; exact Kd.own_blk (Kd.R_away HO_3.out (fun _ hk => hk.1))) | (show (Addr.add _ _).block ≠ _; rw [add_block]; exact Kd.own_blk (Kd.R_away HO_3.out (fun _ hk => hk.1))) | (dsimp only; exact Kd.own_blk (Kd.R_away HO_3.out (fun _ hk => hk.1)))) _).trans (hHeld.2.2.1)))))), ((cell_far (p := ⟨gb210, _, none⟩) (by first | exact Kd.own_blk (Kd.R_away HO_3.out (fun _ hk => hk.1)) | (rw [add_block]; exact Kd.own_blk (Kd.R_away HO_3.out (fun _ hk => hk.1))) | (show (Addr.add _ _).block ≠ _; rw [add_block]; exact Kd.own_blk (Kd.R_away HO_3.out (fun _ hk => hk.1))) | (dsimp only; exact Kd.own_blk (Kd.R_away HO_3.out (fun _ hk => hk.1)))) _).trans (((cell_far (p := ⟨gb210, _, none⟩) (by first | exact Kd.own_blk (Kd.R_away HO_3.out (fun _ hk => hk.1)) | (rw [add_block]; exact Kd.own_blk (Kd.R_away HO_3.out (fun _ hk => hk.1))) | (show (Addr.add _ _).block ≠ _; rw [add_block]; exact Kd.own_blk (Kd.R_away HO_3.out (fun _ hk => hk.1))) | (dsimp only; exact Kd.own_blk (Kd.R_away HO_3.out (fun _ hk => hk.1)))) _).trans (((cell_far (p := ⟨gb210, _, none⟩) (by first | exact Kd.own_blk (Kd.R_away HO_3.out (fun _ hk => hk.1)) | (rw [add_block]; exact Kd.own_blk (Kd.R_away HO_3.out (fun _ hk => hk.1))) | (show (Addr.add _ _).block ≠ _; rw [add_block]; exact Kd.own_blk (Kd.R_away HO_3.out (fun _ hk => hk.1))) | (dsimp only; exact Kd.own_blk (Kd.R_away HO_3.out (fun _ hk => hk.1)))) _).trans (hHeld.2.2.2.1)))))), ((cell_far (p := ⟨gb210, _, none⟩) (by first | exact Kd.own_blk (Kd.R_away HO_3.out (fun _ hk => hk.1)) | (rw [add_block]; exact Kd.own_blk (Kd.R_away HO_3.out (fun _ hk => hk.1))) | (show (Addr.add _ _).block ≠ _; rw [add_block]; exact Kd.own_blk (Kd.R_away HO_3.out (fun _ hk => hk.1))) | (dsimp only; exact Kd.own_blk (Kd.R_away HO_3.out (fun _ hk => hk.1)))) _).trans (((cell_far (p := ⟨gb210, _, none⟩) (by first | exact Kd.own_blk (Kd.R_away HO_3.out (fun _ hk => hk.1)) | (rw [add_block]; exact Kd.own_blk (Kd.R_away HO_3.out (fun _ hk => hk.1))) | (show (Addr.add _ _).block ≠ _; rw [add_block]; exact Kd.own_blk (Kd.R_away HO_3.out (fun _ hk => hk.1))) | (dsimp only; exact Kd.own_blk (Kd.R_away HO_3.out (fun _ hk => hk.1)))) _).trans (((cell_far (p := ⟨gb210, _, none⟩) (by first | exact Kd.own_blk (Kd.R_away HO_3.out (fun _ hk => hk.1)) | (rw [add_block]; exact Kd.own_blk (Kd.R_away HO_3.out (fun _ hk => hk.1))) | (show (Addr.add _ _).block ≠ _; rw [add_block]; exact Kd.own_blk (Kd.R_away HO_3.out (fun _ hk => hk.1))) | (dsimp only; exact Kd.own_blk (Kd.R_away HO_3.out (fun _ hk => hk.1)))) _).trans (hHeld.2.2.2.2.1)))))), ((cell_far (p := ⟨gb210, _, none⟩) (by first | exact Kd.own_blk (Kd.R_away HO_3.out (fun _ hk => hk.1)) | (rw [add_block]; exact Kd.own_blk (Kd.R_away HO_3.out (fun _ hk => hk.1))) | (show (Addr.add _ _).block ≠ _; rw [add_block]; exact Kd.own_blk (Kd.R_away HO_3.out (fun _ hk => hk.1))) | (dsimp only; exact Kd.own_blk (Kd.R_away HO_3.out (fun _ hk => hk.1)))) _).trans (((cell_far (p := ⟨gb210, _, none⟩) (by first | exact Kd.own_blk (Kd.R_away HO_3.out (fun _ hk => hk.1)) | (rw [add_block]; exact Kd.own_blk (Kd.R_away HO_3.out (fun _ hk => hk.1))) | (show (Addr.add _ _).block ≠ _; rw [add_block]; exact Kd.own_blk (Kd.R_away HO_3.out (fun _ hk => hk.1))) | (dsimp only; exact Kd.own_blk (Kd.R_away HO_3.out (fun _ hk => hk.1)))) _).trans (((cell_far (p := ⟨gb210, _, none⟩) (by first | exact Kd.own_blk (Kd.R_away HO_3.out (fun _ hk => hk.1)) | (rw [add_block]; exact Kd.own_blk (Kd.R_away HO_3.out (fun _ hk => hk.1))) | (show (Addr.add _ _).block ≠ _; rw [add_block]; exact Kd.own_blk (Kd.R_away HO_3.out (fun _ hk => hk.1))) | (dsimp only; exact Kd.own_blk (Kd.R_away HO_3.out (fun _ hk => hk.1)))) _).trans (hHeld.2.2.2.2.2))))))⟩ (fun hHeld => ?_)
                clear hK K
                refine one_ (i := 15) (N := none) #[true, true, true, true, true, true, true, true, true, true, true, true, true, true, true, true] rfl rfl (one_of HT_.out (by kernel_rfl)) (by decide) (fun K hK => ?_)
                have hs81 : w77.cell? ⟨gb211, 0, none⟩ = some (.string (⟨#[]⟩ : ByteArray)) := (blk_cell BK211.out 0).trans rfl; have hfs81 := blk_frozen BK211.out 0; have hns81_0 := NB203_211.out; have hns81_1 := NB210_211.out; have hms81_0 := NB211_203.out; have hms81_1 := NB211_210.out; have hs82 : w77.cell? ⟨gb211, 1, none⟩ = some (.bool false) := (blk_cell BK211.out 1).trans rfl; have hfs82 := blk_frozen BK211.out 1; have hns82_0 := NB203_211.out; have hns82_1 := NB210_211.out; have hms82_0 := NB211_203.out; have hms82_1 := NB211_210.out; have hs83 : w77.cell? ⟨gb211, 2, none⟩ = some (.int .i64 0) := (blk_cell BK211.out 2).trans rfl; have hfs83 := blk_frozen BK211.out 2; have hns83_0 := NB203_211.out; have hns83_1 := NB210_211.out; have hms83_0 := NB211_203.out; have hms83_1 := NB211_210.out
                refine skip_ (w1 := ?_) (by rfl) rfl ?_ ?_
                rotate_left
                ·go_simp
                 rfl
                refine hK.out _ _ ⟨((cell_far (p := ⟨gb211, _, none⟩) (by first | exact Kd.own_blk (Kd.R_away HO_3.out (fun _ hk => hk.2)) | (rw [add_block]; exact Kd.own_blk (Kd.R_away HO_3.out (fun _ hk => hk.2))) | (show (Addr.add _ _).block ≠ _; rw [add_block]; exact Kd.own_blk (Kd.R_away HO_3.out (fun _ hk => hk.2))) | (dsimp only; exact Kd.own_blk (Kd.R_away HO_3.out (fun _ hk => hk.2)))) _).trans (((cell_far (p := ⟨gb211, _, none⟩) (by first | exact Kd.own_blk (Kd.R_away HO_3.out (fun _ hk => hk.2)) | (rw [add_block]; exact Kd.own_blk (Kd.R_away HO_3.out (fun _ hk => hk.2))) | (show (Addr.add _ _).block ≠ _; rw [add_block]; exact Kd.own_blk (Kd.R_away HO_3.out (fun _ hk => hk.2))) | (dsimp only; exact Kd.own_blk (Kd.R_away HO_3.out (fun _ hk => hk.2)))) _).trans (((cell_far (p := ⟨gb211, _, none⟩) (by first | exact Kd.own_blk (Kd.R_away HO_3.out (fun _ hk => hk.2)) | (rw [add_block]; exact Kd.own_blk (Kd.R_away HO_3.out (fun _ hk => hk.2))) | (show (Addr.add _ _).block ≠ _; rw [add_block]; exact Kd.own_blk (Kd.R_away HO_3.out (fun _ hk => hk.2))) | (dsimp only; exact Kd.own_blk (Kd.R_away HO_3.out (fun _ hk => hk.2)))) _).trans (hHeld.1)))))), ((cell_far (p := ⟨gb211, _, none⟩) (by first | exact Kd.own_blk (Kd.R_away HO_3.out (fun _ hk => hk.2)) | (rw [add_block]; exact Kd.own_blk (Kd.R_away HO_3.out (fun _ hk => hk.2))) | (show (Addr.add _ _).block ≠ _; rw [add_block]; exact Kd.own_blk (Kd.R_away HO_3.out (fun _ hk => hk.2))) | (dsimp only; exact Kd.own_blk (Kd.R_away HO_3.out (fun _ hk => hk.2)))) _).trans (((cell_far (p := ⟨gb211, _, none⟩) (by first | exact Kd.own_blk (Kd.R_away HO_3.out (fun _ hk => hk.2)) | (rw [add_block]; exact Kd.own_blk (Kd.R_away HO_3.out (fun _ hk => hk.2))) | (show (Addr.add _ _).block ≠ _; rw [add_block]; exact Kd.own_blk (Kd.R_away HO_3.out (fun _ hk => hk.2))) | (dsimp only; exact Kd.own_blk (Kd.R_away HO_3.out (fun _ hk => hk.2)))) _).trans (((cell_far (p := ⟨gb211, _, none⟩) (by first | exact Kd.own_blk (Kd.R_away HO_3.out (fun _ hk => hk.2)) | (rw [add_block]; exact Kd.own_blk (Kd.R_away HO_3.out (fun _ hk => hk.2))) | (show (Addr.add _ _).block ≠ _; rw [add_block]; exact Kd.own_blk (Kd.R_away HO_3.out (fun _ hk => hk.2))) | (dsimp only; exact Kd.own_blk (Kd.R_away HO_3.out (fun _ hk => hk.2)))) _).trans (hHeld.2.1)))))), ((cell_far (p := ⟨gb211, _, none⟩) (by first | exact Kd.own_blk (Kd.R_away HO_3.out (fun _ hk => hk.2)) | (rw [add_block]; exact Kd.own_blk (Kd.R_away HO_3.out (fun _ hk => hk.2))) | (show (Addr.add _ _).block ≠ _; rw [add_block]; exact Kd.own_blk (Kd.R_away HO_3.out (fun _ hk => hk.2))) | (dsimp only; exact Kd.own_blk (Kd.R_away HO_3.out (fun _ hk => hk.2)))) _).trans (((cell_far (p := ⟨gb211, _, none⟩) (by first | exact Kd.own_blk (Kd.R_away HO_3.out (fun _ hk => hk.2)) | (rw [add_block]; exact Kd.own_blk (Kd.R_away HO_3.out (fun _ hk => hk.2))) | (show (Addr.add _ _).block ≠ _; rw [add_block]; exact Kd.own_blk (Kd.R_away HO_3.out (fun _ hk => hk.2))) | (dsimp only; exact Kd.own_blk (Kd.R_away HO_3.out (fun _ hk => hk.2)))) _).trans (((cell_far (p := ⟨gb211, _, none⟩) (by first | exact Kd.own_blk (Kd.R_away HO_3.out (fun _ hk => hk.2)) | (rw [add_block]; exact Kd.own_blk (Kd.R_away HO_3.out (fun _ hk => hk.2))) | (show (Addr.add _ _).block ≠ _; rw [add_block]; exact Kd.own_blk (Kd.R_away HO_3.out (fun _ hk => hk.2))) | (dsimp only; exact Kd.own_blk (Kd.R_away HO_3.out (fun _ hk => hk.2)))) _).trans (hHeld.2.2.1)))))), ((cell_far (p := ⟨gb211, _, none⟩) (by first | exact Kd.own_blk (Kd.R_away HO_3.out (fun _ hk => hk.2)) | (rw [add_block]; exact Kd.own_blk (Kd.R_away HO_3.out (fun _ hk => hk.2))) | (show (Addr.add _ _).block ≠ _; rw [add_block]; exact Kd.own_blk (Kd.R_away HO_3.out (fun _ hk => hk.2))) | (dsimp only; exact Kd.own_blk (Kd.R_away HO_3.out (fun _ hk => hk.2)))) _).trans (((cell_far (p := ⟨gb211, _, none⟩) (by first | exact Kd.own_blk (Kd.R_away HO_3.out (fun _ hk => hk.2)) | (rw [add_block]; exact Kd.own_blk (Kd.R_away HO_3.out (fun _ hk => hk.2))) | (show (Addr.add _ _).block ≠ _; rw [add_block]; exact Kd.own_blk (Kd.R_away HO_3.out (fun _ hk => hk.2))) | (dsimp only; exact Kd.own_blk (Kd.R_away HO_3.out (fun _ hk => hk.2)))) _).trans (((cell_far (p := ⟨gb211, _, none⟩) (by first | exact Kd.own_blk (Kd.R_away HO_3.out (fun _ hk => hk.2)) | (rw [add_block]; exact Kd.own_blk (Kd.R_away HO_3.out (fun _ hk => hk.2))) | (show (Addr.add _ _).block ≠ _; rw [add_block]; exact Kd.own_blk (Kd.R_away HO_3.out (fun _ hk => hk.2))) | (dsimp only; exact Kd.own_blk (Kd.R_away HO_3.out (fun _ hk => hk.2)))) _).trans (hHeld.2.2.2.1)))))), ((cell_far (p := ⟨gb211, _, none⟩) (by first | exact Kd.own_blk (Kd.R_away HO_3.out (fun _ hk => hk.2)) | (rw [add_block]; exact Kd.own_blk (Kd.R_away HO_3.out (fun _ hk => hk.2))) | (show (Addr.add _ _).block ≠ _; rw [add_block]; exact Kd.own_blk (Kd.R_away HO_3.out (fun _ hk => hk.2))) | (dsimp only; exact Kd.own_blk (Kd.R_away HO_3.out (fun _ hk => hk.2)))) _).trans (((cell_far (p := ⟨gb211, _, none⟩) (by first | exact Kd.own_blk (Kd.R_away HO_3.out (fun _ hk => hk.2)) | (rw [add_block]; exact Kd.own_blk (Kd.R_away HO_3.out (fun _ hk => hk.2))) | (show (Addr.add _ _).block ≠ _; rw [add_block]; exact Kd.own_blk (Kd.R_away HO_3.out (fun _ hk => hk.2))) | (dsimp only; exact Kd.own_blk (Kd.R_away HO_3.out (fun _ hk => hk.2)))) _).trans (((cell_far (p := ⟨gb211, _, none⟩) (by first | exact Kd.own_blk (Kd.R_away HO_3.out (fun _ hk => hk.2)) | (rw [add_block]; exact Kd.own_blk (Kd.R_away HO_3.out (fun _ hk => hk.2))) | (show (Addr.add _ _).block ≠ _; rw [add_block]; exact Kd.own_blk (Kd.R_away HO_3.out (fun _ hk => hk.2))) | (dsimp only; exact Kd.own_blk (Kd.R_away HO_3.out (fun _ hk => hk.2)))) _).trans (hHeld.2.2.2.2.1)))))), ((cell_far (p := ⟨gb211, _, none⟩) (by first | exact Kd.own_blk (Kd.R_away HO_3.out (fun _ hk => hk.2)) | (rw [add_block]; exact Kd.own_blk (Kd.R_away HO_3.out (fun _ hk => hk.2))) | (show (Addr.add _ _).block ≠ _; rw [add_block]; exact Kd.own_blk (Kd.R_away HO_3.out (fun _ hk => hk.2))) | (dsimp only; exact Kd.own_blk (Kd.R_away HO_3.out (fun _ hk => hk.2)))) _).trans (((cell_far (p := ⟨gb211, _, none⟩) (by first | exact Kd.own_blk (Kd.R_away HO_3.out (fun _ hk => hk.2)) | (rw [add_block]; exact Kd.own_blk (Kd.R_away HO_3.out (fun _ hk => hk.2))) | (show (Addr.add _ _).block ≠ _; rw [add_block]; exact Kd.own_blk (Kd.R_away HO_3.out (fun _ hk => hk.2))) | (dsimp only; exact Kd.own_blk (Kd.R_away HO_3.out (fun _ hk => hk.2)))) _).trans (((cell_far (p := ⟨gb211, _, none⟩) (by first | exact Kd.own_blk (Kd.R_away HO_3.out (fun _ hk => hk.2)) | (rw [add_block]; exact Kd.own_blk (Kd.R_away HO_3.out (fun _ hk => hk.2))) | (show (Addr.add _ _).block ≠ _; rw [add_block]; exact Kd.own_blk (Kd.R_away HO_3.out (fun _ hk => hk.2))) | (dsimp only; exact Kd.own_blk (Kd.R_away HO_3.out (fun _ hk => hk.2)))) _).trans (hHeld.2.2.2.2.2))))))⟩ (fun hHeld => ?_)
                clear hK K
                refine done_ (done_of HT_.out (by kernel_rfl)) ?_
                have hnb84 := NB203_210.out; have hnc84 := NB210_203.out; have hnb85 := NB203_211.out; have hnc85 := NB211_203.out; have hcz86_0 : w77.cell? ⟨gb203, 0, none⟩ = some (.int .i64 ((rd_T41 l0 x12_1).f0)) := (blk_cell BK203.out 0).trans rfl; have hcz86_1 : w77.cell? ⟨gb203, 1, none⟩ = some (.int .i64 ((rd_T41 l0 x12_1).f1)) := (blk_cell BK203.out 1).trans rfl; have hcz86_2 : w77.cell? ⟨gb203, 2, none⟩ = some (.int .i64 ((rd_T41 l0 x12_1).f2)) := (blk_cell BK203.out 2).trans rfl; have hfz86_0 := blk_frozen BK203.out 0; have hfz86_1 := blk_frozen BK203.out 1; have hfz86_2 := blk_frozen BK203.out 2; have hnb87 := NB210_211.out; have hnc87 := NB211_210.out; have hcz88_0 : w77.cell? ⟨gb210, 0, none⟩ = some (.string (⟨#[]⟩ : ByteArray)) := (blk_cell BK210.out 0).trans rfl; have hcz88_1 : w77.cell? ⟨gb210, 1, none⟩ = some (.bool false) := (blk_cell BK210.out 1).trans rfl; have hcz88_2 : w77.cell? ⟨gb210, 2, none⟩ = some (.int .i64 0) := (blk_cell BK210.out 2).trans rfl; have hfz88_0 := blk_frozen BK210.out 0; have hfz88_1 := blk_frozen BK210.out 1; have hfz88_2 := blk_frozen BK210.out 2; have hcz89_0 : w77.cell? ⟨gb211, 0, none⟩ = some (.string (⟨#[]⟩ : ByteArray)) := (blk_cell BK211.out 0).trans rfl; have hcz89_1 : w77.cell? ⟨gb211, 1, none⟩ = some (.bool false) := (blk_cell BK211.out 1).trans rfl; have hcz89_2 : w77.cell? ⟨gb211, 2, none⟩ = some (.int .i64 0) := (blk_cell BK211.out 2).trans rfl; have hfz89_0 := blk_frozen BK211.out 0; have hfz89_1 := blk_frozen BK211.out 1; have hfz89_2 := blk_frozen BK211.out 2
                try go_wp2_with (first | ((with_reducible refine gate_dst (N := 8) rfl ?_); refine box_event ?hg (N := 8) ?hd (cs := #[.string (⟨#[]⟩ : ByteArray), .bool false, .int .i64 0]) (t := 54) ?hr ?_; (case hd => rfl); (case hg => rfl); (case hr => first | (go_simp; done) | (go_simp; rfl)); intro gb212 hg w90 hbox hb; have n0_ := Aside0.mk (Kd.R_below (Kd.R_elderB (by (with_reducible repeat (first | apply Kd.R_alloc | apply Kd.R_drewN | apply Kd.R_drew)); exact (Kd.R_mono (Kd.R_mono (Kd.R_far (p := ⟨gb211, 2, none⟩) (Kd.R_far (p := ⟨gb211, 1, none⟩) (Kd.R_far (p := ⟨gb211, 0, none⟩) (Kd.R_far (p := ⟨gb210, 2, none⟩) (Kd.R_far (p := ⟨gb210, 1, none⟩) (Kd.R_far (p := ⟨gb210, 0, none⟩) (Kd.R_mono (Kd.R_mono HO_3.out (fun k_ hk => (⟨hk, hk.1⟩ : _ ∧ k_ ≠ gb210))) (fun k_ hk => (⟨hk, hk.1.2⟩ : _ ∧ k_ ≠ gb211))) (fun _ hk => hk.1.2) (.string ((rd_T54 x3_1 (ji20)).f0))) (fun _ hk => hk.1.2) (.bool ((rd_T54 x3_1 (ji20)).f1))) (fun _ hk => hk.1.2) (.int .i64 ((rd_T54 x3_1 (ji20)).f2))) (fun _ hk => hk.2) (.string ((rd_T54 x3_1 (ji23)).f0))) (fun _ hk => hk.2) (.bool ((rd_T54 x3_1 (ji23)).f1))) (fun _ hk => hk.2) (.int .i64 ((rd_T54 x3_1 (ji23)).f2))) (fun _ h_ => h_.1)) (fun _ h_ => h_.1))) gb212 (Nat.le_of_eq hg.symm)) hb); have n1_ := Aside0.mk (blk_below (g := gb203) (o := .cells #[.int .i64 ((rd_T41 l0 x12_1).f0), .int .i64 ((rd_T41 l0 x12_1).f1), .int .i64 ((rd_T41 l0 x12_1).f2)] 41 (0, 0)) (by (with_reducible repeat (first | refine blk_drewN ?_ _ | refine blk_drew ?_ | refine blk_alloc ?_ _)); refine blk_far ?_ NB203_211.out _; (with_reducible repeat (first | refine blk_drewN ?_ _ | refine blk_drew ?_ | refine blk_alloc ?_ _)); refine blk_far ?_ NB203_211.out _; (with_reducible repeat (first | refine blk_drewN ?_ _ | refine blk_drew ?_ | refine blk_alloc ?_ _)); refine blk_far ?_ NB203_211.out _; (with_reducible repeat (first | refine blk_drewN ?_ _ | refine blk_drew ?_ | refine blk_alloc ?_ _)); refine blk_far ?_ NB203_210.out _; (with_reducible repeat (first | refine blk_drewN ?_ _ | refine blk_drew ?_ | refine blk_alloc ?_ _)); refine blk_far ?_ NB203_210.out _; (with_reducible repeat (first | refine blk_drewN ?_ _ | refine blk_drew ?_ | refine blk_alloc ?_ _)); refine blk_far ?_ NB203_210.out _; (with_reducible repeat (first | refine blk_drewN ?_ _ | refine blk_drew ?_ | refine blk_alloc ?_ _)); exact BK203.out) hb); have n2_ := Aside0.mk (blk_below (g := gb210) (o := .cells #[.string ((rd_T54 x3_1 (ji20)).f0), .bool ((rd_T54 x3_1 (ji20)).f1), .int .i64 ((rd_T54 x3_1 (ji20)).f2)] 54 (0, 0)) (by (with_reducible repeat (first | refine blk_drewN ?_ _ | refine blk_drew ?_ | refine blk_alloc ?_ _)); refine blk_far ?_ NB210_211.out _; (with_reducible repeat (first | refine blk_drewN ?_ _ | refine blk_drew ?_ | refine blk_alloc ?_ _)); refine blk_far ?_ NB210_211.out _; (with_reducible repeat (first | refine blk_drewN ?_ _ | refine blk_drew ?_ | refine blk_alloc ?_ _)); refine blk_far ?_ NB210_211.out _; (with_reducible repeat (first | refine blk_drewN ?_ _ | refine blk_drew ?_ | refine blk_alloc ?_ _)); refine blk_put (cs := #[.string ((rd_T54 x3_1 (ji20)).f0), .bool ((rd_T54 x3_1 (ji20)).f1), .int .i64 0]) ?_ 2 _ rfl; (with_reducible repeat (first | refine blk_drewN ?_ _ | refine blk_drew ?_ | refine blk_alloc ?_ _)); refine blk_put (cs := #[.string ((rd_T54 x3_1 (ji20)).f0), .bool false, .int .i64 0]) ?_ 1 _ rfl; (with_reducible repeat (first | refine blk_drewN ?_ _ | refine blk_drew ?_ | refine blk_alloc ?_ _)); refine blk_put (cs := #[.string (⟨#[]⟩ : ByteArray), .bool false, .int .i64 0]) ?_ 0 _ rfl; (with_reducible repeat (first | refine blk_drewN ?_ _ | refine blk_drew ?_ | refine blk_alloc ?_ _)); exact BK210.out) hb); have n3_ := Aside0.mk (blk_below (g := gb211) (o := .cells #[.string ((rd_T54 x3_1 (ji23)).f0), .bool ((rd_T54 x3_1 (ji23)).f1), .int .i64 ((rd_T54 x3_1 (ji23)).f2)] 54 (0, 0)) (by (with_reducible repeat (first | refine blk_drewN ?_ _ | refine blk_drew ?_ | refine blk_alloc ?_ _)); refine blk_put (cs := #[.string ((rd_T54 x3_1 (ji23)).f0), .bool ((rd_T54 x3_1 (ji23)).f1), .int .i64 0]) ?_ 2 _ rfl; (with_reducible repeat (first | refine blk_drewN ?_ _ | refine blk_drew ?_ | refine blk_alloc ?_ _)); refine blk_put (cs := #[.string ((rd_T54 x3_1 (ji23)).f0), .bool false, .int .i64 0]) ?_ 1 _ rfl; (with_reducible repeat (first | refine blk_drewN ?_ _ | refine blk_drew ?_ | refine blk_alloc ?_ _)); refine blk_put (cs := #[.string (⟨#[]⟩ : ByteArray), .bool false, .int .i64 0]) ?_ 0 _ rfl; (with_reducible repeat (first | refine blk_drewN ?_ _ | refine blk_drew ?_ | refine blk_alloc ?_ _)); refine blk_far ?_ NB211_210.out _; (with_reducible repeat (first | refine blk_drewN ?_ _ | refine blk_drew ?_ | refine blk_alloc ?_ _)); refine blk_far ?_ NB211_210.out _; (with_reducible repeat (first | refine blk_drewN ?_ _ | refine blk_drew ?_ | refine blk_alloc ?_ _)); refine blk_far ?_ NB211_210.out _; (with_reducible repeat (first | refine blk_drewN ?_ _ | refine blk_drew ?_ | refine blk_alloc ?_ _)); exact BK211.out) hb); have n4_ := Aside0.mk (below_step (bu_ HB.out GE203.out GE210.out GE211.out) hb); have n5_ := Aside0.mk (hbox); have n6_ := Aside0.mk ((by rw [hg]; exact (below_size (bu_ HB.out GE203.out GE210.out GE211.out)) : w.heap.size ≤ gb212)); have n7_ := Aside0.mk ((by rw [hg]; exact (below_size (bu_ HB.out GE203.out GE210.out GE211.out)) : w.heap.size ≤ gb212)); have n8_ := Aside0.mk ((by rw [hg]; exact Nat.ne_of_lt (blk_lt (g := gb203) (o := .cells #[.int .i64 ((rd_T41 l0 x12_1).f0), .int .i64 ((rd_T41 l0 x12_1).f1), .int .i64 ((rd_T41 l0 x12_1).f2)] 41 (0, 0)) (by (with_reducible repeat (first | refine blk_drewN ?_ _ | refine blk_drew ?_ | refine blk_alloc ?_ _)); refine blk_far ?_ NB203_211.out _; (with_reducible repeat (first | refine blk_drewN ?_ _ | refine blk_drew ?_ | refine blk_alloc ?_ _)); refine blk_far ?_ NB203_211.out _; (with_reducible repeat (first | refine blk_drewN ?_ _ | refine blk_drew ?_ | refine blk_alloc ?_ _)); refine blk_far ?_ NB203_211.out _; (with_reducible repeat (first | refine blk_drewN ?_ _ | refine blk_drew ?_ | refine blk_alloc ?_ _)); refine blk_far ?_ NB203_210.out _; (with_reducible repeat (first | refine blk_drewN ?_ _ | refine blk_drew ?_ | refine blk_alloc ?_ _)); refine blk_far ?_ NB203_210.out _; (with_reducible repeat (first | refine blk_drewN ?_ _ | refine blk_drew ?_ | refine blk_alloc ?_ _)); refine blk_far ?_ NB203_210.out _; (with_reducible repeat (first | refine blk_drewN ?_ _ | refine blk_drew ?_ | refine blk_alloc ?_ _)); exact BK203.out)) : gb203 ≠ gb212)); have n9_ := Aside0.mk ((by rw [hg]; exact Nat.ne_of_gt (blk_lt (g := gb203) (o := .cells #[.int .i64 ((rd_T41 l0 x12_1).f0), .int .i64 ((rd_T41 l0 x12_1).f1), .int .i64 ((rd_T41 l0 x12_1).f2)] 41 (0, 0)) (by (with_reducible repeat (first | refine blk_drewN ?_ _ | refine blk_drew ?_ | refine blk_alloc ?_ _)); refine blk_far ?_ NB203_211.out _; (with_reducible repeat (first | refine blk_drewN ?_ _ | refine blk_drew ?_ | refine blk_alloc ?_ _)); refine blk_far ?_ NB203_211.out _; (with_reducible repeat (first | refine blk_drewN ?_ _ | refine blk_drew ?_ | refine blk_alloc ?_ _)); refine blk_far ?_ NB203_211.out _; (with_reducible repeat (first | refine blk_drewN ?_ _ | refine blk_drew ?_ | refine blk_alloc ?_ _)); refine blk_far ?_ NB203_210.out _; (with_reducible repeat (first | refine blk_drewN ?_ _ | refine blk_drew ?_ | refine blk_alloc ?_ _)); refine blk_far ?_ NB203_210.out _; (with_reducible repeat (first | refine blk_drewN ?_ _ | refine blk_drew ?_ | refine blk_alloc ?_ _)); refine blk_far ?_ NB203_210.out _; (with_reducible repeat (first | refine blk_drewN ?_ _ | refine blk_drew ?_ | refine blk_alloc ?_ _)); exact BK203.out)) : gb212 ≠ gb203)); have n10_ := Aside0.mk ((by rw [hg]; exact Nat.ne_of_lt (blk_lt (g := gb210) (o := .cells #[.string ((rd_T54 x3_1 (ji20)).f0), .bool ((rd_T54 x3_1 (ji20)).f1), .int .i64 ((rd_T54 x3_1 (ji20)).f2)] 54 (0, 0)) (by (with_reducible repeat (first | refine blk_drewN ?_ _ | refine blk_drew ?_ | refine blk_alloc ?_ _)); refine blk_far ?_ NB210_211.out _; (with_reducible repeat (first | refine blk_drewN ?_ _ | refine blk_drew ?_ | refine blk_alloc ?_ _)); refine blk_far ?_ NB210_211.out _; (with_reducible repeat (first | refine blk_drewN ?_ _ | refine blk_drew ?_ | refine blk_alloc ?_ _)); refine blk_far ?_ NB210_211.out _; (with_reducible repeat (first | refine blk_drewN ?_ _ | refine blk_drew ?_ | refine blk_alloc ?_ _)); refine blk_put (cs := #[.string ((rd_T54 x3_1 (ji20)).f0), .bool ((rd_T54 x3_1 (ji20)).f1), .int .i64 0]) ?_ 2 _ rfl; (with_reducible repeat (first | refine blk_drewN ?_ _ | refine blk_drew ?_ | refine blk_alloc ?_ _)); refine blk_put (cs := #[.string ((rd_T54 x3_1 (ji20)).f0), .bool false, .int .i64 0]) ?_ 1 _ rfl; (with_reducible repeat (first | refine blk_drewN ?_ _ | refine blk_drew ?_ | refine blk_alloc ?_ _)); refine blk_put (cs := #[.string (⟨#[]⟩ : ByteArray), .bool false, .int .i64 0]) ?_ 0 _ rfl; (with_reducible repeat (first | refine blk_drewN ?_ _ | refine blk_drew ?_ | refine blk_alloc ?_ _)); exact BK210.out)) : gb210 ≠ gb212)); have n11_ := Aside0.mk ((by rw [hg]; exact Nat.ne_of_gt (blk_lt (g := gb210) (o := .cells #[.string ((rd_T54 x3_1 (ji20)).f0), .bool ((rd_T54 x3_1 (ji20)).f1), .int .i64 ((rd_T54 x3_1 (ji20)).f2)] 54 (0, 0)) (by (with_reducible repeat (first | refine blk_drewN ?_ _ | refine blk_drew ?_ | refine blk_alloc ?_ _)); refine blk_far ?_ NB210_211.out _; (with_reducible repeat (first | refine blk_drewN ?_ _ | refine blk_drew ?_ | refine blk_alloc ?_ _)); refine blk_far ?_ NB210_211.out _; (with_reducible repeat (first | refine blk_drewN ?_ _ | refine blk_drew ?_ | refine blk_alloc ?_ _)); refine blk_far ?_ NB210_211.out _; (with_reducible repeat (first | refine blk_drewN ?_ _ | refine blk_drew ?_ | refine blk_alloc ?_ _)); refine blk_put (cs := #[.string ((rd_T54 x3_1 (ji20)).f0), .bool ((rd_T54 x3_1 (ji20)).f1), .int .i64 0]) ?_ 2 _ rfl; (with_reducible repeat (first | refine blk_drewN ?_ _ | refine blk_drew ?_ | refine blk_alloc ?_ _)); refine blk_put (cs := #[.string ((rd_T54 x3_1 (ji20)).f0), .bool false, .int .i64 0]) ?_ 1 _ rfl; (with_reducible repeat (first | refine blk_drewN ?_ _ | refine blk_drew ?_ | refine blk_alloc ?_ _)); refine blk_put (cs := #[.string (⟨#[]⟩ : ByteArray), .bool false, .int .i64 0]) ?_ 0 _ rfl; (with_reducible repeat (first | refine blk_drewN ?_ _ | refine blk_drew ?_ | refine blk_alloc ?_ _)); exact BK210.out)) : gb212 ≠ gb210)); have n12_ := Aside0.mk ((by rw [hg]; exact Nat.ne_of_lt (blk_lt (g := gb211) (o := .cells #[.string ((rd_T54 x3_1 (ji23)).f0), .bool ((rd_T54 x3_1 (ji23)).f1), .int .i64 ((rd_T54 x3_1 (ji23)).f2)] 54 (0, 0)) (by (with_reducible repeat (first | refine blk_drewN ?_ _ | refine blk_drew ?_ | refine blk_alloc ?_ _)); refine blk_put (cs := #[.string ((rd_T54 x3_1 (ji23)).f0), .bool ((rd_T54 x3_1 (ji23)).f1), .int .i64 0]) ?_ 2 _ rfl; (with_reducible repeat (first | refine blk_drewN ?_ _ | refine blk_drew ?_ | refine blk_alloc ?_ _)); refine blk_put (cs := #[.string ((rd_T54 x3_1 (ji23)).f0), .bool false, .int .i64 0]) ?_ 1 _ rfl; (with_reducible repeat (first | refine blk_drewN ?_ _ | refine blk_drew ?_ | refine blk_alloc ?_ _)); refine blk_put (cs := #[.string (⟨#[]⟩ : ByteArray), .bool false, .int .i64 0]) ?_ 0 _ rfl; (with_reducible repeat (first | refine blk_drewN ?_ _ | refine blk_drew ?_ | refine blk_alloc ?_ _)); refine blk_far ?_ NB211_210.out _; (with_reducible repeat (first | refine blk_drewN ?_ _ | refine blk_drew ?_ | refine blk_alloc ?_ _)); refine blk_far ?_ NB211_210.out _; (with_reducible repeat (first | refine blk_drewN ?_ _ | refine blk_drew ?_ | refine blk_alloc ?_ _)); refine blk_far ?_ NB211_210.out _; (with_reducible repeat (first | refine blk_drewN ?_ _ | refine blk_drew ?_ | refine blk_alloc ?_ _)); exact BK211.out)) : gb211 ≠ gb212)); have n13_ := Aside0.mk ((by rw [hg]; exact Nat.ne_of_gt (blk_lt (g := gb211) (o := .cells #[.string ((rd_T54 x3_1 (ji23)).f0), .bool ((rd_T54 x3_1 (ji23)).f1), .int .i64 ((rd_T54 x3_1 (ji23)).f2)] 54 (0, 0)) (by (with_reducible repeat (first | refine blk_drewN ?_ _ | refine blk_drew ?_ | refine blk_alloc ?_ _)); refine blk_put (cs := #[.string ((rd_T54 x3_1 (ji23)).f0), .bool ((rd_T54 x3_1 (ji23)).f1), .int .i64 0]) ?_ 2 _ rfl; (with_reducible repeat (first | refine blk_drewN ?_ _ | refine blk_drew ?_ | refine blk_alloc ?_ _)); refine blk_put (cs := #[.string ((rd_T54 x3_1 (ji23)).f0), .bool false, .int .i64 0]) ?_ 1 _ rfl; (with_reducible repeat (first | refine blk_drewN ?_ _ | refine blk_drew ?_ | refine blk_alloc ?_ _)); refine blk_put (cs := #[.string (⟨#[]⟩ : ByteArray), .bool false, .int .i64 0]) ?_ 0 _ rfl; (with_reducible repeat (first | refine blk_drewN ?_ _ | refine blk_drew ?_ | refine blk_alloc ?_ _)); refine blk_far ?_ NB211_210.out _; (with_reducible repeat (first | refine blk_drewN ?_ _ | refine blk_drew ?_ | refine blk_alloc ?_ _)); refine blk_far ?_ NB211_210.out _; (with_reducible repeat (first | refine blk_drewN ?_ _ | refine blk_drew ?_ | refine blk_alloc ?_ _)); refine blk_far ?_ NB211_210.out _; (with_reducible repeat (first | refine blk_drewN ?_ _ | refine blk_drew ?_ | refine blk_alloc ?_ _)); exact BK211.out)) : gb212 ≠ gb211)); clear HO_3; clear BK203; clear BK210; clear BK211; clear HB; have HO_3 := n0_; have BK203 := n1_; have BK210 := n2_; have BK211 := n3_; have HB := n4_; have BK212 := n5_; have GW212 := n6_; have GE212 := n7_; have NB203_212 := n8_; have NB212_203 := n9_; have NB210_212 := n10_; have NB212_210 := n11_; have NB211_212 := n12_; have NB212_211 := n13_; clear n0_ n1_ n2_ n3_ n4_ n5_ n6_ n7_ n8_ n9_ n10_ n11_ n12_ n13_; clear hb hbox hg; have hnb91 := NB212_203.out; have hnc91 := NB203_212.out; have hnb92 := NB212_210.out; have hnc92 := NB210_212.out; have hnb93 := NB212_211.out; have hnc93 := NB211_212.out; have hcz94_0 : w90.cell? ⟨gb212, 0, none⟩ = some (.string (⟨#[]⟩ : ByteArray)) := (blk_cell BK212.out 0).trans rfl; have hcz94_1 : w90.cell? ⟨gb212, 1, none⟩ = some (.bool false) := (blk_cell BK212.out 1).trans rfl; have hcz94_2 : w90.cell? ⟨gb212, 2, none⟩ = some (.int .i64 0) := (blk_cell BK212.out 2).trans rfl; have hfz94_0 := blk_frozen BK212.out 0; have hfz94_1 := blk_frozen BK212.out 1; have hfz94_2 := blk_frozen BK212.out 2))
                have n0_ : Aside0 (Kd.R k54 54 (((w90.setCell ⟨gb212, 0, none⟩ (.string (⟨#[]⟩ : ByteArray))).setCell ⟨gb212, 1, none⟩ (.bool false)).setCell ⟨gb212, 2, none⟩ (.int .i64 (wrap64 ((wrap64 (((rd_T54 x3_1 (ji20)).f2) + ((rd_T54 x3_1 (ji23)).f2))) + 1)))) w.heap.size (fun k_ => k_ ≠ gb210 ∧ k_ ≠ gb211 ∧ k_ ≠ gb212) (.slice (some ad208) x3_1.length co74) x3_1) := ⟨by (with_reducible repeat (first | apply Kd.R_alloc | apply Kd.R_drewN | apply Kd.R_drew)); exact Kd.R_mono (Kd.R_far (p := ⟨gb212, 2, none⟩) (Kd.R_far (p := ⟨gb212, 1, none⟩) (Kd.R_far (p := ⟨gb212, 0, none⟩) (Kd.R_mono HO_3.out (fun k_ hk => (⟨hk, hk.2⟩ : _ ∧ k_ ≠ gb212))) (fun _ hk => hk.2) (.string (⟨#[]⟩ : ByteArray))) (fun _ hk => hk.2) (.bool false)) (fun _ hk => hk.2) (.int .i64 (wrap64 ((wrap64 (((rd_T54 x3_1 (ji20)).f2) + ((rd_T54 x3_1 (ji23)).f2))) + 1)))) (fun _ hk => ⟨hk.1.1.1, ⟨hk.1.1.2, hk.1.2⟩⟩)⟩; have n1_ : Aside0 ((((w90.setCell ⟨gb212, 0, none⟩ (.string (⟨#[]⟩ : ByteArray))).setCell ⟨gb212, 1, none⟩ (.bool false)).setCell ⟨gb212, 2, none⟩ (.int .i64 (wrap64 ((wrap64 (((rd_T54 x3_1 (ji20)).f2) + ((rd_T54 x3_1 (ji23)).f2))) + 1)))).heap[gb203]? = some (.cells #[.int .i64 ((rd_T41 l0 x12_1).f0), .int .i64 ((rd_T41 l0 x12_1).f1), .int .i64 ((rd_T41 l0 x12_1).f2)] 41 (0, 0))) := ⟨by (with_reducible repeat (first | refine blk_drewN ?_ _ | refine blk_drew ?_ | refine blk_alloc ?_ _)); refine blk_far ?_ NB203_212.out _; (with_reducible repeat (first | refine blk_drewN ?_ _ | refine blk_drew ?_ | refine blk_alloc ?_ _)); refine blk_far ?_ NB203_212.out _; (with_reducible repeat (first | refine blk_drewN ?_ _ | refine blk_drew ?_ | refine blk_alloc ?_ _)); refine blk_far ?_ NB203_212.out _; (with_reducible repeat (first | refine blk_drewN ?_ _ | refine blk_drew ?_ | refine blk_alloc ?_ _)); exact BK203.out⟩; have n2_ : Aside0 ((((w90.setCell ⟨gb212, 0, none⟩ (.string (⟨#[]⟩ : ByteArray))).setCell ⟨gb212, 1, none⟩ (.bool false)).setCell ⟨gb212, 2, none⟩ (.int .i64 (wrap64 ((wrap64 (((rd_T54 x3_1 (ji20)).f2) + ((rd_T54 x3_1 (ji23)).f2))) + 1)))).heap[gb210]? = some (.cells #[.string ((rd_T54 x3_1 (ji20)).f0), .bool ((rd_T54 x3_1 (ji20)).f1), .int .i64 ((rd_T54 x3_1 (ji20)).f2)] 54 (0, 0))) := ⟨by (with_reducible repeat (first | refine blk_drewN ?_ _ | refine blk_drew ?_ | refine blk_alloc ?_ _)); refine blk_far ?_ NB210_212.out _; (with_reducible repeat (first | refine blk_drewN ?_ _ | refine blk_drew ?_ | refine blk_alloc ?_ _)); refine blk_far ?_ NB210_212.out _; (with_reducible repeat (first | refine blk_drewN ?_ _ | refine blk_drew ?_ | refine blk_alloc ?_ _)); refine blk_far ?_ NB210_212.out _; (with_reducible repeat (first | refine blk_drewN ?_ _ | refine blk_drew ?_ | refine blk_alloc ?_ _)); exact BK210.out⟩; have n3_ : Aside0 ((((w90.setCell ⟨gb212, 0, none⟩ (.string (⟨#[]⟩ : ByteArray))).setCell ⟨gb212, 1, none⟩ (.bool false)).setCell ⟨gb212, 2, none⟩ (.int .i64 (wrap64 ((wrap64 (((rd_T54 x3_1 (ji20)).f2) + ((rd_T54 x3_1 (ji23)).f2))) + 1)))).heap[gb211]? = some (.cells #[.string ((rd_T54 x3_1 (ji23)).f0), .bool ((rd_T54 x3_1 (ji23)).f1), .int .i64 ((rd_T54 x3_1 (ji23)).f2)] 54 (0, 0))) := ⟨by (with_reducible repeat (first | refine blk_drewN ?_ _ | refine blk_drew ?_ | refine blk_alloc ?_ _)); refine blk_far ?_ NB211_212.out _; (with_reducible repeat (first | refine blk_drewN ?_ _ | refine blk_drew ?_ | refine blk_alloc ?_ _)); refine blk_far ?_ NB211_212.out _; (with_reducible repeat (first | refine blk_drewN ?_ _ | refine blk_drew ?_ | refine blk_alloc ?_ _)); refine blk_far ?_ NB211_212.out _; (with_reducible repeat (first | refine blk_drewN ?_ _ | refine blk_drew ?_ | refine blk_alloc ?_ _)); exact BK211.out⟩; have n4_ : Aside0 ((((w90.setCell ⟨gb212, 0, none⟩ (.string (⟨#[]⟩ : ByteArray))).setCell ⟨gb212, 1, none⟩ (.bool false)).setCell ⟨gb212, 2, none⟩ (.int .i64 (wrap64 ((wrap64 (((rd_T54 x3_1 (ji20)).f2) + ((rd_T54 x3_1 (ji23)).f2))) + 1)))).heap[gb212]? = some (.cells #[.string (⟨#[]⟩ : ByteArray), .bool false, .int .i64 (wrap64 ((wrap64 (((rd_T54 x3_1 (ji20)).f2) + ((rd_T54 x3_1 (ji23)).f2))) + 1))] 54 (0, 0))) := ⟨by (with_reducible repeat (first | refine blk_drewN ?_ _ | refine blk_drew ?_ | refine blk_alloc ?_ _)); refine blk_put (cs := #[.string (⟨#[]⟩ : ByteArray), .bool false, .int .i64 0]) ?_ 2 _ rfl; (with_reducible repeat (first | refine blk_drewN ?_ _ | refine blk_drew ?_ | refine blk_alloc ?_ _)); refine blk_put (cs := #[.string (⟨#[]⟩ : ByteArray), .bool false, .int .i64 0]) ?_ 1 _ rfl; (with_reducible repeat (first | refine blk_drewN ?_ _ | refine blk_drew ?_ | refine blk_alloc ?_ _)); refine blk_put (cs := #[.string (⟨#[]⟩ : ByteArray), .bool false, .int .i64 0]) ?_ 0 _ rfl; (with_reducible repeat (first | refine blk_drewN ?_ _ | refine blk_drew ?_ | refine blk_alloc ?_ _)); exact BK212.out⟩; have n5_ : Aside0 (Below w.heap.size w (((w90.setCell ⟨gb212, 0, none⟩ (.string (⟨#[]⟩ : ByteArray))).setCell ⟨gb212, 1, none⟩ (.bool false)).setCell ⟨gb212, 2, none⟩ (.int .i64 (wrap64 ((wrap64 (((rd_T54 x3_1 (ji20)).f2) + ((rd_T54 x3_1 (ji23)).f2))) + 1))))) := ⟨by repeat (first | (with_reducible first | exact HB.out | apply below_alloc | apply pw_below_drewN | apply below_drew1 | refine below_set ?_ GE203.out | refine below_set ?_ GE210.out | refine below_set ?_ GE211.out | refine below_set ?_ GE212.out) | exact HB.out)⟩
                (try clear HO_3)
                (try clear BK203)
                (try clear BK210)
                (try clear BK211)
                (try clear BK212)
                (try clear HB)
                generalize (((w90.setCell ⟨gb212, 0, none⟩ (.string (⟨#[]⟩ : ByteArray))).setCell ⟨gb212, 1, none⟩ (.bool false)).setCell ⟨gb212, 2, none⟩ (.int .i64 (wrap64 ((wrap64 (((rd_T54 x3_1 (ji20)).f2) + ((rd_T54 x3_1 (ji23)).f2))) + 1)))) = w95 at n0_ n1_ n2_ n3_ n4_ n5_ ⊢
                have HO_3 := n0_; have BK203 := n1_; have BK210 := n2_; have BK211 := n3_; have BK212 := n4_; have HB := n5_; clear n0_ n1_ n2_ n3_ n4_ n5_; have n0_ := Aside0.mk (Kd.R_drew HO_3.out); have n1_ := Aside0.mk (blk_drew BK203.out); have n2_ := Aside0.mk (blk_drew BK210.out); have n3_ := Aside0.mk (blk_drew BK211.out); have n4_ := Aside0.mk (blk_drew BK212.out); have n5_ := Aside0.mk (below_drew1 HB.out); clear HO_3 BK203 BK210 BK211 BK212 HB; have HO_3 := n0_; have BK203 := n1_; have BK210 := n2_; have BK211 := n3_; have BK212 := n4_; have HB := n5_; clear n0_ n1_ n2_ n3_ n4_ n5_
                refine start_ (n := 15) (S := fun w' => w'.cell? ⟨gb210, 0, none⟩ = some (.string ((rd_T54 x3_1 (ji20)).f0)) ∧ w'.cell? ⟨gb210, 1, none⟩ = some (.bool ((rd_T54 x3_1 (ji20)).f1)) ∧ w'.cell? ⟨gb210, 2, none⟩ = some (.int .i64 ((rd_T54 x3_1 (ji20)).f2)) ∧ w'.cell? ⟨gb211, 0, none⟩ = some (.string ((rd_T54 x3_1 (ji23)).f0)) ∧ w'.cell? ⟨gb211, 1, none⟩ = some (.bool ((rd_T54 x3_1 (ji23)).f1)) ∧ w'.cell? ⟨gb211, 2, none⟩ = some (.int .i64 ((rd_T54 x3_1 (ji23)).f2))) (ds := []) #[false, false, false, false, false, false, false, false, false, false, false, false, false, false, false] (by kernel_rfl) rfl rfl ⟨(blk_cell BK210.out 0).trans rfl, (blk_cell BK210.out 1).trans rfl, (blk_cell BK210.out 2).trans rfl, (blk_cell BK211.out 0).trans rfl, (blk_cell BK211.out 1).trans rfl, (blk_cell BK211.out 2).trans rfl⟩ (fun hHeld => ?_); refine with_tabW impl_termText.tab11 impl_termText.bits11 (fun HT_ HW_ => ?_)
                generalize w95.drew = w96 at HO_3 BK203 BK210 BK211 BK212 HB hHeld ⊢
                refine pure_ (i := 0) (N := some 67) (v := ?_) (a' := ?_) #[true, false, false, false, false, false, false, false, false, false, false, false, false, false, false] rfl rfl (any_of HT_.out (by kernel_rfl)) (fun _ _ _ h => h) (Or.inl ⟨by rfl, ?_⟩) ?_ ?_
                rotate_left
                ·intro w'
                 go_simp
                 with_reducible rfl
                rotate_left
                ·simp only [Act.put, List.setIfInBounds_toArray, List.set_cons_zero, List.set_cons_succ, i64_w, i32_w]
                 rfl
                refine pure_ (i := 2) (N := some 69) (v := ?_) (a' := ?_) #[true, false, true, false, false, false, false, false, false, false, false, false, false, false, false] rfl rfl (any_of HT_.out (by kernel_rfl)) (fun _ _ _ h => h) (Or.inl ⟨by rfl, ?_⟩) ?_ ?_
                rotate_left
                ·intro w'
                 go_simp
                 with_reducible rfl
                rotate_left
                ·simp only [Act.put, List.setIfInBounds_toArray, List.set_cons_zero, List.set_cons_succ, i64_w, i32_w]
                 rfl
                refine pure_ (i := 6) (N := some 73) (v := ?_) (a' := ?_) #[true, false, true, false, false, false, true, false, false, false, false, false, false, false, false] rfl rfl (any_of HT_.out (by kernel_rfl)) (fun _ _ _ h => h) (Or.inl ⟨by rfl, ?_⟩) ?_ ?_
                rotate_left
                ·intro w'
                 go_simp
                 with_reducible rfl
                rotate_left
                ·simp only [Act.put, List.setIfInBounds_toArray, List.set_cons_zero, List.set_cons_succ, i64_w, i32_w]
                 rfl
                refine pure_ (i := 8) (N := some 75) (v := ?_) (a' := ?_) #[true, false, true, false, false, false, true, false, true, false, false, false, false, false, false] rfl rfl (any_of HT_.out (by kernel_rfl)) (fun _ _ _ h => h) (Or.inl ⟨by rfl, ?_⟩) ?_ ?_
                rotate_left
                ·intro w'
                 go_simp
                 with_reducible rfl
                rotate_left
                ·simp only [Act.put, List.setIfInBounds_toArray, List.set_cons_zero, List.set_cons_succ, i64_w, i32_w]
                 rfl
                refine take_ (i := 1) (N := some 68) (v := ?_) (a' := ?_) #[true, true, true, false, false, false, true, false, true, false, false, false, false, false, false] rfl rfl (take_ofW HT_.out HW_.out (by kernel_rfl)) (fun _ _ _ h => h) (Or.inl ⟨by rfl, ?_⟩) hHeld ?_ ?_
                rotate_left
                ·rintro w' ⟨s0, s1, s2, s3, s4, s5⟩
                 go_simp
                 with_reducible rfl
                rotate_left
                ·simp only [Act.put, List.setIfInBounds_toArray, List.set_cons_zero, List.set_cons_succ, i64_w, i32_w]
                 rfl
                refine take_ (i := 3) (N := some 70) (v := ?_) (a' := ?_) #[true, true, true, true, false, false, true, false, true, false, false, false, false, false, false] rfl rfl (take_ofW HT_.out HW_.out (by kernel_rfl)) (fun _ _ _ h => h) (Or.inl ⟨by rfl, ?_⟩) hHeld ?_ ?_
                rotate_left
                ·rintro w' ⟨s0, s1, s2, s3, s4, s5⟩
                 go_simp
                 with_reducible rfl
                rotate_left
                ·simp only [Act.put, List.setIfInBounds_toArray, List.set_cons_zero, List.set_cons_succ, i64_w, i32_w]
                 rfl
                refine take_ (i := 7) (N := some 74) (v := ?_) (a' := ?_) #[true, true, true, true, false, false, true, true, true, false, false, false, false, false, false] rfl rfl (take_ofW HT_.out HW_.out (by kernel_rfl)) (fun _ _ _ h => h) (Or.inl ⟨by rfl, ?_⟩) hHeld ?_ ?_
                rotate_left
                ·rintro w' ⟨s0, s1, s2, s3, s4, s5⟩
                 go_simp
                 with_reducible rfl
                rotate_left
                ·simp only [Act.put, List.setIfInBounds_toArray, List.set_cons_zero, List.set_cons_succ, i64_w, i32_w]
                 rfl
                refine take_ (i := 9) (N := some 76) (v := ?_) (a' := ?_) #[true, true, true, true, false, false, true, true, true, true, false, false, false, false, false] rfl rfl (take_ofW HT_.out HW_.out (by kernel_rfl)) (fun _ _ _ h => h) (Or.inl ⟨by rfl, ?_⟩) hHeld ?_ ?_
                rotate_left
                ·rintro w' ⟨s0, s1, s2, s3, s4, s5⟩
                 go_simp
                 with_reducible rfl
                rotate_left
                ·simp only [Act.put, List.setIfInBounds_toArray, List.set_cons_zero, List.set_cons_succ, i64_w, i32_w]
                 rfl
                refine pure_ (i := 10) (N := some 77) (v := ?_) (a' := ?_) #[true, true, true, true, false, false, true, true, true, true, true, false, false, false, false] rfl rfl (any_of HT_.out (by kernel_rfl)) (fun _ _ _ h => h) (Or.inl ⟨by rfl, ?_⟩) ?_ ?_
                rotate_left
                ·intro w'
                 go_simp
                 with_reducible rfl
                rotate_left
                ·simp only [Act.put, List.setIfInBounds_toArray, List.set_cons_zero, List.set_cons_succ, i64_w, i32_w]
                 rfl
                refine one_ (i := 4) (N := some 71) #[true, true, true, true, true, false, true, true, true, true, true, false, false, false, false] rfl rfl (one_of HT_.out (by kernel_rfl)) (by decide) (fun K hK => ?_)
                refine goes_ Tryd.func29 (by kernel_rfl) rfl #[.string ((rd_T54 x3_1 (ji20)).f0), .bool ((rd_T54 x3_1 (ji20)).f1)] (by rfl) rfl rfl (by (try simp only [List.map_toArray, List.map_cons, List.map_nil]); first | done | (simp only [hji20]; rfl) | rfl | (simp only [List.length_drop, List.length_take]; rfl)) ?_
                with_reducible refine (impl_wrapped.calls ((rd_T54 x3_1 (ji20)).f0) ((rd_T54 x3_1 (ji20)).f1) t220 _ A64.out).mono ?_
                rintro e w' ⟨rfl, ⟨nd, rfl⟩⟩
                refine ⟨_, rfl, ?_⟩
                refine hK.out _ _ ⟨(blk_cell BK210.out 0).trans rfl, (blk_cell BK210.out 1).trans rfl, (blk_cell BK210.out 2).trans rfl, (blk_cell BK211.out 0).trans rfl, (blk_cell BK211.out 1).trans rfl, (blk_cell BK211.out 2).trans rfl⟩ (fun hHeld => ?_)
                clear hK K
                have n0_ := Aside0.mk (Kd.R_drewN HO_3.out nd); have n1_ := Aside0.mk (blk_drewN BK203.out nd); have n2_ := Aside0.mk (blk_drewN BK210.out nd); have n3_ := Aside0.mk (blk_drewN BK211.out nd); have n4_ := Aside0.mk (blk_drewN BK212.out nd); have n5_ := Aside0.mk (pw_below_drewN HB.out nd); clear HO_3 BK203 BK210 BK211 BK212 HB
                generalize w96.drewN nd = w96 at n0_ n1_ n2_ n3_ n4_ n5_ hHeld ⊢
                have HO_3 := n0_; have BK203 := n1_; have BK210 := n2_; have BK211 := n3_; have BK212 := n4_; have HB := n5_; clear n0_ n1_ n2_ n3_ n4_ n5_
                refine norm_ (a' := ?_) ?_ ?_
                rotate_left
                ·show Act.put _ (some 71) _ = _
                 simp only [Act.put, List.setIfInBounds_toArray, List.set_cons_zero, List.set_cons_succ, i64_w, i32_w]
                 rfl
                refine pure_ (i := 5) (N := some 72) (v := ?_) (a' := ?_) #[true, true, true, true, true, true, true, true, true, true, true, false, false, false, false] rfl rfl (any_of HT_.out (by kernel_rfl)) (fun _ _ _ h => h) (Or.inl ⟨by rfl, ?_⟩) ?_ ?_
                rotate_left
                ·intro w'
                 go_simp
                 with_reducible rfl
                rotate_left
                ·simp only [Act.put, List.setIfInBounds_toArray, List.set_cons_zero, List.set_cons_succ, i64_w, i32_w]
                 rfl
                refine one_ (i := 11) (N := some 78) #[true, true, true, true, true, true, true, true, true, true, true, true, false, false, false] rfl rfl (one_of HT_.out (by kernel_rfl)) (by decide) (fun K hK => ?_)
                refine goes_ Tryd.func29 (by kernel_rfl) rfl #[.string ((rd_T54 x3_1 (ji23)).f0), .bool (decide (((rd_T54 x3_1 (ji23)).f2) > 1))] (by rfl) rfl rfl (by (try simp only [List.map_toArray, List.map_cons, List.map_nil]); first | done | (simp only [hji23]; rfl) | rfl | (simp only [List.length_drop, List.length_take]; rfl)) ?_
                with_reducible refine (impl_wrapped.calls ((rd_T54 x3_1 (ji23)).f0) (decide (((rd_T54 x3_1 (ji23)).f2) > 1)) t221 _ A66.out).mono ?_
                rintro e w' ⟨rfl, ⟨nd, rfl⟩⟩
                refine ⟨_, rfl, ?_⟩
                refine hK.out _ _ ⟨(blk_cell BK210.out 0).trans rfl, (blk_cell BK210.out 1).trans rfl, (blk_cell BK210.out 2).trans rfl, (blk_cell BK211.out 0).trans rfl, (blk_cell BK211.out 1).trans rfl, (blk_cell BK211.out 2).trans rfl⟩ (fun hHeld => ?_)
                clear hK K
                have n0_ := Aside0.mk (Kd.R_drewN HO_3.out nd); have n1_ := Aside0.mk (blk_drewN BK203.out nd); have n2_ := Aside0.mk (blk_drewN BK210.out nd); have n3_ := Aside0.mk (blk_drewN BK211.out nd); have n4_ := Aside0.mk (blk_drewN BK212.out nd); have n5_ := Aside0.mk (pw_below_drewN HB.out nd); clear HO_3 BK203 BK210 BK211 BK212 HB
                generalize w96.drewN nd = w96 at n0_ n1_ n2_ n3_ n4_ n5_ hHeld ⊢
                have HO_3 := n0_; have BK203 := n1_; have BK210 := n2_; have BK211 := n3_; have BK212 := n4_; have HB := n5_; clear n0_ n1_ n2_ n3_ n4_ n5_
                refine norm_ (a' := ?_) ?_ ?_
                rotate_left
                ·show Act.put _ (some 78) _ = _
                 simp only [Act.put, List.setIfInBounds_toArray, List.set_cons_zero, List.set_cons_succ, i64_w, i32_w]
                 rfl
                refine pure_ (i := 12) (N := some 79) (v := ?_) (a' := ?_) #[true, true, true, true, true, true, true, true, true, true, true, true, true, false, false] rfl rfl (any_of HT_.out (by kernel_rfl)) (fun _ _ _ h => h) (Or.inl ⟨by rfl, ?_⟩) ?_ ?_
                rotate_left
                ·intro w'
                 go_simp
                 with_reducible rfl
                rotate_left
                ·simp only [Act.put, List.setIfInBounds_toArray, List.set_cons_zero, List.set_cons_succ, i64_w, i32_w]
                 rfl
                refine pure_ (i := 13) (N := some 80) (v := ?_) (a' := ?_) #[true, true, true, true, true, true, true, true, true, true, true, true, true, true, false] rfl rfl (any_of HT_.out (by kernel_rfl)) (fun _ _ _ h => h) (Or.inl ⟨by rfl, ?_⟩) ?_ ?_
                rotate_left
                ·intro w'
                 go_simp
                 with_reducible rfl
                rotate_left
                ·simp only [Act.put, List.setIfInBounds_toArray, List.set_cons_zero, List.set_cons_succ, i64_w, i32_w]
                 rfl
                refine one_ (i := 14) (N := none) #[true, true, true, true, true, true, true, true, true, true, true, true, true, true, true] rfl rfl (one_of HT_.out (by kernel_rfl)) (by decide) (fun K hK => ?_)
                have hs97 : w96.cell? ⟨gb212, 0, none⟩ = some (.string (⟨#[]⟩ : ByteArray)) := (blk_cell BK212.out 0).trans rfl; have hfs97 := blk_frozen BK212.out 0; have hns97_0 := NB203_212.out; have hns97_1 := NB210_212.out; have hns97_2 := NB211_212.out; have hms97_0 := NB212_203.out; have hms97_1 := NB212_210.out; have hms97_2 := NB212_211.out
                refine skip_ (w1 := ?_) (by rfl) rfl ?_ ?_
                rotate_left
                ·go_simp
                 rfl
                refine hK.out _ _ ⟨((cell_far (p := ⟨gb212, _, none⟩) NB210_212.out _).trans (hHeld.1)), ((cell_far (p := ⟨gb212, _, none⟩) NB210_212.out _).trans (hHeld.2.1)), ((cell_far (p := ⟨gb212, _, none⟩) NB210_212.out _).trans (hHeld.2.2.1)), ((cell_far (p := ⟨gb212, _, none⟩) NB211_212.out _).trans (hHeld.2.2.2.1)), ((cell_far (p := ⟨gb212, _, none⟩) NB211_212.out _).trans (hHeld.2.2.2.2.1)), ((cell_far (p := ⟨gb212, _, none⟩) NB211_212.out _).trans (hHeld.2.2.2.2.2))⟩ (fun hHeld => ?_)
                clear hK K
                refine done_ (done_of HT_.out (by kernel_rfl)) ?_
                try go_wp2
                have n0_ : Aside0 (Kd.R k54 54 (w96.setCell ⟨gb212, 0, none⟩ (.string ((t220 ++ (⟨#[38]⟩ : ByteArray)) ++ t221))) w.heap.size (fun k_ => k_ ≠ gb210 ∧ k_ ≠ gb211 ∧ k_ ≠ gb212) (.slice (some ad208) x3_1.length co74) x3_1) := ⟨by (with_reducible repeat (first | apply Kd.R_alloc | apply Kd.R_drewN | apply Kd.R_drew)); exact Kd.R_mono (Kd.R_far (p := ⟨gb212, 0, none⟩) (Kd.R_mono HO_3.out (fun k_ hk => (⟨hk, hk.2.2⟩ : _ ∧ k_ ≠ gb212))) (fun _ hk => hk.2) (.string ((t220 ++ (⟨#[38]⟩ : ByteArray)) ++ t221))) (fun _ hk => ⟨hk.1.1, ⟨hk.1.2.1, hk.1.2.2⟩⟩)⟩; have n1_ : Aside0 ((w96.setCell ⟨gb212, 0, none⟩ (.string ((t220 ++ (⟨#[38]⟩ : ByteArray)) ++ t221))).heap[gb203]? = some (.cells #[.int .i64 ((rd_T41 l0 x12_1).f0), .int .i64 ((rd_T41 l0 x12_1).f1), .int .i64 ((rd_T41 l0 x12_1).f2)] 41 (0, 0))) := ⟨by (with_reducible repeat (first | refine blk_drewN ?_ _ | refine blk_drew ?_ | refine blk_alloc ?_ _)); refine blk_far ?_ NB203_212.out _; (with_reducible repeat (first | refine blk_drewN ?_ _ | refine blk_drew ?_ | refine blk_alloc ?_ _)); exact BK203.out⟩; have n2_ : Aside0 ((w96.setCell ⟨gb212, 0, none⟩ (.string ((t220 ++ (⟨#[38]⟩ : ByteArray)) ++ t221))).heap[gb210]? = some (.cells #[.string ((rd_T54 x3_1 (ji20)).f0), .bool ((rd_T54 x3_1 (ji20)).f1), .int .i64 ((rd_T54 x3_1 (ji20)).f2)] 54 (0, 0))) := ⟨by (with_reducible repeat (first | refine blk_drewN ?_ _ | refine blk_drew ?_ | refine blk_alloc ?_ _)); refine blk_far ?_ NB210_212.out _; (with_reducible repeat (first | refine blk_drewN ?_ _ | refine blk_drew ?_ | refine blk_alloc ?_ _)); exact BK210.out⟩; have n3_ : Aside0 ((w96.setCell ⟨gb212, 0, none⟩ (.string ((t220 ++ (⟨#[38]⟩ : ByteArray)) ++ t221))).heap[gb211]? = some (.cells #[.string ((rd_T54 x3_1 (ji23)).f0), .bool ((rd_T54 x3_1 (ji23)).f1), .int .i64 ((rd_T54 x3_1 (ji23)).f2)] 54 (0, 0))) := ⟨by (with_reducible repeat (first | refine blk_drewN ?_ _ | refine blk_drew ?_ | refine blk_alloc ?_ _)); refine blk_far ?_ NB211_212.out _; (with_reducible repeat (first | refine blk_drewN ?_ _ | refine blk_drew ?_ | refine blk_alloc ?_ _)); exact BK211.out⟩; have n4_ : Aside0 ((w96.setCell ⟨gb212, 0, none⟩ (.string ((t220 ++ (⟨#[38]⟩ : ByteArray)) ++ t221))).heap[gb212]? = some (.cells #[.string ((t220 ++ (⟨#[38]⟩ : ByteArray)) ++ t221), .bool false, .int .i64 (wrap64 ((wrap64 (((rd_T54 x3_1 (ji20)).f2) + ((rd_T54 x3_1 (ji23)).f2))) + 1))] 54 (0, 0))) := ⟨by (with_reducible repeat (first | refine blk_drewN ?_ _ | refine blk_drew ?_ | refine blk_alloc ?_ _)); refine blk_put (cs := #[.string (⟨#[]⟩ : ByteArray), .bool false, .int .i64 (wrap64 ((wrap64 (((rd_T54 x3_1 (ji20)).f2) + ((rd_T54 x3_1 (ji23)).f2))) + 1))]) ?_ 0 _ rfl; (with_reducible repeat (first | refine blk_drewN ?_ _ | refine blk_drew ?_ | refine blk_alloc ?_ _)); exact BK212.out⟩; have n5_ : Aside0 (Below w.heap.size w (w96.setCell ⟨gb212, 0, none⟩ (.string ((t220 ++ (⟨#[38]⟩ : ByteArray)) ++ t221)))) := ⟨by repeat (first | (with_reducible first | exact HB.out | apply below_alloc | apply pw_below_drewN | apply below_drew1 | refine below_set ?_ GE203.out | refine below_set ?_ GE210.out | refine below_set ?_ GE211.out | refine below_set ?_ GE212.out) | exact HB.out)⟩
                (try clear HO_3)
                (try clear BK203)
                (try clear BK210)
                (try clear BK211)
                (try clear BK212)
                (try clear HB)
                generalize (w96.setCell ⟨gb212, 0, none⟩ (.string ((t220 ++ (⟨#[38]⟩ : ByteArray)) ++ t221))) = w98 at n0_ n1_ n2_ n3_ n4_ n5_ ⊢
                have HO_3 := n0_; have BK203 := n1_; have BK210 := n2_; have BK211 := n3_; have BK212 := n4_; have HB := n5_; clear n0_ n1_ n2_ n3_ n4_ n5_
                (try (rw [drewN_self w98]; generalize hq_ : World.drewN w98 _ = w98; have n0_ : Aside0 (Kd.R k54 54 w98 w.heap.size (fun k_ => k_ ≠ gb210 ∧ k_ ≠ gb211 ∧ k_ ≠ gb212) (.slice (some ad208) x3_1.length co74) x3_1) := ⟨by rw [← hq_]; exact (r_ HO_3.out)⟩; have n1_ : Aside0 (w98.heap[gb203]? = some (.cells #[.int .i64 ((rd_T41 l0 x12_1).f0), .int .i64 ((rd_T41 l0 x12_1).f1), .int .i64 ((rd_T41 l0 x12_1).f2)] 41 (0, 0))) := ⟨by rw [← hq_]; exact (bk_ BK203.out)⟩; have n2_ : Aside0 (w98.heap[gb210]? = some (.cells #[.string ((rd_T54 x3_1 (ji20)).f0), .bool ((rd_T54 x3_1 (ji20)).f1), .int .i64 ((rd_T54 x3_1 (ji20)).f2)] 54 (0, 0))) := ⟨by rw [← hq_]; exact (bk_ BK210.out)⟩; have n3_ : Aside0 (w98.heap[gb211]? = some (.cells #[.string ((rd_T54 x3_1 (ji23)).f0), .bool ((rd_T54 x3_1 (ji23)).f1), .int .i64 ((rd_T54 x3_1 (ji23)).f2)] 54 (0, 0))) := ⟨by rw [← hq_]; exact (bk_ BK211.out)⟩; have n4_ : Aside0 (w98.heap[gb212]? = some (.cells #[.string ((t220 ++ (⟨#[38]⟩ : ByteArray)) ++ t221), .bool false, .int .i64 (wrap64 ((wrap64 (((rd_T54 x3_1 (ji20)).f2) + ((rd_T54 x3_1 (ji23)).f2))) + 1))] 54 (0, 0))) := ⟨by rw [← hq_]; exact (bk_ BK212.out)⟩; have n5_ : Aside0 (Below w.heap.size w w98) := ⟨by rw [← hq_]; exact (by repeat (first | (with_reducible first | exact HB.out | apply below_alloc | apply pw_below_drewN | apply below_drew1 | refine below_set ?_ GE203.out | refine below_set ?_ GE210.out | refine below_set ?_ GE211.out | refine below_set ?_ GE212.out) | exact HB.out))⟩; clear HO_3 BK203 BK210 BK211 BK212 HB hq_; have HO_3 := n0_; have BK203 := n1_; have BK210 := n2_; have BK211 := n3_; have BK212 := n4_; have HB := n5_; clear n0_ n1_ n2_ n3_ n4_ n5_))
                have n0_ := Aside0.mk (Kd.R_drew HO_3.out); have n1_ := Aside0.mk (blk_drew BK203.out); have n2_ := Aside0.mk (blk_drew BK210.out); have n3_ := Aside0.mk (blk_drew BK211.out); have n4_ := Aside0.mk (blk_drew BK212.out); have n5_ := Aside0.mk (below_drew1 HB.out); clear HO_3 BK203 BK210 BK211 BK212 HB; have HO_3 := n0_; have BK203 := n1_; have BK210 := n2_; have BK211 := n3_; have BK212 := n4_; have HB := n5_; clear n0_ n1_ n2_ n3_ n4_ n5_; have q100 : ((ji20) : Int) ≤ ((x3_1.length : Int) : Int) := of_decide_eq_true as_; obtain ⟨i0100, hi0100, _, hsz100, _⟩ := info_parts info54; have hcut100 := cut_to (P := Tryd.prog) 52 54 .i64 Tryd.underlying52 hi0100 (some ad208) x3_1.length co74 (ji20) (of_decide_eq_true as_) q100 (Kd.R_reads' HO_3.out).2.1; have hr100 := Kd.R_take (m := ((ji20) : Int).toNat) HO_3.out (by omega); have hy100 : y222.length = ((ji20) : Int).toNat := (by rw [Ny222.out, List.length_take]; omega)
                rw [← Ny222.out] at hr100
                rw [← hy100] at hr100 hcut100
                clear hy100 hi0100 hsz100 HO_3; have HO224 := Aside0.mk hr100; clear hr100; replace q100 := eq_true q100
                refine start_ (n := 9) (S := fun w' => w'.cell? ⟨gb212, 0, none⟩ = some (.string ((t220 ++ (⟨#[38]⟩ : ByteArray)) ++ t221)) ∧ w'.cell? ⟨gb212, 1, none⟩ = some (.bool false) ∧ w'.cell? ⟨gb212, 2, none⟩ = some (.int .i64 (wrap64 ((wrap64 (((rd_T54 x3_1 (ji20)).f2) + ((rd_T54 x3_1 (ji23)).f2))) + 1)))) (ds := []) #[false, false, false, false, false, false, false, false, false] (by kernel_rfl) rfl rfl ⟨(blk_cell BK212.out 0).trans rfl, (blk_cell BK212.out 1).trans rfl, (blk_cell BK212.out 2).trans rfl⟩ (fun hHeld => ?_); refine with_tabW impl_termText.tab12 impl_termText.bits12 (fun HT_ HW_ => ?_)
                generalize w98.drew = w99 at BK203 BK210 BK211 BK212 HB HO224 hHeld ⊢
                refine pure_ (i := 0) (N := some 81) (v := ?_) (a' := ?_) #[true, false, false, false, false, false, false, false, false] rfl rfl (any_of HT_.out (by kernel_rfl)) (fun _ _ _ h => h) (Or.inl ⟨by rfl, ?_⟩) ?_ ?_
                rotate_left
                ·intro w'
                 go_simp
                 with_reducible rfl
                rotate_left
                ·simp only [Act.put, List.setIfInBounds_toArray, List.set_cons_zero, List.set_cons_succ, i64_w, i32_w]
                 rfl
                refine pure_ (i := 1) (N := some 82) (v := ?_) (a' := ?_) #[true, true, false, false, false, false, false, false, false] rfl rfl (any_of HT_.out (by kernel_rfl)) (fun _ _ _ h => h) (Or.inl ⟨by rfl, ?_⟩) ?_ ?_
                rotate_left
                ·intro w'
                 go_simp
                 with_reducible rfl
                rotate_left
                ·simp only [Act.put, List.setIfInBounds_toArray, List.set_cons_zero, List.set_cons_succ, i64_w, i32_w]
                 rfl
                refine pure_ (i := 2) (N := some 83) (v := ?_) (a' := ?_) #[true, true, true, false, false, false, false, false, false] rfl rfl (any_of HT_.out (by kernel_rfl)) (fun _ _ _ h => h) (Or.inl ⟨by rfl, ?_⟩) ?_ ?_
                rotate_left
                ·intro w'
                 go_simp
                 with_reducible rfl
                rotate_left
                ·simp only [Act.put, List.setIfInBounds_toArray, List.set_cons_zero, List.set_cons_succ, i64_w, i32_w]
                 rfl
                refine pure_ (i := 3) (N := some 84) (v := ?_) (a' := ?_) #[true, true, true, true, false, false, false, false, false] rfl rfl (any_of HT_.out (by kernel_rfl)) (fun _ _ _ h => h) (Or.inl ⟨by rfl, ?_⟩) ?_ ?_
                rotate_left
                ·intro w'
                 go_simp
                 with_reducible rfl
                rotate_left
                ·simp only [Act.put, List.setIfInBounds_toArray, List.set_cons_zero, List.set_cons_succ, i64_w, i32_w]
                 rfl
                refine pure_ (i := 4) (N := some 85) (v := ?_) (a' := ?_) #[true, true, true, true, true, false, false, false, false] rfl rfl (any_of HT_.out (by kernel_rfl)) (fun _ _ _ h => h) (Or.inl ⟨by rfl, ?_⟩) ?_ ?_
                rotate_left
                ·intro w'
                 go_simp
                 with_reducible rfl
                rotate_left
                ·simp only [Act.put, List.setIfInBounds_toArray, List.set_cons_zero, List.set_cons_succ, i64_w, i32_w]
                 rfl
                refine take_ (i := 5) (N := some 86) (v := ?_) (a' := ?_) #[true, true, true, true, true, true, false, false, false] rfl rfl (take_ofW HT_.out HW_.out (by kernel_rfl)) (fun _ _ _ h => h) (Or.inl ⟨by rfl, ?_⟩) hHeld ?_ ?_
                rotate_left
                ·rintro w' ⟨s0, s1, s2⟩
                 go_simp
                 with_reducible rfl
                rotate_left
                ·simp only [Act.put, List.setIfInBounds_toArray, List.set_cons_zero, List.set_cons_succ, i64_w, i32_w]
                 rfl
                refine one_ (i := 6) (N := some 87) #[true, true, true, true, true, true, true, false, false] rfl rfl (one_of HT_.out (by kernel_rfl)) (by decide) (fun K hK => ?_)
                refine value_ (w1 := ?_) (v := ?_) (by rfl) rfl ?_ ?_
                rotate_left 2
                ·go_simp
                 constructor
                 ·rfl
                 ·rfl
                refine hK.out _ _ ⟨(blk_cell (blk_alloc BK212.out _) 0).trans rfl, (blk_cell (blk_alloc BK212.out _) 1).trans rfl, (blk_cell (blk_alloc BK212.out _) 2).trans rfl⟩ (fun hHeld => ?_)
                clear hK K
                refine norm_ (a' := ?_) ?_ ?_
                rotate_left
                ·show Act.put _ (some 87) _ = _
                 simp only [Act.put, List.setIfInBounds_toArray, List.set_cons_zero, List.set_cons_succ, i64_w, i32_w]
                 rfl
                refine one_ (i := 7) (N := some 88) #[true, true, true, true, true, true, true, true, false] rfl rfl (one_of HT_.out (by kernel_rfl)) (by decide) (fun K hK => ?_)
                refine Kd.R_append_step k54 (w0 := w) w.heap.size (by rfl) (.tmp 85) (.tmp 87) 52 54 (.agg #[(.string ⟨#[]⟩), (.bool false), (.int .i64 0)]) 32 rfl Tryd.underlying52 info54 rfl (by decide) (by omega) (.slice (some ad208) y222.length co74) y222 (⟨(t220 ++ (⟨#[38]⟩ : ByteArray)) ++ t221, false, wrap64 ((wrap64 (((rd_T54 x3_1 (ji20)).f2) + ((rd_T54 x3_1 (ji23)).f2))) + 1)⟩ : S54) [.string ((t220 ++ (⟨#[38]⟩ : ByteArray)) ++ t221), .bool false, .int .i64 (wrap64 ((wrap64 (((rd_T54 x3_1 (ji20)).f2) + ((rd_T54 x3_1 (ji23)).f2))) + 1))] (fun k_ => k_ ≠ gb210 ∧ k_ ≠ gb211 ∧ k_ ≠ gb212) (fun _ => False) rfl rfl ?aP (fun _ hk => hk.elim) ?aF ?aO ?aB ?aS ?aL ?_
                (case aP => exact k54_mkM _ _ _ (⟨(t220 ++ (⟨#[38]⟩ : ByteArray)) ++ t221, false, wrap64 ((wrap64 (((rd_T54 x3_1 (ji20)).f2) + ((rd_T54 x3_1 (ji23)).f2))) + 1)⟩ : S54))
                (case aB => exact (by repeat (first | (with_reducible first | exact HB.out | apply below_alloc | apply pw_below_drewN | apply below_drew1 | refine below_set ?_ GE203.out | refine below_set ?_ GE210.out | refine below_set ?_ GE211.out | refine below_set ?_ GE212.out) | exact HB.out)))
                (case aF => exact (fun k_ hk => ⟨Kd.freshB (g := gb210) (o := .cells #[.string ((rd_T54 x3_1 (ji20)).f0), .bool ((rd_T54 x3_1 (ji20)).f1), .int .i64 ((rd_T54 x3_1 (ji20)).f2)] 54 (0, 0)) (bk_ BK210.out) k_ hk, Kd.freshB (g := gb211) (o := .cells #[.string ((rd_T54 x3_1 (ji23)).f0), .bool ((rd_T54 x3_1 (ji23)).f1), .int .i64 ((rd_T54 x3_1 (ji23)).f2)] 54 (0, 0)) (bk_ BK211.out) k_ hk, Kd.freshB (g := gb212) (o := .cells #[.string ((t220 ++ (⟨#[38]⟩ : ByteArray)) ++ t221), .bool false, .int .i64 (wrap64 ((wrap64 (((rd_T54 x3_1 (ji20)).f2) + ((rd_T54 x3_1 (ji23)).f2))) + 1))] 54 (0, 0)) (bk_ BK212.out) k_ hk⟩))
                (case aO => exact (r_ HO224.out))
                (case aS => exact (below_size (by repeat (first | (with_reducible first | exact HB.out | apply below_alloc | apply pw_below_drewN | apply below_drew1 | refine below_set ?_ GE203.out | refine below_set ?_ GE210.out | refine below_set ?_ GE211.out | refine below_set ?_ GE212.out) | exact HB.out))))
                (case aL => have := LMc69.out; omega)
                intro v226 w101 ho hb hg hat
                rw [← Ny225.out] at ho
                have n0_ := Aside0.mk (blk_grown (g := gb203) (o := .cells #[.int .i64 ((rd_T41 l0 x12_1).f0), .int .i64 ((rd_T41 l0 x12_1).f1), .int .i64 ((rd_T41 l0 x12_1).f2)] 41 (0, 0)) (bk_ BK203.out) hg (Kd.R_ne HO224.out BK203.out (by decide))); have n1_ := Aside0.mk (blk_grown (g := gb210) (o := .cells #[.string ((rd_T54 x3_1 (ji20)).f0), .bool ((rd_T54 x3_1 (ji20)).f1), .int .i64 ((rd_T54 x3_1 (ji20)).f2)] 54 (0, 0)) (bk_ BK210.out) hg (Kd.R_away HO224.out (fun _ hk => hk.1))); have n2_ := Aside0.mk (blk_grown (g := gb211) (o := .cells #[.string ((rd_T54 x3_1 (ji23)).f0), .bool ((rd_T54 x3_1 (ji23)).f1), .int .i64 ((rd_T54 x3_1 (ji23)).f2)] 54 (0, 0)) (bk_ BK211.out) hg (Kd.R_away HO224.out (fun _ hk => hk.2.1))); have n3_ := Aside0.mk (blk_grown (g := gb212) (o := .cells #[.string ((t220 ++ (⟨#[38]⟩ : ByteArray)) ++ t221), .bool false, .int .i64 (wrap64 ((wrap64 (((rd_T54 x3_1 (ji20)).f2) + ((rd_T54 x3_1 (ji23)).f2))) + 1))] 54 (0, 0)) (bk_ BK212.out) hg (Kd.R_away HO224.out (fun _ hk => hk.2.2))); have n4_ := Aside0.mk (hb); have n5_ := Aside0.mk (ho); clear BK203 BK210 BK211 BK212 HB HO224; have BK203 := n0_; have BK210 := n1_; have BK211 := n2_; have BK212 := n3_; have HB := n4_; have HO227 := n5_; clear n0_ n1_ n2_ n3_ n4_ n5_ ho hb hg hat
                refine hK.out _ _ ⟨(blk_cell BK212.out 0).trans rfl, (blk_cell BK212.out 1).trans rfl, (blk_cell BK212.out 2).trans rfl⟩ (fun hHeld => ?_)
                clear hK K
                refine norm_ (a' := ?_) ?_ ?_
                rotate_left
                ·show Act.put _ (some 88) _ = _
                 simp only [Act.put, List.setIfInBounds_toArray, List.set_cons_zero, List.set_cons_succ, i64_w, i32_w]
                 rfl
                refine pure_ (i := 8) (N := some 3) (v := ?_) (a' := ?_) #[true, true, true, true, true, true, true, true, true] rfl rfl (any_of HT_.out (by kernel_rfl)) (fun _ _ _ h => h) (Or.inl ⟨by rfl, ?_⟩) ?_ ?_
                rotate_left
                ·intro w'
                 go_simp
                 with_reducible rfl
                rotate_left
                ·simp only [Act.put, List.setIfInBounds_toArray, List.set_cons_zero, List.set_cons_succ, i64_w, i32_w]
                 rfl
                refine done_ (done_of HT_.out (by kernel_rfl)) ?_
                try go_wp2
                go_roundg k1
                case measure => have := HK1.out; omega
                case rel => exact ⟨(y225), (wrap64 (x12_1 + 1)), si_, H', ⟨by have := HK1.out; omega⟩, ⟨by (with_reducible repeat (first | apply Kd.R_alloc | apply Kd.R_drewN | apply Kd.R_drew)); exact Kd.R_mono HO227.out (fun _ hk => trivial)⟩, ⟨by repeat (first | (with_reducible first | exact HB.out | apply below_alloc | apply pw_below_drewN | apply below_drew1 | refine below_set ?_ GE203.out | refine below_set ?_ GE210.out | refine below_set ?_ GE211.out | refine below_set ?_ GE212.out) | exact HB.out)⟩⟩
               ·rw [if_neg c69] at H
                exact absurd H (by simp)
              ·rw [if_neg c68] at H
               exact absurd H (by simp)
             ·rw [if_neg c67] at H
              exact absurd H (by simp)
            ·rw [if_neg c65] at H
             exact absurd H (by simp)
          ·rw [if_neg c25] at H
           exact absurd H (by simp)
         ·rw [if_neg c24] at H
          exact absurd H (by simp)
        ·rw [if_neg c22] at H
         exact absurd H (by simp)
       ·rw [if_neg c21] at H
        exact absurd H (by simp)
     ·rw [if_neg c6] at H
      exact absurd H (by simp)
    ·rw [if_neg c5] at H
     exact absurd H (by simp)
   ·rw [if_neg c4] at H
    have c4b0 : decide (x12_1 < (l0.length : Int)) = false := decide_eq_false c4; clear c4
    by_cases c102 : 0 < (x3_1.length : Int)
    ·rw [if_pos c102] at H
     have c102b0 : decide (0 < (x3_1.length : Int)) = true := decide_eq_true c102; have c102b1 : decide (0 < x3_1.length) = true := decide_eq_true (by omega); clear c102; obtain rfl := Option.some.inj H; obtain ⟨Ao103, co103, eo103⟩ := Kd.R_slice HO_3.out; subst eo103; have p201 : 0 ≤ (0 : Int) := (by omega); have q201 : 0 < (x3_1.length : Int) := of_decide_eq_true as_; obtain ⟨ad201, e201, hx201_0, hx201_1, hx201_2⟩ := at_T54 (Kd.R_reads' HO_3.out).2.2 0 p201 q201; cases e201; have qi201 : (0 < x3_1.length) = True := eq_true (by omega)
     (try rw [show ((0 : Int)).toNat = 0 from rfl] at hx201_0)
     (try rw [show 0 * 3 = 0 from rfl] at hx201_0)
     (try rw [Addr.add_zero'] at hx201_0)
     (try rw [show ((0 : Int)).toNat = 0 from rfl] at hx201_1)
     (try rw [show 0 * 3 = 0 from rfl] at hx201_1)
     (try rw [Addr.add_zero'] at hx201_1)
     (try rw [show ((0 : Int)).toNat = 0 from rfl] at hx201_2)
     (try rw [show 0 * 3 = 0 from rfl] at hx201_2)
     (try rw [Addr.add_zero'] at hx201_2)
     replace p201 := eq_true p201; replace q201 := eq_true q201
     go_wp2
     go_ret
     exact ⟨sr_, bl_ HB.out⟩
    ·rw [if_neg c102] at H
     exact absurd H (by simp)

end Go.Proofs.YtngcadbabkjllaaDoor.PFnExactTermText
