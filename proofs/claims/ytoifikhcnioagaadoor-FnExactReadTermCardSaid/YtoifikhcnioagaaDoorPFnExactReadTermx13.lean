/- Walks of the functions that this law reaches, one by one, written by a program. No condition. -/
import Derived.Test.YtoifikhcnioagaaDoorPFnExactReadTermx0
import Derived.Test.YtoifikhcnioagaaDoorPFnExactReadTermx6
import Derived.Test.YtoifikhcnioagaaDoorPFnExactReadTermx11
import Derived.Test.YtoifikhcnioagaaDoorPFnExactReadTermx12
namespace Go.Proofs.YtoifikhcnioagaaDoor.PFnExactReadTerm
open Go.RowKit Go.Proofs.YtoifikhcnioagaaDoorW.PrintWords Go.Proofs.YtoifikhcnioagaaDoorW.PrintLast Go.Proofs.YtoifikhcnioagaaDoorW.PrintMore
attribute [local go_sem] max2_int min2_int max_two min_two max_three min_three max_four min_four   -- for this text's walks alone
set_option linter.unusedVariables false
set_option linter.unusedSimpArgs false

/-! ### laws_FnExactReadTerm: function 4 -/
mutual
def laws_FnExactReadTerm.j0 : Nat → ByteArray → List (S54) → Bool → List (S54) → Bool → Bool → Int → List Int → Int → List Int → Option (Bool)
 | 0, _, _, _, _, _, _, _, _, _, _ => none
 | k + 1, x1, x6, x7, x9, x10, x47, x301000, x301001, x315000, x315001 => if x47 = true then (none) else ((laws_toHouse.f k x301000 x301001).bind fun bt320 => ((laws_eqHouse.f k x315000 x315001 bt320.1 bt320.2).bind fun t324 => (if t324 = true then ((laws_markHouse.f k x315000 x315001 1).bind fun bt325 => (if bt325.1 < 0 then (laws_FnExactReadTerm.j1 k x1 x6 x7 x9 true x301000 x301001) else ((laws_eqMarkS.f k x9 x6).bind fun t327 => (if t327 = true then (laws_FnExactReadTerm.j1 k x1 x6 x7 x9 (x10 != x7) x301000 x301001) else (laws_FnExactReadTerm.j1 k x1 x6 x7 x9 true x301000 x301001))))) else (none))))
def laws_FnExactReadTerm.j1 : Nat → ByteArray → List (S54) → Bool → List (S54) → Bool → Int → List Int → Option (Bool)
 | 0, _, _, _, _, _, _, _ => none
 | k + 1, x1, x6, x7, x9, x68, x301000, x301001 => if x68 = true then (none) else ((laws_markMarkS.f k x9 1).bind fun bt328 => ((laws_heldMarkS.f k bt328.2 1).bind fun t330 => (if t330 < 0 then (none) else (if t330 = bt328.1 then ((laws_toHouse.f k x301000 x301001).bind fun bt331 => ((impl_ReadTerm.f k bt331.1 bt331.2 x1).bind fun bt335 => ((laws_eqMarkS.f k bt335.1 x6).bind fun t339 => (if t339 = true then (laws_FnExactReadTerm.j2 k bt328.2 bt328.1 (bt335.2 != x7)) else (laws_FnExactReadTerm.j2 k bt328.2 bt328.1 true))))) else (none)))))
def laws_FnExactReadTerm.j2 : Nat → List (S54) → Int → Bool → Option (Bool)
 | 0, _, _, _ => none
 | k + 1, x9, x12, x95 => if x95 = true then (none) else ((laws_heldMarkS.f k x9 1).bind fun t340 => (if t340 < 0 then (none) else (if t340 = x12 then (some true) else (none))))
end
def laws_FnExactReadTerm.f (k : Nat) (a0_0 : Int) (l0_1 : List Int) (a1 : ByteArray) : Option (Bool) := if (a1.size : Int) > 1048576 then (some true) else ((laws_szHouse.f a0_0 l0_1 1048576).bind fun t301 => (if t301 < 0 then (some true) else ((laws_toHouse.f k a0_0 l0_1).bind fun bt302 => ((spec_ReadTerm.f k bt302.1 bt302.2 a1).bind fun bt306 => ((laws_toHouse.f k a0_0 l0_1).bind fun bt310 => ((impl_ReadTerm.f k bt310.1 bt310.2 a1).bind fun bt315 => ((laws_eqMarkS.f k bt315.1 bt306.1).bind fun t319 => (if t319 = true then (laws_FnExactReadTerm.j0 k a1 bt306.1 bt306.2 bt315.1 bt315.2 (bt315.2 != bt306.2) a0_0 l0_1 bt310.1 bt310.2) else (laws_FnExactReadTerm.j0 k a1 bt306.1 bt306.2 bt315.1 bt315.2 true a0_0 l0_1 bt310.1 bt310.2)))))))))
theorem laws_FnExactReadTerm.mono_l : ∀ k, (∀ y0 y1 y2 y3 y4 y5 y6 y7 y8 y9, LeO (laws_FnExactReadTerm.j0 k y0 y1 y2 y3 y4 y5 y6 y7 y8 y9) (laws_FnExactReadTerm.j0 (k + 1) y0 y1 y2 y3 y4 y5 y6 y7 y8 y9)) ∧ (∀ y0 y1 y2 y3 y4 y5 y6, LeO (laws_FnExactReadTerm.j1 k y0 y1 y2 y3 y4 y5 y6) (laws_FnExactReadTerm.j1 (k + 1) y0 y1 y2 y3 y4 y5 y6)) ∧ (∀ y0 y1 y2, LeO (laws_FnExactReadTerm.j2 k y0 y1 y2) (laws_FnExactReadTerm.j2 (k + 1) y0 y1 y2))
 | 0 => ⟨fun _ _ _ _ _ _ _ _ _ _ r h => by simp [laws_FnExactReadTerm.j0] at h, fun _ _ _ _ _ _ _ r h => by simp [laws_FnExactReadTerm.j1] at h, fun _ _ _ r h => by simp [laws_FnExactReadTerm.j2] at h⟩
 | k + 1 => by
  obtain ⟨ih0, ih1, ih2⟩ := laws_FnExactReadTerm.mono_l k
  refine ⟨?_, ?_, ?_⟩
  ·intro y0 y1 y2 y3 y4 y5 y6 y7 y8 y9
   unfold laws_FnExactReadTerm.j0
   repeat' first
   | (with_reducible exact ih0 _ _ _ _ _ _ _ _ _ _)
   | (with_reducible exact ih1 _ _ _ _ _ _ _)
   | (with_reducible exact ih2 _ _ _)
   | (with_reducible exact impl_ReadTerm.mono _ _ _ _)
   | (with_reducible exact laws_eqHouse.mono _ _ _ _ _)
   | (with_reducible exact laws_eqMarkS.mono _ _ _)
   | (with_reducible exact laws_heldMarkS.mono _ _ _)
   | (with_reducible exact laws_markHouse.mono _ _ _ _)
   | (with_reducible exact laws_markMarkS.mono _ _ _)
   | (with_reducible exact laws_toHouse.mono _ _ _)
   | (with_reducible exact spec_ReadTerm.mono _ _ _ _)
   | (with_reducible exact LeO.refl _)
   | (with_reducible exact LeO.none _)
   | (with_reducible refine LeO.ite ?_ ?_)
   | (with_reducible refine LeO.bind ?_ (fun _ => ?_))
   | exact ih0 _ _ _ _ _ _ _ _ _ _
   | exact ih1 _ _ _ _ _ _ _
   | exact ih2 _ _ _
   | exact impl_ReadTerm.mono _ _ _ _
   | exact laws_eqHouse.mono _ _ _ _ _
   | exact laws_eqMarkS.mono _ _ _
   | exact laws_heldMarkS.mono _ _ _
   | exact laws_markHouse.mono _ _ _ _
   | exact laws_markMarkS.mono _ _ _
   | exact laws_toHouse.mono _ _ _
   | exact spec_ReadTerm.mono _ _ _ _
   | exact LeO.none _
   | refine LeO.ite ?_ ?_
   | refine LeO.bind ?_ (fun _ => ?_)
  ·intro y0 y1 y2 y3 y4 y5 y6
   unfold laws_FnExactReadTerm.j1
   repeat' first
   | (with_reducible exact ih0 _ _ _ _ _ _ _ _ _ _)
   | (with_reducible exact ih1 _ _ _ _ _ _ _)
   | (with_reducible exact ih2 _ _ _)
   | (with_reducible exact impl_ReadTerm.mono _ _ _ _)
   | (with_reducible exact laws_eqHouse.mono _ _ _ _ _)
   | (with_reducible exact laws_eqMarkS.mono _ _ _)
   | (with_reducible exact laws_heldMarkS.mono _ _ _)
   | (with_reducible exact laws_markHouse.mono _ _ _ _)
   | (with_reducible exact laws_markMarkS.mono _ _ _)
   | (with_reducible exact laws_toHouse.mono _ _ _)
   | (with_reducible exact spec_ReadTerm.mono _ _ _ _)
   | (with_reducible exact LeO.refl _)
   | (with_reducible exact LeO.none _)
   | (with_reducible refine LeO.ite ?_ ?_)
   | (with_reducible refine LeO.bind ?_ (fun _ => ?_))
   | exact ih0 _ _ _ _ _ _ _ _ _ _
   | exact ih1 _ _ _ _ _ _ _
   | exact ih2 _ _ _
   | exact impl_ReadTerm.mono _ _ _ _
   | exact laws_eqHouse.mono _ _ _ _ _
   | exact laws_eqMarkS.mono _ _ _
   | exact laws_heldMarkS.mono _ _ _
   | exact laws_markHouse.mono _ _ _ _
   | exact laws_markMarkS.mono _ _ _
   | exact laws_toHouse.mono _ _ _
   | exact spec_ReadTerm.mono _ _ _ _
   | exact LeO.none _
   | refine LeO.ite ?_ ?_
   | refine LeO.bind ?_ (fun _ => ?_)
  ·intro y0 y1 y2
   unfold laws_FnExactReadTerm.j2
   repeat' first
   | (with_reducible exact ih0 _ _ _ _ _ _ _ _ _ _)
   | (with_reducible exact ih1 _ _ _ _ _ _ _)
   | (with_reducible exact ih2 _ _ _)
   | (with_reducible exact impl_ReadTerm.mono _ _ _ _)
   | (with_reducible exact laws_eqHouse.mono _ _ _ _ _)
   | (with_reducible exact laws_eqMarkS.mono _ _ _)
   | (with_reducible exact laws_heldMarkS.mono _ _ _)
   | (with_reducible exact laws_markHouse.mono _ _ _ _)
   | (with_reducible exact laws_markMarkS.mono _ _ _)
   | (with_reducible exact laws_toHouse.mono _ _ _)
   | (with_reducible exact spec_ReadTerm.mono _ _ _ _)
   | (with_reducible exact LeO.refl _)
   | (with_reducible exact LeO.none _)
   | (with_reducible refine LeO.ite ?_ ?_)
   | (with_reducible refine LeO.bind ?_ (fun _ => ?_))
   | exact ih0 _ _ _ _ _ _ _ _ _ _
   | exact ih1 _ _ _ _ _ _ _
   | exact ih2 _ _ _
   | exact impl_ReadTerm.mono _ _ _ _
   | exact laws_eqHouse.mono _ _ _ _ _
   | exact laws_eqMarkS.mono _ _ _
   | exact laws_heldMarkS.mono _ _ _
   | exact laws_markHouse.mono _ _ _ _
   | exact laws_markMarkS.mono _ _ _
   | exact laws_toHouse.mono _ _ _
   | exact spec_ReadTerm.mono _ _ _ _
   | exact LeO.none _
   | refine LeO.ite ?_ ?_
   | refine LeO.bind ?_ (fun _ => ?_)
theorem laws_FnExactReadTerm.mono : ∀ a0 a1 a2 k, LeO (laws_FnExactReadTerm.f k a0 a1 a2) (laws_FnExactReadTerm.f (k + 1) a0 a1 a2) := by
 intro a0 a1 a2 k; obtain ⟨ih0, ih1, ih2⟩ := laws_FnExactReadTerm.mono_l k
 unfold laws_FnExactReadTerm.f
 repeat' first
   | (with_reducible exact ih0 _ _ _ _ _ _ _ _ _ _)
   | (with_reducible exact ih1 _ _ _ _ _ _ _)
   | (with_reducible exact ih2 _ _ _)
   | (with_reducible exact impl_ReadTerm.mono _ _ _ _)
   | (with_reducible exact laws_eqHouse.mono _ _ _ _ _)
   | (with_reducible exact laws_eqMarkS.mono _ _ _)
   | (with_reducible exact laws_heldMarkS.mono _ _ _)
   | (with_reducible exact laws_markHouse.mono _ _ _ _)
   | (with_reducible exact laws_markMarkS.mono _ _ _)
   | (with_reducible exact laws_toHouse.mono _ _ _)
   | (with_reducible exact spec_ReadTerm.mono _ _ _ _)
   | (with_reducible exact LeO.refl _)
   | (with_reducible exact LeO.none _)
   | (with_reducible refine LeO.ite ?_ ?_)
   | (with_reducible refine LeO.bind ?_ (fun _ => ?_))
   | exact ih0 _ _ _ _ _ _ _ _ _ _
   | exact ih1 _ _ _ _ _ _ _
   | exact ih2 _ _ _
   | exact impl_ReadTerm.mono _ _ _ _
   | exact laws_eqHouse.mono _ _ _ _ _
   | exact laws_eqMarkS.mono _ _ _
   | exact laws_heldMarkS.mono _ _ _
   | exact laws_markHouse.mono _ _ _ _
   | exact laws_markMarkS.mono _ _ _
   | exact laws_toHouse.mono _ _ _
   | exact spec_ReadTerm.mono _ _ _ _
   | exact LeO.none _
   | refine LeO.ite ?_ ?_
   | refine LeO.bind ?_ (fun _ => ?_)
set_option maxHeartbeats 8000000 in
set_option maxRecDepth 100000 in
theorem laws_FnExactReadTerm.calls (k : Nat) (a0_0 : Int) (A0_1 : Option Addr) (c0_1 : Nat) (l0_1 : List Int) (a1 : ByteArray) (r : Bool) (w : World) (hr0_1 : Kd.C (Kd.int .i64) w A0_1 l0_1.length l0_1) (hc0_1 : l0_1.length ≤ c0_1) (h : laws_FnExactReadTerm.f k a0_0 l0_1 a1 = some r) :
  Calls Tryd.prog 4 #[.agg #[.int .i64 a0_0, .slice A0_1 l0_1.length c0_1], .string a1] w fun e w' => e = .returned (.bool r) ∧ Below w.heap.size w w' := by
 have hu36 := Tryd.underlying36; have hu25 := Tryd.underlying25; have HR0_1 := Aside0.mk hr0_1; have HC0_1 := Aside0.mk hc0_1; clear hr0_1 hc0_1; have HB := Aside0.mk (Below.refl w.heap.size w); have H := h; clear h
 unfold laws_FnExactReadTerm.f at H
 by_cases c3 : (a1.size : Int) > 1048576
 ·rw [if_pos c3] at H
  have c3b0 : decide (1048576 < (a1.size : Int)) = true := decide_eq_true c3; have c3b1 : decide (1048576 < a1.size) = true := decide_eq_true (by omega); clear c3; obtain rfl := Option.some.inj H
  go_enter Tryd.func4, Tryd.ntmps4
  go_wp2_with (first | ((with_reducible refine gate_dst (N := 2) rfl ?_); refine box_event ?hg (N := 2) ?hd (cs := #[.int .i64 a0_0, .slice A0_1 l0_1.length c0_1]) (t := 36) ?hr ?_; (case hd => rfl); (case hg => rfl); (case hr => first | (go_simp; done) | (go_simp; rfl)); intro gb300 hg w4 hbox hb; have n0_ := Aside0.mk (below_step (bl_ HB.out) hb); have n1_ := Aside0.mk (hbox); have n2_ := Aside0.mk ((by rw [hg]; exact (below_size (bl_ HB.out)) : w.heap.size ≤ gb300)); have n3_ := Aside0.mk ((by rw [hg]; exact (below_size (bl_ HB.out)) : w.heap.size ≤ gb300)); clear HB; have HB := n0_; have BK300 := n1_; have GW300 := n2_; have GE300 := n3_; clear n0_ n1_ n2_ n3_; clear hb hbox hg))
  go_ret
  exact ⟨sr_, bs_ HB.out GE300.out⟩
 ·rw [if_neg c3] at H
  have c3b0 : decide (1048576 < (a1.size : Int)) = false := decide_eq_false c3; have c3b1 : decide (1048576 < a1.size) = false := decide_eq_false (by omega); clear c3; replace H := Option.bind_eq_some_iff.mp H; obtain ⟨t301, A50, H⟩ := H
  try dsimp only at H
  have A5 := Aside0.mk A50; clear A50
  by_cases c6 : t301 < 0
  ·rw [if_pos c6] at H
   have c6b0 : decide (t301 < 0) = true := decide_eq_true c6; clear c6; obtain rfl := Option.some.inj H
   go_enter Tryd.func4, Tryd.ntmps4
   go_wp2_with (first | ((with_reducible refine gate_dst (N := 2) rfl ?_); refine box_event ?hg (N := 2) ?hd (cs := #[.int .i64 a0_0, .slice A0_1 l0_1.length c0_1]) (t := 36) ?hr ?_; (case hd => rfl); (case hg => rfl); (case hr => first | (go_simp; done) | (go_simp; rfl)); intro gb300 hg w7 hbox hb; have n0_ := Aside0.mk (below_step (bl_ HB.out) hb); have n1_ := Aside0.mk (hbox); have n2_ := Aside0.mk ((by rw [hg]; exact (below_size (bl_ HB.out)) : w.heap.size ≤ gb300)); have n3_ := Aside0.mk ((by rw [hg]; exact (below_size (bl_ HB.out)) : w.heap.size ≤ gb300)); clear HB; have HB := n0_; have BK300 := n1_; have GW300 := n2_; have GE300 := n3_; clear n0_ n1_ n2_ n3_; clear hb hbox hg; have hcz8_0 : w7.cell? ⟨gb300, 0, none⟩ = some (.int .i64 a0_0) := (blk_cell BK300.out 0).trans rfl; have hcz8_1 : w7.cell? ⟨gb300, 1, none⟩ = some (.slice A0_1 l0_1.length c0_1) := (blk_cell BK300.out 1).trans rfl; have hfz8_0 := blk_frozen BK300.out 0; have hfz8_1 := blk_frozen BK300.out 1) | ((with_reducible refine gate_callee (f := 13) rfl ?_); refine goesL_ (some 21) rfl rfl Tryd.func13 (by kernel_rfl) rfl #[.agg #[.int .i64 a0_0, .slice A0_1 l0_1.length c0_1], .int .i64 1048576] rfl ga_ ?_; (with_reducible refine (laws_szHouse.calls a0_0 _ _ l0_1 1048576 t301 _ ?side1 ?side2 A5.out).mono ?_); (case side1 => exact cs_ (Kd.C_below HR0_1.out HB.out)); (case side2 => exact HC0_1.out); rintro e w9 ⟨rfl, hb⟩; refine ⟨_, rfl, ?_⟩; have n0_ := Aside0.mk (blk_below (g := gb300) (o := .cells #[.int .i64 a0_0, .slice A0_1 l0_1.length c0_1] 36 (0, 0)) (bk_ BK300.out) hb); have n1_ := Aside0.mk (below_step (bs_ HB.out GE300.out) hb); clear BK300; clear HB; have BK300 := n0_; have HB := n1_; clear n0_ n1_; (try clear hb); (try clear hb2); (try clear hk); (try clear hi)))
   go_ret
   exact ⟨sr_, bs_ HB.out GE300.out⟩
  ·rw [if_neg c6] at H
   have c6b0 : decide (t301 < 0) = false := decide_eq_false c6; clear c6; replace H := Option.bind_eq_some_iff.mp H; obtain ⟨⟨t302, t303⟩, A100, H⟩ := H
   try dsimp only at H
   have A10 := Aside0.mk A100; clear A100; replace H := Option.bind_eq_some_iff.mp H; obtain ⟨⟨t306, t309⟩, A110, H⟩ := H
   try dsimp only at H
   have A11 := Aside0.mk A110; clear A110; replace H := Option.bind_eq_some_iff.mp H; obtain ⟨⟨t310, t311⟩, A120, H⟩ := H
   try dsimp only at H
   have A12 := Aside0.mk A120; clear A120; replace H := Option.bind_eq_some_iff.mp H; obtain ⟨⟨t315, t318⟩, A130, H⟩ := H
   try dsimp only at H
   have A13 := Aside0.mk A130; clear A130; have HC14 := Aside0.mk H; clear H
   go_enter Tryd.func4, Tryd.ntmps4
   go_upto_region 10 with (first | ((with_reducible refine gate_dst (N := 2) rfl ?_); refine box_event ?hg (N := 2) ?hd (cs := #[.int .i64 a0_0, .slice A0_1 l0_1.length c0_1]) (t := 36) ?hr ?_; (case hd => rfl); (case hg => rfl); (case hr => first | (go_simp; done) | (go_simp; rfl)); intro gb300 hg w15 hbox hb; have n0_ := Aside0.mk (below_step (bl_ HB.out) hb); have n1_ := Aside0.mk (hbox); have n2_ := Aside0.mk ((by rw [hg]; exact (below_size (bl_ HB.out)) : w.heap.size ≤ gb300)); have n3_ := Aside0.mk ((by rw [hg]; exact (below_size (bl_ HB.out)) : w.heap.size ≤ gb300)); clear HB; have HB := n0_; have BK300 := n1_; have GW300 := n2_; have GE300 := n3_; clear n0_ n1_ n2_ n3_; clear hb hbox hg; have hcz16_0 : w15.cell? ⟨gb300, 0, none⟩ = some (.int .i64 a0_0) := (blk_cell BK300.out 0).trans rfl; have hcz16_1 : w15.cell? ⟨gb300, 1, none⟩ = some (.slice A0_1 l0_1.length c0_1) := (blk_cell BK300.out 1).trans rfl; have hfz16_0 := blk_frozen BK300.out 0; have hfz16_1 := blk_frozen BK300.out 1) | ((with_reducible refine gate_callee (f := 13) rfl ?_); refine goesL_ (some 21) rfl rfl Tryd.func13 (by kernel_rfl) rfl #[.agg #[.int .i64 a0_0, .slice A0_1 l0_1.length c0_1], .int .i64 1048576] rfl ga_ ?_; (with_reducible refine (laws_szHouse.calls a0_0 _ _ l0_1 1048576 t301 _ ?side1 ?side2 A5.out).mono ?_); (case side1 => exact cs_ (Kd.C_below HR0_1.out HB.out)); (case side2 => exact HC0_1.out); rintro e w17 ⟨rfl, hb⟩; refine ⟨_, rfl, ?_⟩; have n0_ := Aside0.mk (blk_below (g := gb300) (o := .cells #[.int .i64 a0_0, .slice A0_1 l0_1.length c0_1] 36 (0, 0)) (bk_ BK300.out) hb); have n1_ := Aside0.mk (below_step (bs_ HB.out GE300.out) hb); clear BK300; clear HB; have BK300 := n0_; have HB := n1_; clear n0_ n1_; (try clear hb); (try clear hb2); (try clear hk); (try clear hi); have hcz18_0 : w17.cell? ⟨gb300, 0, none⟩ = some (.int .i64 a0_0) := (blk_cell BK300.out 0).trans rfl; have hcz18_1 : w17.cell? ⟨gb300, 1, none⟩ = some (.slice A0_1 l0_1.length c0_1) := (blk_cell BK300.out 1).trans rfl; have hfz18_0 := blk_frozen BK300.out 0; have hfz18_1 := blk_frozen BK300.out 1) | ((with_reducible refine gate_callee (f := 14) rfl ?_); refine goesL_ (some 26) rfl rfl Tryd.func14 (by kernel_rfl) rfl #[.agg #[.int .i64 a0_0, .slice A0_1 l0_1.length c0_1]] rfl ga_ ?_; (with_reducible refine (laws_toHouse.calls k a0_0 _ _ l0_1 t302 t303 _ ?side1 ?side2 A10.out).mono ?_); (case side1 => exact cs_ (Kd.C_below HR0_1.out HB.out)); (case side2 => exact HC0_1.out); rintro e w19 ⟨v304, rfl, ho0, hb⟩; refine ⟨_, rfl, ?_⟩; have n0_ := Aside0.mk (Kd.R_lower ho0 (below_size (bs_ HB.out GE300.out))); have n1_ := Aside0.mk (blk_below (g := gb300) (o := .cells #[.int .i64 a0_0, .slice A0_1 l0_1.length c0_1] 36 (0, 0)) (bk_ BK300.out) hb); have n2_ := Aside0.mk (below_step (bs_ HB.out GE300.out) hb); clear BK300; clear HB; have HO305 := n0_; have BK300 := n1_; have HB := n2_; clear n0_ n1_ n2_; (try clear hb); (try clear hb2); (try clear hk); (try clear hi); (try clear ho0); obtain ⟨Ao20, co20, eo20⟩ := Kd.R_slice HO305.out; subst eo20) | ((with_reducible refine gate_callee (f := 8) rfl ?_); refine goesL_ (some 28) rfl rfl Tryd.func8 (by kernel_rfl) rfl #[.agg #[.int .i64 t302, .slice Ao20 t303.length co20], .string a1] rfl ga_ ?_; (with_reducible refine (spec_ReadTerm.calls k t302 _ _ t303 a1 t306 t309 _ ?side1 ?side2 A11.out).mono ?_); (case side1 => repeat (first | exact (Kd.R_reads' HO305.out).2.2 | (with_reducible refine Kd.C_alloc ?_ _) | (with_reducible refine Kd.C_drewN ?_ _) | (with_reducible refine Kd.C_drew ?_))); (case side2 => exact (Kd.R_reads' HO305.out).2.1); rintro e w21 ⟨v307, rfl, ho0, hb⟩; refine ⟨_, rfl, ?_⟩; have n0_ := Aside0.mk (Kd.R_below (r_ HO305.out) hb); have n1_ := Aside0.mk (Kd.R_lower ho0 (below_size (bs_ HB.out GE300.out))); have n2_ := Aside0.mk (blk_below (g := gb300) (o := .cells #[.int .i64 a0_0, .slice A0_1 l0_1.length c0_1] 36 (0, 0)) (bk_ BK300.out) hb); have n3_ := Aside0.mk (below_step (bs_ HB.out GE300.out) hb); clear HO305; clear BK300; clear HB; have HO305 := n0_; have HO308 := n1_; have BK300 := n2_; have HB := n3_; clear n0_ n1_ n2_ n3_; (try clear hb); (try clear hb2); (try clear hk); (try clear hi); (try clear ho0); have hcz22_0 : w21.cell? ⟨gb300, 0, none⟩ = some (.int .i64 a0_0) := (blk_cell BK300.out 0).trans rfl; have hcz22_1 : w21.cell? ⟨gb300, 1, none⟩ = some (.slice A0_1 l0_1.length c0_1) := (blk_cell BK300.out 1).trans rfl; have hfz22_0 := blk_frozen BK300.out 0; have hfz22_1 := blk_frozen BK300.out 1) | ((with_reducible refine gate_callee (f := 14) rfl ?_); refine goesL_ (some 32) rfl rfl Tryd.func14 (by kernel_rfl) rfl #[.agg #[.int .i64 a0_0, .slice A0_1 l0_1.length c0_1]] rfl ga_ ?_; (with_reducible refine (laws_toHouse.calls k a0_0 _ _ l0_1 t310 t311 _ ?side1 ?side2 A12.out).mono ?_); (case side1 => exact cs_ (Kd.C_below HR0_1.out HB.out)); (case side2 => exact HC0_1.out); rintro e w23 ⟨v312, rfl, ho0, hb⟩; refine ⟨_, rfl, ?_⟩; have n0_ := Aside0.mk (Kd.R_elder' (r_ HO305.out) (Kd.R_base ho0) hb); have n1_ := Aside0.mk (Kd.R_below (r_ HO308.out) hb); have n2_ := Aside0.mk (Kd.R_lower (Kd.R_new' ho0 (Kd.R_lt (r_ HO305.out))) (below_size (bs_ HB.out GE300.out))); have n3_ := Aside0.mk (blk_below (g := gb300) (o := .cells #[.int .i64 a0_0, .slice A0_1 l0_1.length c0_1] 36 (0, 0)) (bk_ BK300.out) hb); have n4_ := Aside0.mk (below_step (bs_ HB.out GE300.out) hb); clear HO305; clear HO308; clear BK300; clear HB; have HO305 := n0_; have HO308 := n1_; have HO313 := n2_; have BK300 := n3_; have HB := n4_; clear n0_ n1_ n2_ n3_ n4_; (try clear hb); (try clear hb2); (try clear hk); (try clear hi); (try clear ho0)) | ((with_reducible refine gate_dst (N := 8) rfl ?_); refine box_event ?hg (N := 8) ?hd (cs := #[.int .i64 0, .slice none 0 0]) (t := 25) ?hr ?_; (case hd => rfl); (case hg => rfl); (case hr => first | (go_simp; done) | (go_simp; rfl)); intro gb314 hg w24 hbox hb; have n0_ := Aside0.mk (Kd.R_below (r_ HO305.out) hb); have n1_ := Aside0.mk (Kd.R_below (r_ HO308.out) hb); have n2_ := Aside0.mk (Kd.R_below (r_ HO313.out) hb); have n3_ := Aside0.mk (blk_below (g := gb300) (o := .cells #[.int .i64 a0_0, .slice A0_1 l0_1.length c0_1] 36 (0, 0)) (bk_ BK300.out) hb); have n4_ := Aside0.mk (below_step (bs_ HB.out GE300.out) hb); have n5_ := Aside0.mk (hbox); have n6_ := Aside0.mk ((by rw [hg]; exact (below_size (bs_ HB.out GE300.out)) : w.heap.size ≤ gb314)); have n7_ := Aside0.mk ((by rw [hg]; exact (below_size (bs_ HB.out GE300.out)) : w.heap.size ≤ gb314)); have n8_ := Aside0.mk ((by rw [hg]; exact Nat.ne_of_lt (blk_lt (g := gb300) (o := .cells #[.int .i64 a0_0, .slice A0_1 l0_1.length c0_1] 36 (0, 0)) (bk_ BK300.out)) : gb300 ≠ gb314)); have n9_ := Aside0.mk ((by rw [hg]; exact Nat.ne_of_gt (blk_lt (g := gb300) (o := .cells #[.int .i64 a0_0, .slice A0_1 l0_1.length c0_1] 36 (0, 0)) (bk_ BK300.out)) : gb314 ≠ gb300)); clear HO305; clear HO308; clear HO313; clear BK300; clear HB; have HO305 := n0_; have HO308 := n1_; have HO313 := n2_; have BK300 := n3_; have HB := n4_; have BK314 := n5_; have GW314 := n6_; have GE314 := n7_; have NB300_314 := n8_; have NB314_300 := n9_; clear n0_ n1_ n2_ n3_ n4_ n5_ n6_ n7_ n8_ n9_; clear hb hbox hg; have hnb25 := NB314_300.out; have hnc25 := NB300_314.out; have hcz26_0 : w24.cell? ⟨gb314, 0, none⟩ = some (.int .i64 0) := (blk_cell BK314.out 0).trans rfl; have hcz26_1 : w24.cell? ⟨gb314, 1, none⟩ = some (.slice none 0 0) := (blk_cell BK314.out 1).trans rfl; have hfz26_0 := blk_frozen BK314.out 0; have hfz26_1 := blk_frozen BK314.out 1; obtain ⟨Ao27, co27, eo27⟩ := Kd.R_slice HO313.out; subst eo27) | ((with_reducible refine gate_callee (f := 7) rfl ?_); refine goesL_ (some 36) rfl rfl Tryd.func7 (by kernel_rfl) rfl #[.agg #[.int .i64 t310, .slice Ao27 t311.length co27], .string a1] rfl ga_ ?_; (with_reducible refine (impl_ReadTerm.calls k t310 _ _ t311 a1 t315 t318 _ ?side1 ?side2 A13.out).mono ?_); (case side1 => refine (Kd.R_reads' (e := 3) (base := w.heap.size) (ok := fun k_ => (True ∧ some k_ ≠ (.slice Ao20 t303.length co20 : Value).ownBlock)) (n := t311.length) (c := co27) ?_).2.2; exact (by (with_reducible repeat (first | apply Kd.R_alloc | apply Kd.R_drewN | apply Kd.R_drew)); exact (Kd.R_mono (Kd.R_far (p := ⟨gb314, 1, none⟩) (Kd.R_far (p := ⟨gb314, 0, none⟩) (Kd.R_types HO313.out BK314.out (by decide)) (fun _ hk => hk.2) (.int .i64 t310)) (fun _ hk => hk.2) (.slice Ao27 t311.length co27)) (fun _ h_ => h_.1)))); (case side2 => exact (Kd.R_reads' HO313.out).2.1); rintro e w28 ⟨v316, rfl, ho0, hb⟩; refine ⟨_, rfl, ?_⟩; have n0_ := Aside0.mk (Kd.R_below (by (with_reducible repeat (first | apply Kd.R_alloc | apply Kd.R_drewN | apply Kd.R_drew)); exact (Kd.R_mono (Kd.R_far (p := ⟨gb314, 1, none⟩) (Kd.R_far (p := ⟨gb314, 0, none⟩) (Kd.R_types HO305.out BK314.out (by decide)) (fun _ hk => hk.2) (.int .i64 t310)) (fun _ hk => hk.2) (.slice Ao27 t311.length co27)) (fun _ h_ => h_.1))) hb); have n1_ := Aside0.mk (Kd.R_elder' (by (with_reducible repeat (first | apply Kd.R_alloc | apply Kd.R_drewN | apply Kd.R_drew)); exact (Kd.R_mono (Kd.R_far (p := ⟨gb314, 1, none⟩) (Kd.R_far (p := ⟨gb314, 0, none⟩) (Kd.R_types HO308.out BK314.out (by decide)) (fun _ hk => hk.2) (.int .i64 t310)) (fun _ hk => hk.2) (.slice Ao27 t311.length co27)) (fun _ h_ => h_.1))) (Kd.R_base ho0) hb); have n2_ := Aside0.mk (Kd.R_below (by (with_reducible repeat (first | apply Kd.R_alloc | apply Kd.R_drewN | apply Kd.R_drew)); exact (Kd.R_mono (Kd.R_far (p := ⟨gb314, 1, none⟩) (Kd.R_far (p := ⟨gb314, 0, none⟩) (Kd.R_types HO313.out BK314.out (by decide)) (fun _ hk => hk.2) (.int .i64 t310)) (fun _ hk => hk.2) (.slice Ao27 t311.length co27)) (fun _ h_ => h_.1))) hb); have n3_ := Aside0.mk (Kd.R_lower (Kd.R_new' ho0 (Kd.R_lt (by (with_reducible repeat (first | apply Kd.R_alloc | apply Kd.R_drewN | apply Kd.R_drew)); exact (Kd.R_mono (Kd.R_far (p := ⟨gb314, 1, none⟩) (Kd.R_far (p := ⟨gb314, 0, none⟩) (Kd.R_types HO308.out BK314.out (by decide)) (fun _ hk => hk.2) (.int .i64 t310)) (fun _ hk => hk.2) (.slice Ao27 t311.length co27)) (fun _ h_ => h_.1))))) (below_size (bt_ HB.out GE300.out GE314.out))); have n4_ := Aside0.mk (blk_below (g := gb300) (o := .cells #[.int .i64 a0_0, .slice A0_1 l0_1.length c0_1] 36 (0, 0)) (by refine sb_ ?_; refine blk_far ?_ NB300_314.out _; refine sb_ ?_; refine blk_far ?_ NB300_314.out _; refine sb_ ?_; exact BK300.out) hb); have n5_ := Aside0.mk (blk_below (g := gb314) (o := .cells #[.int .i64 t310, .slice Ao27 t311.length co27] 25 (0, 0)) (by refine sb_ ?_; refine blk_put (cs := #[.int .i64 t310, .slice none 0 0]) ?_ 1 _ rfl; refine sb_ ?_; refine blk_put (cs := #[.int .i64 0, .slice none 0 0]) ?_ 0 _ rfl; refine sb_ ?_; exact BK314.out) hb); have n6_ := Aside0.mk (below_step (bt_ HB.out GE300.out GE314.out) hb); clear HO305; clear HO308; clear HO313; clear BK300; clear BK314; clear HB; have HO305 := n0_; have HO308 := n1_; have HO313 := n2_; have HO317 := n3_; have BK300 := n4_; have BK314 := n5_; have HB := n6_; clear n0_ n1_ n2_ n3_ n4_ n5_ n6_; (try clear hb); (try clear hb2); (try clear hk); (try clear hi); (try clear ho0)))
   (try simp only [Act.put, List.setIfInBounds_toArray, List.set_cons_zero, List.set_cons_succ])
   go_cut [47] (fun v47 wc => ∃ (kq : Nat) (x47_13 : Bool), v47 = .bool x47_13 ∧ Aside0 (laws_FnExactReadTerm.j0 kq a1 t306 t309 t315 t318 x47_13 a0_0 l0_1 t310 t311 = some r) ∧ Aside0 (kq ≤ k) ∧ Aside0 (Kd.R k54 54 wc w.heap.size (fun k_ => some k_ ≠ (v316 : Value).ownBlock) v307 t306) ∧ Aside0 (Kd.R k54 54 wc w.heap.size (fun k_ => some k_ ≠ (v307 : Value).ownBlock) v316 t315) ∧ Aside0 (Kd.R (Kd.int .i64) 3 wc w.heap.size (fun _ => True) (.slice Ao27 t311.length co27) t311) ∧ Aside0 (wc.heap[gb300]? = some (.cells #[.int .i64 a0_0, (.slice A0_1 l0_1.length c0_1)] 36 (0, 0))) ∧ Aside0 (wc.heap[gb314]? = some (.cells #[.int .i64 t310, (.slice Ao27 t311.length co27)] 25 (0, 0))) ∧ Aside0 (Below w.heap.size w wc))
   case first =>
    have H := HC14.out; clear HC14; replace H := Option.bind_eq_some_iff.mp H; obtain ⟨t319, A290, H⟩ := H
    try dsimp only at H
    have A29 := Aside0.mk A290; clear A290
    by_cases c30 : t319 = true
    ·subst c30
     rw [if_pos rfl] at H
     have H' := Aside0.mk H; clear H; obtain ⟨Ao31, co31, eo31⟩ := Kd.R_slice HO317.out; subst eo31; obtain ⟨Ao32, co32, eo32⟩ := Kd.R_slice HO308.out; subst eo32
     go_wp2_with (first | ((with_reducible refine gate_callee (f := 15) rfl ?_); refine goesL_ (some 41) rfl rfl Tryd.func15 (by kernel_rfl) rfl #[.slice Ao31 t315.length co31, .slice Ao32 t306.length co32] rfl ga_ ?_; (with_reducible refine (laws_eqMarkS.calls k _ _ t315 _ _ t306 true _ ?side1 ?side2 ?side3 ?side4 A29.out).mono ?_); (case side1 => repeat (first | exact (Kd.R_reads' HO317.out).2.2 | (with_reducible refine Kd.C_alloc ?_ _) | (with_reducible refine Kd.C_drewN ?_ _) | (with_reducible refine Kd.C_drew ?_))); (case side2 => exact (Kd.R_reads' HO317.out).2.1); (case side3 => repeat (first | exact (Kd.R_reads' HO308.out).2.2 | (with_reducible refine Kd.C_alloc ?_ _) | (with_reducible refine Kd.C_drewN ?_ _) | (with_reducible refine Kd.C_drew ?_))); (case side4 => exact (Kd.R_reads' HO308.out).2.1); rintro e w33 ⟨rfl, hb⟩; refine ⟨_, rfl, ?_⟩; have n0_ := Aside0.mk (Kd.R_below (r_ HO305.out) hb); have n1_ := Aside0.mk (Kd.R_below (r_ HO308.out) hb); have n2_ := Aside0.mk (Kd.R_below (r_ HO313.out) hb); have n3_ := Aside0.mk (Kd.R_below (r_ HO317.out) hb); have n4_ := Aside0.mk (blk_below (g := gb300) (o := .cells #[.int .i64 a0_0, .slice A0_1 l0_1.length c0_1] 36 (0, 0)) (bk_ BK300.out) hb); have n5_ := Aside0.mk (blk_below (g := gb314) (o := .cells #[.int .i64 t310, .slice Ao27 t311.length co27] 25 (0, 0)) (bk_ BK314.out) hb); have n6_ := Aside0.mk (below_step (bt_ HB.out GE300.out GE314.out) hb); clear HO305; clear HO308; clear HO313; clear HO317; clear BK300; clear BK314; clear HB; have HO305 := n0_; have HO308 := n1_; have HO313 := n2_; have HO317 := n3_; have BK300 := n4_; have BK314 := n5_; have HB := n6_; clear n0_ n1_ n2_ n3_ n4_ n5_ n6_; (try clear hb); (try clear hb2); (try clear hk); (try clear hi)))
     go_meet
     case rel => exact ⟨_, ((t318 != t309)), si_, H', ⟨by first | omega | exact Nat.le_refl _⟩, ⟨by (with_reducible repeat (first | apply Kd.R_alloc | apply Kd.R_drewN | apply Kd.R_drew)); exact Kd.R_mono HO308.out (fun _ hk => hk.2)⟩, ⟨by (with_reducible repeat (first | apply Kd.R_alloc | apply Kd.R_drewN | apply Kd.R_drew)); exact Kd.R_mono HO317.out (fun _ hk => hk.2)⟩, ⟨by (with_reducible repeat (first | apply Kd.R_alloc | apply Kd.R_drewN | apply Kd.R_drew)); exact Kd.R_mono HO313.out (fun _ hk => trivial)⟩, ⟨bk_ BK300.out⟩, ⟨bk_ BK314.out⟩, ⟨bt_ HB.out GE300.out GE314.out⟩⟩
    ·replace c30 := Bool.eq_false_iff.mpr c30
     subst c30
     rw [if_neg (show ¬ (false = true) by decide)] at H
     have H' := Aside0.mk H; clear H; obtain ⟨Ao34, co34, eo34⟩ := Kd.R_slice HO317.out; subst eo34; obtain ⟨Ao35, co35, eo35⟩ := Kd.R_slice HO308.out; subst eo35
     go_wp2_with (first | ((with_reducible refine gate_callee (f := 15) rfl ?_); refine goesL_ (some 41) rfl rfl Tryd.func15 (by kernel_rfl) rfl #[.slice Ao34 t315.length co34, .slice Ao35 t306.length co35] rfl ga_ ?_; (with_reducible refine (laws_eqMarkS.calls k _ _ t315 _ _ t306 false _ ?side1 ?side2 ?side3 ?side4 A29.out).mono ?_); (case side1 => repeat (first | exact (Kd.R_reads' HO317.out).2.2 | (with_reducible refine Kd.C_alloc ?_ _) | (with_reducible refine Kd.C_drewN ?_ _) | (with_reducible refine Kd.C_drew ?_))); (case side2 => exact (Kd.R_reads' HO317.out).2.1); (case side3 => repeat (first | exact (Kd.R_reads' HO308.out).2.2 | (with_reducible refine Kd.C_alloc ?_ _) | (with_reducible refine Kd.C_drewN ?_ _) | (with_reducible refine Kd.C_drew ?_))); (case side4 => exact (Kd.R_reads' HO308.out).2.1); rintro e w36 ⟨rfl, hb⟩; refine ⟨_, rfl, ?_⟩; have n0_ := Aside0.mk (Kd.R_below (r_ HO305.out) hb); have n1_ := Aside0.mk (Kd.R_below (r_ HO308.out) hb); have n2_ := Aside0.mk (Kd.R_below (r_ HO313.out) hb); have n3_ := Aside0.mk (Kd.R_below (r_ HO317.out) hb); have n4_ := Aside0.mk (blk_below (g := gb300) (o := .cells #[.int .i64 a0_0, .slice A0_1 l0_1.length c0_1] 36 (0, 0)) (bk_ BK300.out) hb); have n5_ := Aside0.mk (blk_below (g := gb314) (o := .cells #[.int .i64 t310, .slice Ao27 t311.length co27] 25 (0, 0)) (bk_ BK314.out) hb); have n6_ := Aside0.mk (below_step (bt_ HB.out GE300.out GE314.out) hb); clear HO305; clear HO308; clear HO313; clear HO317; clear BK300; clear BK314; clear HB; have HO305 := n0_; have HO308 := n1_; have HO313 := n2_; have HO317 := n3_; have BK300 := n4_; have BK314 := n5_; have HB := n6_; clear n0_ n1_ n2_ n3_ n4_ n5_ n6_; (try clear hb); (try clear hb2); (try clear hk); (try clear hi)))
     go_meet
     case rel => exact ⟨_, (true), si_, H', ⟨by first | omega | exact Nat.le_refl _⟩, ⟨by (with_reducible repeat (first | apply Kd.R_alloc | apply Kd.R_drewN | apply Kd.R_drew)); exact Kd.R_mono HO308.out (fun _ hk => hk.2)⟩, ⟨by (with_reducible repeat (first | apply Kd.R_alloc | apply Kd.R_drewN | apply Kd.R_drew)); exact Kd.R_mono HO317.out (fun _ hk => hk.2)⟩, ⟨by (with_reducible repeat (first | apply Kd.R_alloc | apply Kd.R_drewN | apply Kd.R_drew)); exact Kd.R_mono HO313.out (fun _ hk => trivial)⟩, ⟨bk_ BK300.out⟩, ⟨bk_ BK314.out⟩, ⟨bt_ HB.out GE300.out GE314.out⟩⟩
   case rest =>
    clear HC14; (try clear c1); (try clear c2); (try clear p2); (try clear c3); (try clear c3b0); (try clear c3b1); (try clear c4); (try clear c6); (try clear c6b0); (try clear c7); (try clear c8); (try clear c13); (try clear c14); (try clear c15); (try clear c25); (try clear c30); (try clear hcz16_0); (try clear hcz16_1); (try clear hcz18_0); (try clear hcz18_1); (try clear hcz22_0); (try clear hcz22_1); (try clear hcz26_0); (try clear hcz26_1); (try clear hcz8_0); (try clear hcz8_1); (try clear hfz16_0); (try clear hfz16_1); (try clear hfz18_0); (try clear hfz18_1); (try clear hfz22_0); (try clear hfz22_1); (try clear hfz26_0); (try clear hfz26_1); (try clear hfz8_0); (try clear hfz8_1); obtain ⟨kq, x47_13, rfl, HA, HJ13, HO_6, HO_9, HO_315001, BK300, BK314, HB⟩ := hcut
    cases kq with
    | zero => exact absurd HA.out (by simp [laws_FnExactReadTerm.j0])
    | succ kj13 =>
     have H := HA.out; clear HA
     simp only [laws_FnExactReadTerm.j0] at H
     by_cases c37 : x47_13 = true
     ·subst c37
      rw [if_pos rfl] at H
      exact absurd H (by simp)
     ·replace c37 := Bool.eq_false_iff.mpr c37
      subst c37
      rw [if_neg (show ¬ (false = true) by decide)] at H
      replace H := Option.bind_eq_some_iff.mp H; obtain ⟨⟨t320, t321⟩, A380, H⟩ := H
      try dsimp only at H
      have A38 := Aside0.mk A380; clear A380; replace H := Option.bind_eq_some_iff.mp H; obtain ⟨t324, A390, H⟩ := H
      try dsimp only at H
      have A39 := Aside0.mk A390; clear A390
      by_cases c40 : t324 = true
      ·subst c40
       rw [if_pos rfl] at H
       replace H := Option.bind_eq_some_iff.mp H; obtain ⟨⟨t325, t326⟩, A410, H⟩ := H
       try dsimp only at H
       have A41 := Aside0.mk A410; clear A410; have HC42 := Aside0.mk H; clear H
       try go_wp2
       have n0_ := Aside0.mk (Kd.R_drew HO_6.out); have n1_ := Aside0.mk (Kd.R_drew HO_9.out); have n2_ := Aside0.mk (Kd.R_drew HO_315001.out); have n3_ := Aside0.mk (blk_drew BK300.out); have n4_ := Aside0.mk (blk_drew BK314.out); have n5_ := Aside0.mk (below_drew1 HB.out); clear HO_6 HO_9 HO_315001 BK300 BK314 HB; have HO_6 := n0_; have HO_9 := n1_; have HO_315001 := n2_; have BK300 := n3_; have BK314 := n4_; have HB := n5_; clear n0_ n1_ n2_ n3_ n4_ n5_
       refine start_ (n := 5) (S := fun w' => w'.cell? ⟨gb314, 0, none⟩ = some (.int .i64 t310) ∧ w'.cell? ⟨gb314, 1, none⟩ = some (.slice Ao27 t311.length co27) ∧ w'.cell? ⟨gb300, 0, none⟩ = some (.int .i64 a0_0) ∧ w'.cell? ⟨gb300, 1, none⟩ = some (.slice A0_1 l0_1.length c0_1)) (ds := []) #[false, false, false, false, false] (by kernel_rfl) rfl rfl ⟨(blk_cell BK314.out 0).trans rfl, (blk_cell BK314.out 1).trans rfl, (blk_cell BK300.out 0).trans rfl, (blk_cell BK300.out 1).trans rfl⟩ (fun hHeld => ?_)
       generalize wc.drew = w43 at HO_6 HO_9 HO_315001 BK300 BK314 HB hHeld ⊢
       refine take_ (i := 0) (N := some 48) (v := ?_) (a' := ?_) #[true, false, false, false, false] rfl rfl (by kernel_rfl) (fun _ _ _ h => h) (Or.inl ⟨by rfl, ?_⟩) hHeld ?_ ?_
       rotate_left
       ·rintro w' ⟨s0, s1, s2, s3⟩
        go_simp
        with_reducible rfl
       rotate_left
       ·simp only [Act.put, List.setIfInBounds_toArray, List.set_cons_zero, List.set_cons_succ, i64_w, i32_w]
        rfl
       refine take_ (i := 1) (N := some 49) (v := ?_) (a' := ?_) #[true, true, false, false, false] rfl rfl (by kernel_rfl) (fun _ _ _ h => h) (Or.inl ⟨by rfl, ?_⟩) hHeld ?_ ?_
       rotate_left
       ·rintro w' ⟨s0, s1, s2, s3⟩
        go_simp
        with_reducible rfl
       rotate_left
       ·simp only [Act.put, List.setIfInBounds_toArray, List.set_cons_zero, List.set_cons_succ, i64_w, i32_w]
        rfl
       refine one_ (i := 2) (N := some 50) #[true, true, true, false, false] rfl rfl (by kernel_rfl) (by decide) (fun K hK => ?_)
       refine goes_ Tryd.func14 (by kernel_rfl) rfl #[.agg #[.int .i64 a0_0, .slice A0_1 l0_1.length c0_1]] (by rfl) rfl rfl ga_ ?_
       with_reducible refine (laws_toHouse.calls kj13 a0_0 _ _ l0_1 t320 t321 _ ?side1 ?side2 A38.out).mono ?_
       (case side1 => exact cs_ (Kd.C_below HR0_1.out HB.out))
       (case side2 => exact HC0_1.out)
       rintro e w44 ⟨v322, rfl, ho0, hb⟩
       refine ⟨_, rfl, ?_⟩
       have n0_ := Aside0.mk (Kd.R_below (r_ HO_6.out) hb); have n1_ := Aside0.mk (Kd.R_below (r_ HO_9.out) hb); have n2_ := Aside0.mk (Kd.R_elder' (r_ HO_315001.out) (Kd.R_base ho0) hb); have n3_ := Aside0.mk (Kd.R_lower (Kd.R_new' ho0 (Kd.R_lt (r_ HO_315001.out))) (below_size (bt_ HB.out GE300.out GE314.out))); have n4_ := Aside0.mk (blk_below (g := gb300) (o := .cells #[.int .i64 a0_0, .slice A0_1 l0_1.length c0_1] 36 (0, 0)) (bk_ BK300.out) hb); have n5_ := Aside0.mk (blk_below (g := gb314) (o := .cells #[.int .i64 t310, .slice Ao27 t311.length co27] 25 (0, 0)) (bk_ BK314.out) hb); have n6_ := Aside0.mk (below_step (bt_ HB.out GE300.out GE314.out) hb); clear HO_6 HO_9 HO_315001 BK300 BK314 HB; have HO_6 := n0_; have HO_9 := n1_; have HO_315001 := n2_; have HO323 := n3_; have BK300 := n4_; have BK314 := n5_; have HB := n6_; clear n0_ n1_ n2_ n3_ n4_ n5_ n6_
       (try clear hb)
       (try clear hb2)
       (try clear hk)
       (try clear hi)
       (try clear ho0)
       obtain ⟨Ao45, co45, eo45⟩ := Kd.R_slice HO323.out
       (first | subst eo45 | (injection eo45 with f1_ f2_ f3_; have f4_ := f1_.symm; have f5_ := f3_.symm; clear f1_ f2_ f3_; subst f4_; subst f5_))
       refine hK.out _ _ ⟨(blk_cell BK314.out 0).trans rfl, (blk_cell BK314.out 1).trans rfl, (blk_cell BK300.out 0).trans rfl, (blk_cell BK300.out 1).trans rfl⟩ (fun hHeld => ?_)
       clear hK K
       refine norm_ (a' := ?_) ?_ ?_
       rotate_left
       ·show Act.put _ (some 50) _ = _
        simp only [Act.put, List.setIfInBounds_toArray, List.set_cons_zero, List.set_cons_succ, i64_w, i32_w]
        rfl
       refine one_ (i := 3) (N := some 51) #[true, true, true, true, false] rfl rfl (by kernel_rfl) (by decide) (fun K hK => ?_)
       refine goes_ Tryd.func16 (by kernel_rfl) rfl #[.agg #[.int .i64 t310, .slice Ao27 t311.length co27], .agg #[.int .i64 t320, .slice Ao45 t321.length co45]] (by rfl) rfl rfl ga_ ?_
       with_reducible refine (laws_eqHouse.calls kj13 t310 _ _ t311 t320 _ _ t321 true _ ?side1 ?side2 ?side3 ?side4 A39.out).mono ?_
       (case side1 => repeat (first | exact (Kd.R_reads' HO_315001.out).2.2 | (with_reducible refine Kd.C_alloc ?_ _) | (with_reducible refine Kd.C_drewN ?_ _) | (with_reducible refine Kd.C_drew ?_)))
       (case side2 => exact (Kd.R_reads' HO_315001.out).2.1)
       (case side3 => repeat (first | exact (Kd.R_reads' HO323.out).2.2 | (with_reducible refine Kd.C_alloc ?_ _) | (with_reducible refine Kd.C_drewN ?_ _) | (with_reducible refine Kd.C_drew ?_)))
       (case side4 => exact (Kd.R_reads' HO323.out).2.1)
       rintro e w46 ⟨rfl, hb⟩
       refine ⟨_, rfl, ?_⟩
       have n0_ := Aside0.mk (Kd.R_below (r_ HO_6.out) hb); have n1_ := Aside0.mk (Kd.R_below (r_ HO_9.out) hb); have n2_ := Aside0.mk (Kd.R_below (r_ HO_315001.out) hb); have n3_ := Aside0.mk (Kd.R_below (r_ HO323.out) hb); have n4_ := Aside0.mk (blk_below (g := gb300) (o := .cells #[.int .i64 a0_0, .slice A0_1 l0_1.length c0_1] 36 (0, 0)) (bk_ BK300.out) hb); have n5_ := Aside0.mk (blk_below (g := gb314) (o := .cells #[.int .i64 t310, .slice Ao27 t311.length co27] 25 (0, 0)) (bk_ BK314.out) hb); have n6_ := Aside0.mk (below_step (bt_ HB.out GE300.out GE314.out) hb); clear HO_6 HO_9 HO_315001 HO323 BK300 BK314 HB; have HO_6 := n0_; have HO_9 := n1_; have HO_315001 := n2_; have HO323 := n3_; have BK300 := n4_; have BK314 := n5_; have HB := n6_; clear n0_ n1_ n2_ n3_ n4_ n5_ n6_
       (try clear hb)
       (try clear hb2)
       (try clear hk)
       (try clear hi)
       refine hK.out _ _ ⟨(blk_cell BK314.out 0).trans rfl, (blk_cell BK314.out 1).trans rfl, (blk_cell BK300.out 0).trans rfl, (blk_cell BK300.out 1).trans rfl⟩ (fun hHeld => ?_)
       clear hK K
       refine norm_ (a' := ?_) ?_ ?_
       rotate_left
       ·show Act.put _ (some 51) _ = _
        simp only [Act.put, List.setIfInBounds_toArray, List.set_cons_zero, List.set_cons_succ, i64_w, i32_w]
        rfl
       refine pure_ (i := 4) (N := some 52) (v := ?_) (a' := ?_) #[true, true, true, true, true] rfl rfl (by kernel_rfl) (fun _ _ _ h => h) (Or.inl ⟨by rfl, ?_⟩) ?_ ?_
       rotate_left
       ·intro w'
        go_simp
        with_reducible rfl
       rotate_left
       ·simp only [Act.put, List.setIfInBounds_toArray, List.set_cons_zero, List.set_cons_succ, i64_w, i32_w]
        rfl
       refine done_ (by kernel_rfl) ?_
       have hnb47 := NB314_300.out; have hnc47 := NB300_314.out; have hcz48_0 : w46.cell? ⟨gb314, 0, none⟩ = some (.int .i64 t310) := (blk_cell BK314.out 0).trans rfl; have hcz48_1 : w46.cell? ⟨gb314, 1, none⟩ = some (.slice Ao27 t311.length co27) := (blk_cell BK314.out 1).trans rfl; have hfz48_0 := blk_frozen BK314.out 0; have hfz48_1 := blk_frozen BK314.out 1
       go_upto_region 16 with (first | ((with_reducible refine gate_callee (f := 17) rfl ?_); refine goesL_ (some 55) rfl rfl Tryd.func17 (by kernel_rfl) rfl #[.agg #[.int .i64 t310, .slice Ao27 t311.length co27], .int .i64 1] rfl ga_ ?_; (with_reducible refine (laws_markHouse.calls kj13 t310 (fun k_ => some k_ = (.slice Ao27 t311.length co27 : Value).ownBlock) (.slice Ao27 t311.length co27) t311 1 t325 t326 w _ ?side1 ?side2 A41.out).mono ?_); (case side1 => repeat (first | (with_reducible first | exact HB.out | apply below_alloc | apply pw_below_drewN | apply below_drew1 | refine below_set ?_ GE300.out | refine below_set ?_ GE314.out) | exact HB.out)); (case side2 => exact Kd.R_tight rfl HO_315001.out); rintro e w49 ⟨rfl, hy0, hb, hkp⟩; refine ⟨_, rfl, ?_⟩; have n0_ := Aside0.mk (Kd.R_mono (ok' := fun k_ => some k_ ≠ (v316 : Value).ownBlock) (Kd.R_keptB ((Kd.R_apart' HO_6.out (Kd.R_typed HO_315001.out) (by decide))) hkp (fun k_ hk_ hs_ => (hk_.2) hs_)) (fun k_ hk_ => hk_.1.1)); have n1_ := Aside0.mk (Kd.R_mono (ok' := fun k_ => some k_ ≠ (v307 : Value).ownBlock) (Kd.R_keptB ((Kd.R_apart' HO_9.out (Kd.R_typed HO_315001.out) (by decide))) hkp (fun k_ hk_ hs_ => (hk_.2) hs_)) (fun k_ hk_ => hk_.1.1)); have n2_ := Aside0.mk (Kd.R_reok rfl hy0 (fun k_ e_ => HO_315001.out.1 k_ e_)); have n3_ := Aside0.mk (blk_kept (bk_ BK300.out) hkp (fun hs_ => (fun e_ => (Kd.R_ne HO_315001.out BK300.out (by decide)) e_) hs_)); have n4_ := Aside0.mk (blk_kept (bk_ BK314.out) hkp (fun hs_ => (fun e_ => (Kd.R_ne HO_315001.out BK314.out (by decide)) e_) hs_)); have n5_ := Aside0.mk (Kd.R_mono (ok' := fun k_ => some k_ ≠ (.slice Ao27 t311.length co27 : Value).ownBlock) (Kd.R_keptB (HO323.out) hkp (fun k_ hk_ hs_ => (hk_.2) hs_)) (fun k_ hk_ => hk_.1.2)); have n6_ := Aside0.mk (hb); clear HO_6; clear HO_9; clear HO_315001; clear BK300; clear BK314; clear HO323; clear HB; have HO_6 := n0_; have HO_9 := n1_; have HO_315001 := n2_; have BK300 := n3_; have BK314 := n4_; have HO323 := n5_; have HB := n6_; clear n0_ n1_ n2_ n3_ n4_ n5_ n6_; (try clear hb); (try clear hkp); (try clear hy0)))
       (try simp only [Act.put, List.setIfInBounds_toArray, List.set_cons_zero, List.set_cons_succ])
       go_cut [68] (fun v68 wc => ∃ (kq : Nat) (x68_41 : Bool), v68 = .bool x68_41 ∧ Aside0 (laws_FnExactReadTerm.j1 kq a1 t306 t309 t315 x68_41 a0_0 l0_1 = some r) ∧ Aside0 (kq ≤ kj13) ∧ Aside0 (Kd.R k54 54 wc w.heap.size (fun k_ => some k_ ≠ (v316 : Value).ownBlock) v307 t306) ∧ Aside0 (Kd.R k54 54 wc w.heap.size (fun k_ => some k_ ≠ (v307 : Value).ownBlock) v316 t315) ∧ Aside0 (Kd.R (Kd.int .i64) 3 wc w.heap.size (fun _ => True) (.slice Ao27 t311.length co27) t326) ∧ Aside0 (wc.heap[gb300]? = some (.cells #[.int .i64 a0_0, (.slice A0_1 l0_1.length c0_1)] 36 (0, 0))) ∧ Aside0 (wc.heap[gb314]? = some (.cells #[.int .i64 t310, (.slice Ao27 t311.length co27)] 25 (0, 0))) ∧ Aside0 (Below w.heap.size w wc))
       case first =>
        have H := HC42.out; clear HC42
        by_cases c50 : t325 < 0
        ·rw [if_pos c50] at H
         have c50b0 : decide (t325 < 0) = true := decide_eq_true c50; clear c50
         (first | rw [c50b0] | (simp only [i64_w, i32_w]; rw [c50b0]) | skip)
         have H' := Aside0.mk H; clear H
         go_wp2
         go_meet
         case rel => exact ⟨_, (true), si_, H', ⟨by have := HJ13.out; first | omega | exact Nat.le_refl _⟩, ⟨r_ HO_6.out⟩, ⟨r_ HO_9.out⟩, ⟨by (with_reducible repeat (first | apply Kd.R_alloc | apply Kd.R_drewN | apply Kd.R_drew)); exact Kd.R_mono HO_315001.out (fun _ hk => trivial)⟩, ⟨bk_ BK300.out⟩, ⟨bk_ BK314.out⟩, ⟨bt_ HB.out GE300.out GE314.out⟩⟩
        ·rw [if_neg c50] at H
         have c50b0 : decide (t325 < 0) = false := decide_eq_false c50; clear c50
         (first | rw [c50b0] | (simp only [i64_w, i32_w]; rw [c50b0]) | skip)
         replace H := Option.bind_eq_some_iff.mp H; obtain ⟨t327, A510, H⟩ := H
         try dsimp only at H
         have A51 := Aside0.mk A510; clear A510
         by_cases c52 : t327 = true
         ·subst c52
          rw [if_pos rfl] at H
          have H' := Aside0.mk H; clear H; obtain ⟨Ao53, co53, eo53⟩ := Kd.R_slice HO_9.out; subst eo53; obtain ⟨Ao54, co54, eo54⟩ := Kd.R_slice HO_6.out; subst eo54
          go_wp2_with (first | (go_at_call 15; (with_reducible refine (laws_eqMarkS.calls kj13 _ _ t315 _ _ t306 true _ ?side1 ?side2 ?side3 ?side4 A51.out).mono ?_); (case side1 => repeat (first | exact (Kd.R_reads' HO_9.out).2.2 | (with_reducible refine Kd.C_alloc ?_ _) | (with_reducible refine Kd.C_drewN ?_ _) | (with_reducible refine Kd.C_drew ?_))); (case side2 => exact (Kd.R_reads' HO_9.out).2.1); (case side3 => repeat (first | exact (Kd.R_reads' HO_6.out).2.2 | (with_reducible refine Kd.C_alloc ?_ _) | (with_reducible refine Kd.C_drewN ?_ _) | (with_reducible refine Kd.C_drew ?_))); (case side4 => exact (Kd.R_reads' HO_6.out).2.1); rintro e w55 ⟨rfl, hb⟩; have n0_ := Aside0.mk (Kd.R_below (r_ HO_6.out) hb); have n1_ := Aside0.mk (Kd.R_below (r_ HO_9.out) hb); have n2_ := Aside0.mk (Kd.R_below (r_ HO_315001.out) hb); have n3_ := Aside0.mk (Kd.R_below (r_ HO323.out) hb); have n4_ := Aside0.mk (blk_below (g := gb300) (o := .cells #[.int .i64 a0_0, .slice A0_1 l0_1.length c0_1] 36 (0, 0)) (bk_ BK300.out) hb); have n5_ := Aside0.mk (blk_below (g := gb314) (o := .cells #[.int .i64 t310, .slice Ao27 t311.length co27] 25 (0, 0)) (bk_ BK314.out) hb); have n6_ := Aside0.mk (below_step (bt_ HB.out GE300.out GE314.out) hb); clear HO_6; clear HO_9; clear HO_315001; clear HO323; clear BK300; clear BK314; clear HB; have HO_6 := n0_; have HO_9 := n1_; have HO_315001 := n2_; have HO323 := n3_; have BK300 := n4_; have BK314 := n5_; have HB := n6_; clear n0_ n1_ n2_ n3_ n4_ n5_ n6_; (try clear hb); (try clear hb2); (try clear hk); (try clear hi)))
          go_meet
          case rel => exact ⟨_, ((t318 != t309)), si_, H', ⟨by have := HJ13.out; first | omega | exact Nat.le_refl _⟩, ⟨r_ HO_6.out⟩, ⟨r_ HO_9.out⟩, ⟨by (with_reducible repeat (first | apply Kd.R_alloc | apply Kd.R_drewN | apply Kd.R_drew)); exact Kd.R_mono HO_315001.out (fun _ hk => trivial)⟩, ⟨bk_ BK300.out⟩, ⟨bk_ BK314.out⟩, ⟨bt_ HB.out GE300.out GE314.out⟩⟩
         ·replace c52 := Bool.eq_false_iff.mpr c52
          subst c52
          rw [if_neg (show ¬ (false = true) by decide)] at H
          have H' := Aside0.mk H; clear H; obtain ⟨Ao56, co56, eo56⟩ := Kd.R_slice HO_9.out; subst eo56; obtain ⟨Ao57, co57, eo57⟩ := Kd.R_slice HO_6.out; subst eo57
          go_wp2_with (first | (go_at_call 15; (with_reducible refine (laws_eqMarkS.calls kj13 _ _ t315 _ _ t306 false _ ?side1 ?side2 ?side3 ?side4 A51.out).mono ?_); (case side1 => repeat (first | exact (Kd.R_reads' HO_9.out).2.2 | (with_reducible refine Kd.C_alloc ?_ _) | (with_reducible refine Kd.C_drewN ?_ _) | (with_reducible refine Kd.C_drew ?_))); (case side2 => exact (Kd.R_reads' HO_9.out).2.1); (case side3 => repeat (first | exact (Kd.R_reads' HO_6.out).2.2 | (with_reducible refine Kd.C_alloc ?_ _) | (with_reducible refine Kd.C_drewN ?_ _) | (with_reducible refine Kd.C_drew ?_))); (case side4 => exact (Kd.R_reads' HO_6.out).2.1); rintro e w58 ⟨rfl, hb⟩; have n0_ := Aside0.mk (Kd.R_below (r_ HO_6.out) hb); have n1_ := Aside0.mk (Kd.R_below (r_ HO_9.out) hb); have n2_ := Aside0.mk (Kd.R_below (r_ HO_315001.out) hb); have n3_ := Aside0.mk (Kd.R_below (r_ HO323.out) hb); have n4_ := Aside0.mk (blk_below (g := gb300) (o := .cells #[.int .i64 a0_0, .slice A0_1 l0_1.length c0_1] 36 (0, 0)) (bk_ BK300.out) hb); have n5_ := Aside0.mk (blk_below (g := gb314) (o := .cells #[.int .i64 t310, .slice Ao27 t311.length co27] 25 (0, 0)) (bk_ BK314.out) hb); have n6_ := Aside0.mk (below_step (bt_ HB.out GE300.out GE314.out) hb); clear HO_6; clear HO_9; clear HO_315001; clear HO323; clear BK300; clear BK314; clear HB; have HO_6 := n0_; have HO_9 := n1_; have HO_315001 := n2_; have HO323 := n3_; have BK300 := n4_; have BK314 := n5_; have HB := n6_; clear n0_ n1_ n2_ n3_ n4_ n5_ n6_; (try clear hb); (try clear hb2); (try clear hk); (try clear hi)))
          go_meet
          case rel => exact ⟨_, (true), si_, H', ⟨by have := HJ13.out; first | omega | exact Nat.le_refl _⟩, ⟨r_ HO_6.out⟩, ⟨r_ HO_9.out⟩, ⟨by (with_reducible repeat (first | apply Kd.R_alloc | apply Kd.R_drewN | apply Kd.R_drew)); exact Kd.R_mono HO_315001.out (fun _ hk => trivial)⟩, ⟨bk_ BK300.out⟩, ⟨bk_ BK314.out⟩, ⟨bt_ HB.out GE300.out GE314.out⟩⟩
       case rest =>
        clear HC42; (try clear c1); (try clear c2); (try clear p2); (try clear c3); (try clear c3b0); (try clear c3b1); (try clear c4); (try clear c5); (try clear c6); (try clear c6b0); (try clear c7); (try clear c8); (try clear c13); (try clear c14); (try clear c15); (try clear c16); (try clear c17); (try clear c25); (try clear c30); (try clear c37); (try clear c40); (try clear c47); (try clear c50); (try clear c50b0); (try clear c52); (try clear hcz16_0); (try clear hcz16_1); (try clear hcz18_0); (try clear hcz18_1); (try clear hcz22_0); (try clear hcz22_1); (try clear hcz26_0); (try clear hcz26_1); (try clear hcz48_0); (try clear hcz48_1); (try clear hcz8_0); (try clear hcz8_1); (try clear hfz16_0); (try clear hfz16_1); (try clear hfz18_0); (try clear hfz18_1); (try clear hfz22_0); (try clear hfz22_1); (try clear hfz26_0); (try clear hfz26_1); (try clear hfz48_0); (try clear hfz48_1); (try clear hfz8_0); (try clear hfz8_1); (try clear p2); obtain ⟨kq, x68_41, rfl, HA, HJ41, HO_6, HO_9, HO_315001, BK300, BK314, HB⟩ := hcut; have hl315001_41 := (Kd.R_reads' HO_315001.out).1
        rw [hl315001_41] at HO_315001
        (try simp only [hl315001_41])
        (try simp only [hl315001_41] at BK300)
        (try simp only [hl315001_41] at BK314)
        (try simp only [hl315001_41] at HO_6)
        (try simp only [hl315001_41] at HO_9)
        cases kq with
        | zero => exact absurd HA.out (by simp [laws_FnExactReadTerm.j1])
        | succ kj41 =>
         have H := HA.out; clear HA
         simp only [laws_FnExactReadTerm.j1] at H
         by_cases c59 : x68_41 = true
         ·subst c59
          rw [if_pos rfl] at H
          exact absurd H (by simp)
         ·replace c59 := Bool.eq_false_iff.mpr c59
          subst c59
          rw [if_neg (show ¬ (false = true) by decide)] at H
          replace H := Option.bind_eq_some_iff.mp H; obtain ⟨⟨t328, t329⟩, A600, H⟩ := H
          try dsimp only at H
          have A60 := Aside0.mk A600; clear A600; replace H := Option.bind_eq_some_iff.mp H; obtain ⟨t330, A610, H⟩ := H
          try dsimp only at H
          have A61 := Aside0.mk A610; clear A610
          by_cases c62 : t330 < 0
          ·rw [if_pos c62] at H
           exact absurd H (by simp)
          ·rw [if_neg c62] at H
           have c62b0 : decide (t330 < 0) = false := decide_eq_false c62; clear c62
           by_cases c63 : t330 = t328
           ·rw [if_pos c63] at H
            have c63b0 : (t330 == t328) = true := beq_iff_eq.mpr c63; have c63b1 : (t330 != t328) = false := bne_eq_false_iff_eq.mpr c63; clear c63; replace H := Option.bind_eq_some_iff.mp H; obtain ⟨⟨t331, t332⟩, A640, H⟩ := H
            try dsimp only at H
            have A64 := Aside0.mk A640; clear A640; replace H := Option.bind_eq_some_iff.mp H; obtain ⟨⟨t335, t338⟩, A650, H⟩ := H
            try dsimp only at H
            have A65 := Aside0.mk A650; clear A650; have HC66 := Aside0.mk H; clear H; obtain ⟨Ao67, co67, eo67⟩ := Kd.R_slice HO_9.out; subst eo67
            go_upto_region 27 with (first | ((with_reducible refine gate_callee (f := 18) rfl ?_); refine goesL_ (some 71) rfl rfl Tryd.func18 (by kernel_rfl) rfl #[.slice Ao67 t315.length co67, .int .i64 1] rfl ga_ ?_; (with_reducible refine (laws_markMarkS.calls kj41 (fun k_ => some k_ = (.slice Ao67 t315.length co67 : Value).ownBlock) (.slice Ao67 t315.length co67) t315 1 t328 t329 w _ ?side1 ?side2 A60.out).mono ?_); (case side1 => repeat (first | (with_reducible first | exact HB.out | apply below_alloc | apply pw_below_drewN | apply below_drew1 | refine below_set ?_ GE300.out | refine below_set ?_ GE314.out) | exact HB.out)); (case side2 => exact Kd.R_tight rfl HO_9.out); rintro e w68 ⟨rfl, hy0, hb, hkp⟩; refine ⟨_, rfl, ?_⟩; have n0_ := Aside0.mk (Kd.R_mono (ok' := fun k_ => some k_ ≠ (.slice Ao67 t315.length co67 : Value).ownBlock) (Kd.R_keptB (HO_6.out) hkp (fun k_ hk_ hs_ => (hk_) hs_)) (fun k_ hk_ => hk_.1)); have n1_ := Aside0.mk (Kd.R_reok rfl hy0 (fun k_ e_ => HO_9.out.1 k_ e_)); have n2_ := Aside0.mk (Kd.R_mono (ok' := fun k_ => True) (Kd.R_keptB ((Kd.R_apart' HO_315001.out (Kd.R_typed HO_9.out) (by decide))) hkp (fun k_ hk_ hs_ => (hk_.2) hs_)) (fun k_ hk_ => trivial)); have n3_ := Aside0.mk (blk_kept (bk_ BK300.out) hkp (fun hs_ => (fun e_ => (Kd.R_ne HO_9.out BK300.out (by decide)) e_) hs_)); have n4_ := Aside0.mk (blk_kept (bk_ BK314.out) hkp (fun hs_ => (fun e_ => (Kd.R_ne HO_9.out BK314.out (by decide)) e_) hs_)); have n5_ := Aside0.mk (hb); clear HO_6; clear HO_9; clear HO_315001; clear BK300; clear BK314; clear HB; have HO_6 := n0_; have HO_9 := n1_; have HO_315001 := n2_; have BK300 := n3_; have BK314 := n4_; have HB := n5_; clear n0_ n1_ n2_ n3_ n4_ n5_; (try clear hb); (try clear hkp); (try clear hy0)) | ((with_reducible refine gate_callee (f := 19) rfl ?_); refine goesL_ (some 74) rfl rfl Tryd.func19 (by kernel_rfl) rfl #[.slice Ao67 t329.length co67, .int .i64 1] rfl (by (try simp only [List.map_toArray, List.map_cons, List.map_nil]); first | done | (rw [show t329.length = t315.length from (Kd.R_reads' HO_9.out).1.symm] <;> rfl) | rfl | (simp only [List.length_drop, List.length_take]; rfl)) ?_; (with_reducible refine (laws_heldMarkS.calls kj41 _ _ t329 1 t330 _ ?side1 ?side2 A61.out).mono ?_); (case side1 => repeat (first | exact (Kd.R_reads' HO_9.out).2.2 | (with_reducible refine Kd.C_alloc ?_ _) | (with_reducible refine Kd.C_drewN ?_ _) | (with_reducible refine Kd.C_drew ?_))); (case side2 => rw [show t329.length = t315.length from (Kd.R_reads' HO_9.out).1.symm]; exact (Kd.R_reads' HO_9.out).2.1); rintro e w' ⟨rfl, ⟨nd, rfl⟩⟩; refine ⟨_, rfl, ?_⟩; have hnb69 := NB300_314.out; have hnc69 := NB314_300.out; have hcz70_0 : w68.cell? ⟨gb300, 0, none⟩ = some (.int .i64 a0_0) := (blk_cell BK300.out 0).trans rfl; have hcz70_1 : w68.cell? ⟨gb300, 1, none⟩ = some (.slice A0_1 l0_1.length c0_1) := (blk_cell BK300.out 1).trans rfl; have hfz70_0 := blk_frozen BK300.out 0; have hfz70_1 := blk_frozen BK300.out 1) | ((with_reducible refine gate_callee (f := 14) rfl ?_); refine goesL_ (some 82) rfl rfl Tryd.func14 (by kernel_rfl) rfl #[.agg #[.int .i64 a0_0, .slice A0_1 l0_1.length c0_1]] rfl ga_ ?_; (with_reducible refine (laws_toHouse.calls kj41 a0_0 _ _ l0_1 t331 t332 _ ?side1 ?side2 A64.out).mono ?_); (case side1 => exact cs_ (Kd.C_below HR0_1.out (bt_ HB.out GE300.out GE314.out))); (case side2 => exact HC0_1.out); rintro e w71 ⟨v333, rfl, ho0, hb⟩; refine ⟨_, rfl, ?_⟩; have n0_ := Aside0.mk (Kd.R_below (r_ HO_6.out) hb); have n1_ := Aside0.mk (Kd.R_below (r_ HO_9.out) hb); have n2_ := Aside0.mk (Kd.R_elder' (r_ HO_315001.out) (Kd.R_base ho0) hb); have n3_ := Aside0.mk (Kd.R_lower (Kd.R_new' ho0 (Kd.R_lt (r_ HO_315001.out))) (below_size (bt_ HB.out GE300.out GE314.out))); have n4_ := Aside0.mk (blk_below (g := gb300) (o := .cells #[.int .i64 a0_0, .slice A0_1 l0_1.length c0_1] 36 (0, 0)) (bk_ BK300.out) hb); have n5_ := Aside0.mk (blk_below (g := gb314) (o := .cells #[.int .i64 t310, .slice Ao27 t326.length co27] 25 (0, 0)) (bk_ BK314.out) hb); have n6_ := Aside0.mk (below_step (bt_ HB.out GE300.out GE314.out) hb); clear HO_6; clear HO_9; clear HO_315001; clear BK300; clear BK314; clear HB; have HO_6 := n0_; have HO_9 := n1_; have HO_315001 := n2_; have HO334 := n3_; have BK300 := n4_; have BK314 := n5_; have HB := n6_; clear n0_ n1_ n2_ n3_ n4_ n5_ n6_; (try clear hb); (try clear hb2); (try clear hk); (try clear hi); (try clear ho0); obtain ⟨Ao72, co72, eo72⟩ := Kd.R_slice HO334.out; subst eo72) | ((with_reducible refine gate_callee (f := 7) rfl ?_); refine goesL_ (some 84) rfl rfl Tryd.func7 (by kernel_rfl) rfl #[.agg #[.int .i64 t331, .slice Ao72 t332.length co72], .string a1] rfl ga_ ?_; (with_reducible refine (impl_ReadTerm.calls kj41 t331 _ _ t332 a1 t335 t338 _ ?side1 ?side2 A65.out).mono ?_); (case side1 => repeat (first | exact (Kd.R_reads' HO334.out).2.2 | (with_reducible refine Kd.C_alloc ?_ _) | (with_reducible refine Kd.C_drewN ?_ _) | (with_reducible refine Kd.C_drew ?_))); (case side2 => exact (Kd.R_reads' HO334.out).2.1); rintro e w73 ⟨v336, rfl, ho0, hb⟩; refine ⟨_, rfl, ?_⟩; have n0_ := Aside0.mk (Kd.R_elder' (r_ HO_6.out) (Kd.R_base ho0) hb); have n1_ := Aside0.mk (Kd.R_elder' (r_ HO_9.out) (Kd.R_base ho0) hb); have n2_ := Aside0.mk (Kd.R_below (r_ HO_315001.out) hb); have n3_ := Aside0.mk (Kd.R_below (r_ HO334.out) hb); have n4_ := Aside0.mk (Kd.R_lower (Kd.R_new' (Kd.R_new' ho0 (Kd.R_lt (r_ HO_6.out))) (Kd.R_lt (r_ HO_9.out))) (below_size (bt_ HB.out GE300.out GE314.out))); have n5_ := Aside0.mk (blk_below (g := gb300) (o := .cells #[.int .i64 a0_0, .slice A0_1 l0_1.length c0_1] 36 (0, 0)) (bk_ BK300.out) hb); have n6_ := Aside0.mk (blk_below (g := gb314) (o := .cells #[.int .i64 t310, .slice Ao27 t326.length co27] 25 (0, 0)) (bk_ BK314.out) hb); have n7_ := Aside0.mk (below_step (bt_ HB.out GE300.out GE314.out) hb); clear HO_6; clear HO_9; clear HO_315001; clear HO334; clear BK300; clear BK314; clear HB; have HO_6 := n0_; have HO_9 := n1_; have HO_315001 := n2_; have HO334 := n3_; have HO337 := n4_; have BK300 := n5_; have BK314 := n6_; have HB := n7_; clear n0_ n1_ n2_ n3_ n4_ n5_ n6_ n7_; (try clear hb); (try clear hb2); (try clear hk); (try clear hi); (try clear ho0)))
            (try simp only [Act.put, List.setIfInBounds_toArray, List.set_cons_zero, List.set_cons_succ])
            go_cut [95] (fun v95 wc => ∃ (kq : Nat) (x95_65 : Bool), v95 = .bool x95_65 ∧ Aside0 (laws_FnExactReadTerm.j2 kq t329 t328 x95_65 = some r) ∧ Aside0 (kq ≤ kj41) ∧ Aside0 (Kd.R k54 54 wc w.heap.size (fun _ => True) (.slice Ao67 t315.length co67) t329) ∧ Aside0 (Kd.R (Kd.int .i64) 3 wc w.heap.size (fun _ => True) (.slice Ao27 t326.length co27) t326) ∧ Aside0 (wc.heap[gb300]? = some (.cells #[.int .i64 a0_0, (.slice A0_1 l0_1.length c0_1)] 36 (0, 0))) ∧ Aside0 (wc.heap[gb314]? = some (.cells #[.int .i64 t310, (.slice Ao27 t326.length co27)] 25 (0, 0))) ∧ Aside0 (Below w.heap.size w wc))
            case first =>
             have H := HC66.out; clear HC66; replace H := Option.bind_eq_some_iff.mp H; obtain ⟨t339, A740, H⟩ := H
             try dsimp only at H
             have A74 := Aside0.mk A740; clear A740
             by_cases c75 : t339 = true
             ·subst c75
              rw [if_pos rfl] at H
              have H' := Aside0.mk H; clear H; obtain ⟨Ao76, co76, eo76⟩ := Kd.R_slice HO337.out; subst eo76; obtain ⟨Ao77, co77, eo77⟩ := Kd.R_slice HO_6.out; subst eo77
              go_wp2_with (first | ((with_reducible refine gate_callee (f := 15) rfl ?_); refine goesL_ (some 89) rfl rfl Tryd.func15 (by kernel_rfl) rfl #[.slice Ao76 t335.length co76, .slice Ao77 t306.length co77] rfl ga_ ?_; (with_reducible refine (laws_eqMarkS.calls kj41 _ _ t335 _ _ t306 true _ ?side1 ?side2 ?side3 ?side4 A74.out).mono ?_); (case side1 => repeat (first | exact (Kd.R_reads' HO337.out).2.2 | (with_reducible refine Kd.C_alloc ?_ _) | (with_reducible refine Kd.C_drewN ?_ _) | (with_reducible refine Kd.C_drew ?_))); (case side2 => exact (Kd.R_reads' HO337.out).2.1); (case side3 => repeat (first | exact (Kd.R_reads' HO_6.out).2.2 | (with_reducible refine Kd.C_alloc ?_ _) | (with_reducible refine Kd.C_drewN ?_ _) | (with_reducible refine Kd.C_drew ?_))); (case side4 => exact (Kd.R_reads' HO_6.out).2.1); rintro e w78 ⟨rfl, hb⟩; refine ⟨_, rfl, ?_⟩; have n0_ := Aside0.mk (Kd.R_below (r_ HO_6.out) hb); have n1_ := Aside0.mk (Kd.R_below (r_ HO_9.out) hb); have n2_ := Aside0.mk (Kd.R_below (r_ HO_315001.out) hb); have n3_ := Aside0.mk (Kd.R_below (r_ HO334.out) hb); have n4_ := Aside0.mk (Kd.R_below (r_ HO337.out) hb); have n5_ := Aside0.mk (blk_below (g := gb300) (o := .cells #[.int .i64 a0_0, .slice A0_1 l0_1.length c0_1] 36 (0, 0)) (bk_ BK300.out) hb); have n6_ := Aside0.mk (blk_below (g := gb314) (o := .cells #[.int .i64 t310, .slice Ao27 t326.length co27] 25 (0, 0)) (bk_ BK314.out) hb); have n7_ := Aside0.mk (below_step (bt_ HB.out GE300.out GE314.out) hb); clear HO_6; clear HO_9; clear HO_315001; clear HO334; clear HO337; clear BK300; clear BK314; clear HB; have HO_6 := n0_; have HO_9 := n1_; have HO_315001 := n2_; have HO334 := n3_; have HO337 := n4_; have BK300 := n5_; have BK314 := n6_; have HB := n7_; clear n0_ n1_ n2_ n3_ n4_ n5_ n6_ n7_; (try clear hb); (try clear hb2); (try clear hk); (try clear hi)))
              go_meet
              case rel => exact ⟨_, ((t338 != t309)), si_, H', ⟨by have := HJ13.out; have := HJ41.out; first | omega | exact Nat.le_refl _⟩, ⟨by (try simp only [hl315001_41]); (with_reducible repeat (first | apply Kd.R_alloc | apply Kd.R_drewN | apply Kd.R_drew)); exact Kd.R_mono HO_9.out (fun _ hk => trivial)⟩, ⟨by (try simp only [hl315001_41]); (with_reducible repeat (first | apply Kd.R_alloc | apply Kd.R_drewN | apply Kd.R_drew)); exact Kd.R_mono HO_315001.out (fun _ hk => trivial)⟩, ⟨by (try simp only [hl315001_41]); refine sb_ ?_; exact BK300.out⟩, ⟨by (try simp only [hl315001_41]); refine sb_ ?_; exact BK314.out⟩, ⟨bt_ HB.out GE300.out GE314.out⟩⟩
             ·replace c75 := Bool.eq_false_iff.mpr c75
              subst c75
              rw [if_neg (show ¬ (false = true) by decide)] at H
              have H' := Aside0.mk H; clear H; obtain ⟨Ao79, co79, eo79⟩ := Kd.R_slice HO337.out; subst eo79; obtain ⟨Ao80, co80, eo80⟩ := Kd.R_slice HO_6.out; subst eo80
              go_wp2_with (first | ((with_reducible refine gate_callee (f := 15) rfl ?_); refine goesL_ (some 89) rfl rfl Tryd.func15 (by kernel_rfl) rfl #[.slice Ao79 t335.length co79, .slice Ao80 t306.length co80] rfl ga_ ?_; (with_reducible refine (laws_eqMarkS.calls kj41 _ _ t335 _ _ t306 false _ ?side1 ?side2 ?side3 ?side4 A74.out).mono ?_); (case side1 => repeat (first | exact (Kd.R_reads' HO337.out).2.2 | (with_reducible refine Kd.C_alloc ?_ _) | (with_reducible refine Kd.C_drewN ?_ _) | (with_reducible refine Kd.C_drew ?_))); (case side2 => exact (Kd.R_reads' HO337.out).2.1); (case side3 => repeat (first | exact (Kd.R_reads' HO_6.out).2.2 | (with_reducible refine Kd.C_alloc ?_ _) | (with_reducible refine Kd.C_drewN ?_ _) | (with_reducible refine Kd.C_drew ?_))); (case side4 => exact (Kd.R_reads' HO_6.out).2.1); rintro e w81 ⟨rfl, hb⟩; refine ⟨_, rfl, ?_⟩; have n0_ := Aside0.mk (Kd.R_below (r_ HO_6.out) hb); have n1_ := Aside0.mk (Kd.R_below (r_ HO_9.out) hb); have n2_ := Aside0.mk (Kd.R_below (r_ HO_315001.out) hb); have n3_ := Aside0.mk (Kd.R_below (r_ HO334.out) hb); have n4_ := Aside0.mk (Kd.R_below (r_ HO337.out) hb); have n5_ := Aside0.mk (blk_below (g := gb300) (o := .cells #[.int .i64 a0_0, .slice A0_1 l0_1.length c0_1] 36 (0, 0)) (bk_ BK300.out) hb); have n6_ := Aside0.mk (blk_below (g := gb314) (o := .cells #[.int .i64 t310, .slice Ao27 t326.length co27] 25 (0, 0)) (bk_ BK314.out) hb); have n7_ := Aside0.mk (below_step (bt_ HB.out GE300.out GE314.out) hb); clear HO_6; clear HO_9; clear HO_315001; clear HO334; clear HO337; clear BK300; clear BK314; clear HB; have HO_6 := n0_; have HO_9 := n1_; have HO_315001 := n2_; have HO334 := n3_; have HO337 := n4_; have BK300 := n5_; have BK314 := n6_; have HB := n7_; clear n0_ n1_ n2_ n3_ n4_ n5_ n6_ n7_; (try clear hb); (try clear hb2); (try clear hk); (try clear hi)))
              go_meet
              case rel => exact ⟨_, (true), si_, H', ⟨by have := HJ13.out; have := HJ41.out; first | omega | exact Nat.le_refl _⟩, ⟨by (try simp only [hl315001_41]); (with_reducible repeat (first | apply Kd.R_alloc | apply Kd.R_drewN | apply Kd.R_drew)); exact Kd.R_mono HO_9.out (fun _ hk => trivial)⟩, ⟨by (try simp only [hl315001_41]); (with_reducible repeat (first | apply Kd.R_alloc | apply Kd.R_drewN | apply Kd.R_drew)); exact Kd.R_mono HO_315001.out (fun _ hk => trivial)⟩, ⟨by (try simp only [hl315001_41]); refine sb_ ?_; exact BK300.out⟩, ⟨by (try simp only [hl315001_41]); refine sb_ ?_; exact BK314.out⟩, ⟨bt_ HB.out GE300.out GE314.out⟩⟩
            case rest =>
             clear HC66; (try clear c1); (try clear c2); (try clear p2); (try clear c3); (try clear c3b0); (try clear c3b1); (try clear c4); (try clear c5); (try clear c6); (try clear c6b0); (try clear c7); (try clear c8); (try clear c13); (try clear c14); (try clear c15); (try clear c16); (try clear c17); (try clear c18); (try clear c19); (try clear c25); (try clear c30); (try clear c37); (try clear c40); (try clear c47); (try clear c50); (try clear c50b0); (try clear c52); (try clear c59); (try clear c62); (try clear c62b0); (try clear c63); (try clear c63b0); (try clear c63b1); (try clear c69); (try clear c75); (try clear hcz16_0); (try clear hcz16_1); (try clear hcz18_0); (try clear hcz18_1); (try clear hcz22_0); (try clear hcz22_1); (try clear hcz26_0); (try clear hcz26_1); (try clear hcz48_0); (try clear hcz48_1); (try clear hcz70_0); (try clear hcz70_1); (try clear hcz8_0); (try clear hcz8_1); (try clear hfz16_0); (try clear hfz16_1); (try clear hfz18_0); (try clear hfz18_1); (try clear hfz22_0); (try clear hfz22_1); (try clear hfz26_0); (try clear hfz26_1); (try clear hfz48_0); (try clear hfz48_1); (try clear hfz70_0); (try clear hfz70_1); (try clear hfz8_0); (try clear hfz8_1); (try clear p2); obtain ⟨kq, x95_65, rfl, HA, HJ65, HO_9, HO_315001, BK300, BK314, HB⟩ := hcut; have hl9_65 := (Kd.R_reads' HO_9.out).1
             rw [hl9_65] at HO_9
             (try simp only [hl9_65])
             (try simp only [hl9_65] at BK300)
             (try simp only [hl9_65] at BK314)
             (try simp only [hl9_65] at HO_315001)
             cases kq with
             | zero => exact absurd HA.out (by simp [laws_FnExactReadTerm.j2])
             | succ kj65 =>
              have H := HA.out; clear HA
              simp only [laws_FnExactReadTerm.j2] at H
              by_cases c82 : x95_65 = true
              ·subst c82
               rw [if_pos rfl] at H
               exact absurd H (by simp)
              ·replace c82 := Bool.eq_false_iff.mpr c82
               subst c82
               rw [if_neg (show ¬ (false = true) by decide)] at H
               replace H := Option.bind_eq_some_iff.mp H; obtain ⟨t340, A830, H⟩ := H
               try dsimp only at H
               have A83 := Aside0.mk A830; clear A830
               by_cases c84 : t340 < 0
               ·rw [if_pos c84] at H
                exact absurd H (by simp)
               ·rw [if_neg c84] at H
                have c84b0 : decide (t340 < 0) = false := decide_eq_false c84; clear c84
                by_cases c85 : t340 = t328
                ·rw [if_pos c85] at H
                 have c85b0 : (t340 == t328) = true := beq_iff_eq.mpr c85; have c85b1 : (t340 != t328) = false := bne_eq_false_iff_eq.mpr c85; clear c85; obtain rfl := Option.some.inj H
                 go_wp2_with (first | ((with_reducible refine gate_callee (f := 19) rfl ?_); refine goesL_ (some 98) rfl rfl Tryd.func19 (by kernel_rfl) rfl #[.slice Ao67 t329.length co67, .int .i64 1] rfl ga_ ?_; (with_reducible refine (laws_heldMarkS.calls kj65 _ _ t329 1 t340 _ ?side1 ?side2 A83.out).mono ?_); (case side1 => repeat (first | exact (Kd.R_reads' HO_9.out).2.2 | (with_reducible refine Kd.C_alloc ?_ _) | (with_reducible refine Kd.C_drewN ?_ _) | (with_reducible refine Kd.C_drew ?_))); (case side2 => exact (Kd.R_reads' HO_9.out).2.1); rintro e w' ⟨rfl, ⟨nd, rfl⟩⟩; refine ⟨_, rfl, ?_⟩))
                 go_ret
                 exact ⟨sr_, bt_ HB.out GE300.out GE314.out⟩
                ·rw [if_neg c85] at H
                 exact absurd H (by simp)
           ·rw [if_neg c63] at H
            exact absurd H (by simp)
      ·replace c40 := Bool.eq_false_iff.mpr c40
       subst c40
       rw [if_neg (show ¬ (false = true) by decide)] at H
       exact absurd H (by simp)

end Go.Proofs.YtoifikhcnioagaaDoor.PFnExactReadTerm
