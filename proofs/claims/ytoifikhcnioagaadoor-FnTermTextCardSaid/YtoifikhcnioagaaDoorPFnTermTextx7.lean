/- Walks of the functions that this law reaches, one by one, written by a program. No condition. -/
import Derived.Test.YtoifikhcnioagaaDoorPFnTermTextx0
import Derived.Test.YtoifikhcnioagaaDoorPFnTermTextx6
namespace Go.Proofs.YtoifikhcnioagaaDoor.PFnTermText
open Go.RowKit Go.Proofs.YtoifikhcnioagaaDoorW.PrintWords Go.Proofs.YtoifikhcnioagaaDoorW.PrintLast Go.Proofs.YtoifikhcnioagaaDoorW.PrintMore
attribute [local go_sem] max2_int min2_int max_two min_two max_three min_three max_four min_four   -- for this text's walks alone
set_option linter.unusedVariables false
set_option linter.unusedSimpArgs false

/-! ### spec_l20Rd_pick: function 24 -/
def spec_l20Rd_pick.j0 : Nat → Int → Bool → List Int → Int → Option (Int × Int)
 | 0, _, _, _, _ => none
 | k + 1, x1, x24, x1000, x1001 => if x24 = true then (some (0, x1001)) else (if (wrap64 (x1001 - 1)) < (x1000.length : Int) then (if 0 ≤ (wrap64 (x1001 - 1)) then (if x1 = 0 then (none) else (some (Int.tmod (wrap64 (rd x1000 (wrap64 (x1001 - 1)))) x1, x1001))) else (none)) else (if (x1000.length : Int) = 0 then (none) else (if 0 ≤ (Int.tmod (wrap64 (x1001 - 1)) (x1000.length : Int)) then (if (Int.tmod (wrap64 (x1001 - 1)) (x1000.length : Int)) < (x1000.length : Int) then (if 0 ≤ (Int.tmod (wrap64 ((wrap64 ((wrap64 (x1001 - 1)) * 7)) + 3)) (x1000.length : Int)) then (if (Int.tmod (wrap64 ((wrap64 ((wrap64 (x1001 - 1)) * 7)) + 3)) (x1000.length : Int)) < (x1000.length : Int) then (if x1 = 0 then (none) else (some (Int.tmod (Go.bits .xor .i64 (wrap64 ((wrap64 ((wrap64 ((wrap64 ((wrap64 (rd x1000 (Int.tmod (wrap64 (x1001 - 1)) (x1000.length : Int)))) * 131)) + (wrap64 ((wrap64 (rd x1000 (Int.tmod (wrap64 ((wrap64 ((wrap64 (x1001 - 1)) * 7)) + 3)) (x1000.length : Int)))) * 1117)))) + (wrap64 ((wrap64 (x1001 - 1)) * 29)))) + (wrap64 ((wrap64 (Int.tdiv (wrap64 (x1001 - 1)) (x1000.length : Int))) * 53)))) (wrap64 (Int.tdiv (wrap64 ((wrap64 ((wrap64 ((wrap64 ((wrap64 (rd x1000 (Int.tmod (wrap64 (x1001 - 1)) (x1000.length : Int)))) * 131)) + (wrap64 ((wrap64 (rd x1000 (Int.tmod (wrap64 ((wrap64 ((wrap64 (x1001 - 1)) * 7)) + 3)) (x1000.length : Int)))) * 1117)))) + (wrap64 ((wrap64 (x1001 - 1)) * 29)))) + (wrap64 ((wrap64 (Int.tdiv (wrap64 (x1001 - 1)) (x1000.length : Int))) * 53)))) 64))) x1, x1001))) else (none)) else (none)) else (none)) else (none))))
def spec_l20Rd_pick.f (k : Nat) (s0_0 : List Int) (s0_1 : Int) (a1 : Int) : Option (Int × Int) := if a1 < 1 then (spec_l20Rd_pick.j0 k a1 true s0_0 (wrap64 (s0_1 + 1))) else (spec_l20Rd_pick.j0 k a1 ((s0_0.length : Int) == 0) s0_0 (wrap64 (s0_1 + 1)))
theorem spec_l20Rd_pick.mono_l : ∀ k, (∀ y0 y1 y2 y3, LeO (spec_l20Rd_pick.j0 k y0 y1 y2 y3) (spec_l20Rd_pick.j0 (k + 1) y0 y1 y2 y3))
 | 0 => fun _ _ _ _ r h => by simp [spec_l20Rd_pick.j0] at h
 | k + 1 => by
  have ih0 := spec_l20Rd_pick.mono_l k
  ·intro y0 y1 y2 y3
   unfold spec_l20Rd_pick.j0
   repeat' first
   | (with_reducible exact ih0 _ _ _ _)
   | (with_reducible exact LeO.refl _)
   | (with_reducible exact LeO.none _)
   | (with_reducible refine LeO.ite ?_ ?_)
   | (with_reducible refine LeO.bind ?_ (fun _ => ?_))
   | exact ih0 _ _ _ _
   | exact LeO.none _
   | refine LeO.ite ?_ ?_
   | refine LeO.bind ?_ (fun _ => ?_)
theorem spec_l20Rd_pick.mono : ∀ a0 a1 a2 k, LeO (spec_l20Rd_pick.f k a0 a1 a2) (spec_l20Rd_pick.f (k + 1) a0 a1 a2) := by
 intro a0 a1 a2 k; have ih0 := spec_l20Rd_pick.mono_l k
 unfold spec_l20Rd_pick.f
 repeat' first
   | (with_reducible exact ih0 _ _ _ _)
   | (with_reducible exact LeO.refl _)
   | (with_reducible exact LeO.none _)
   | (with_reducible refine LeO.ite ?_ ?_)
   | (with_reducible refine LeO.bind ?_ (fun _ => ?_))
   | exact ih0 _ _ _ _
   | exact LeO.none _
   | refine LeO.ite ?_ ?_
   | refine LeO.bind ?_ (fun _ => ?_)
set_option maxHeartbeats 8000000 in
set_option maxRecDepth 100000 in
theorem spec_l20Rd_pick.calls (k : Nat) (g : Nat) (s0_0 : List Int) (s0_1 : Int) (a1 : Int) (r1 : Int) (r2 : Int) (w0 w : World) (hI : IsS61 w0 w g s0_0 s0_1) (hB : Below w0.heap.size w0 w) (h : spec_l20Rd_pick.f k s0_0 s0_1 a1 = some (r1, r2)) :
  Calls Tryd.prog 24 #[.pointer (some ⟨g, 0, none⟩), .int .i64 a1] w fun e w' => e = .returned (.int .i64 r1) ∧ IsS61 w0 w' g s0_0 r2 ∧ Below w0.heap.size w0 w' ∧ KeepBut w w' g none := by
 have HI0 := Aside0.mk hI; have HK := Aside0.mk (KeepBut.refl w g none); have HL := Aside0.mk hB.size; clear hI; have HW0 := Aside0.mk hB.size; have HB := Aside0.mk hB; clear hB; have H : (if a1 < 1 then (spec_l20Rd_pick.j0 k a1 true s0_0 (wrap64 (s0_1 + 1))) else (spec_l20Rd_pick.j0 k a1 ((s0_0.length : Int) == 0) s0_0 (wrap64 (s0_1 + 1)))) = some (r1, r2) := h; clear h; have HC3 := Aside0.mk H; clear H; obtain ⟨ASz4_0, cSz4_0, HGz4, hgz4, HSz4_0⟩ := HI0.out; have hcz4_0 := cellS61_0 HGz4; have hcz4_1 := cellS61_1 HGz4; have hfz4_1 := blk_frozen HGz4 1; clear HGz4 hgz4
 go_enter Tryd.func24, Tryd.ntmps24
 go_upto_region 2 with (fail)
 repeat (go_quiet (fail); go_upto_region 2 with (fail))
 go_cut [24] (fun v24 wc => ∃ (kq : Nat) (x24_2 : Bool), v24 = .bool x24_2 ∧ Aside0 (spec_l20Rd_pick.j0 kq a1 x24_2 s0_0 (wrap64 (s0_1 + 1)) = some (r1, r2)) ∧ Aside0 (kq ≤ k) ∧ Aside0 (IsS61 w0 wc g s0_0 (wrap64 (s0_1 + 1))) ∧ Aside0 (KeepBut w wc g none) ∧ Aside0 (Below w0.heap.size w0 wc))
 case first =>
  have H := HC3.out; clear HC3
  by_cases c5 : a1 < 1
  ·rw [if_pos c5] at H
   have c5b0 : decide (a1 < 1) = true := decide_eq_true c5; clear c5
   (first | rw [c5b0] | (simp only [i64_w, i32_w]; rw [c5b0]) | skip)
   have H' := Aside0.mk H; clear H
   go_wp2
   repeat (go_quiet (fail); try go_wp2)
   go_meet
   case rel => exact ⟨_, (true), si_, H', ⟨by first | omega | exact Nat.le_refl _⟩, ⟨by exact is61_0 HI0.out⟩, ⟨ke_ HK.out⟩, ⟨bs_ HB.out (IsS61.ge HI0.out)⟩⟩
  ·rw [if_neg c5] at H
   have c5b0 : decide (a1 < 1) = false := decide_eq_false c5; clear c5
   (first | rw [c5b0] | (simp only [i64_w, i32_w]; rw [c5b0]) | skip)
   have H' := Aside0.mk H; clear H; obtain ⟨ASz6_0, cSz6_0, HGz6, hgz6, HSz6_0⟩ := HI0.out; have hcz6_0 := cellS61_0 HGz6; have hcz6_1 := cellS61_1 HGz6; have hfz6_1 := blk_frozen HGz6 1; clear HGz6 hgz6
   go_wp2
   repeat (go_quiet (fail); try go_wp2)
   go_meet
   case rel => exact ⟨_, (((s0_0.length : Int) == 0)), si_, H', ⟨by first | omega | exact Nat.le_refl _⟩, ⟨by exact is61_0 HI0.out⟩, ⟨ke_ HK.out⟩, ⟨bs_ HB.out (IsS61.ge HI0.out)⟩⟩
 case rest =>
  clear HC3; (try clear c2); (try clear p2); (try clear c5); (try clear c5b0); (try clear p6); (try clear hcz4_0); (try clear hcz4_1); (try clear hcz6_0); (try clear hcz6_1); (try clear hfz4_1); (try clear hfz6_1); obtain ⟨kq, x24_2, rfl, HA, HJ2, HI0, HK, HB⟩ := hcut
  cases kq with
  | zero => exact absurd HA.out (by simp [spec_l20Rd_pick.j0])
  | succ kj2 =>
   have H := HA.out; clear HA
   simp only [spec_l20Rd_pick.j0] at H
   by_cases c7 : x24_2 = true
   ·subst c7
    have H1 : (some (0, (wrap64 (s0_1 + 1)))) = some (r1, r2) := by rw [if_pos rfl] at H; exact H
    clear H; have H := H1; clear H1
    simp only [Option.some.injEq, Prod.mk.injEq] at H
    obtain ⟨rfl, rfl⟩ := H
    go_wp2
    repeat (go_quiet (fail); try go_wp2)
    go_ret
    exact ⟨sr_, by exact is61_0 HI0.out, bs_ HB.out (IsS61.ge HI0.out), ke_ HK.out⟩
   ·replace c7 := Bool.eq_false_iff.mpr c7
    subst c7
    have H1 : (if (wrap64 ((wrap64 (s0_1 + 1)) - 1)) < (s0_0.length : Int) then (if 0 ≤ (wrap64 ((wrap64 (s0_1 + 1)) - 1)) then (if a1 = 0 then (none) else (some (Int.tmod (wrap64 (rd s0_0 (wrap64 ((wrap64 (s0_1 + 1)) - 1)))) a1, (wrap64 (s0_1 + 1))))) else (none)) else (if (s0_0.length : Int) = 0 then (none) else (if 0 ≤ (Int.tmod (wrap64 ((wrap64 (s0_1 + 1)) - 1)) (s0_0.length : Int)) then (if (Int.tmod (wrap64 ((wrap64 (s0_1 + 1)) - 1)) (s0_0.length : Int)) < (s0_0.length : Int) then (if 0 ≤ (Int.tmod (wrap64 ((wrap64 ((wrap64 ((wrap64 (s0_1 + 1)) - 1)) * 7)) + 3)) (s0_0.length : Int)) then (if (Int.tmod (wrap64 ((wrap64 ((wrap64 ((wrap64 (s0_1 + 1)) - 1)) * 7)) + 3)) (s0_0.length : Int)) < (s0_0.length : Int) then (if a1 = 0 then (none) else (some (Int.tmod (Go.bits .xor .i64 (wrap64 ((wrap64 ((wrap64 ((wrap64 ((wrap64 (rd s0_0 (Int.tmod (wrap64 ((wrap64 (s0_1 + 1)) - 1)) (s0_0.length : Int)))) * 131)) + (wrap64 ((wrap64 (rd s0_0 (Int.tmod (wrap64 ((wrap64 ((wrap64 ((wrap64 (s0_1 + 1)) - 1)) * 7)) + 3)) (s0_0.length : Int)))) * 1117)))) + (wrap64 ((wrap64 ((wrap64 (s0_1 + 1)) - 1)) * 29)))) + (wrap64 ((wrap64 (Int.tdiv (wrap64 ((wrap64 (s0_1 + 1)) - 1)) (s0_0.length : Int))) * 53)))) (wrap64 (Int.tdiv (wrap64 ((wrap64 ((wrap64 ((wrap64 ((wrap64 (rd s0_0 (Int.tmod (wrap64 ((wrap64 (s0_1 + 1)) - 1)) (s0_0.length : Int)))) * 131)) + (wrap64 ((wrap64 (rd s0_0 (Int.tmod (wrap64 ((wrap64 ((wrap64 ((wrap64 (s0_1 + 1)) - 1)) * 7)) + 3)) (s0_0.length : Int)))) * 1117)))) + (wrap64 ((wrap64 ((wrap64 (s0_1 + 1)) - 1)) * 29)))) + (wrap64 ((wrap64 (Int.tdiv (wrap64 ((wrap64 (s0_1 + 1)) - 1)) (s0_0.length : Int))) * 53)))) 64))) a1, (wrap64 (s0_1 + 1))))) else (none)) else (none)) else (none)) else (none)))) = some (r1, r2) := by rw [if_neg (show ¬ (false = true) by decide)] at H; exact H
    clear H; have H := H1; clear H1
    by_cases c8 : (wrap64 ((wrap64 (s0_1 + 1)) - 1)) < (s0_0.length : Int)
    ·rw [if_pos c8] at H
     have c8b0 : decide ((wrap64 ((wrap64 (s0_1 + 1)) - 1)) < (s0_0.length : Int)) = true := decide_eq_true c8; clear c8; obtain ⟨ji9, hji9⟩ : ∃ j_ : Int, (wrap64 ((wrap64 (s0_1 + 1)) - 1)) = j_ := ⟨_, rfl⟩
     replace H : (if 0 ≤ (ji9) then (if a1 = 0 then (none) else (some (Int.tmod (wrap64 (rd s0_0 (ji9))) a1, (wrap64 (s0_1 + 1))))) else (none)) = some (r1, r2) := by first | (rw [hji9] at H; exact H) | (simp only [hji9] at H ⊢; exact H)
     (try rw [hji9] at c8b0)
     have hji9w : (IntKind.i64.wrap ((wrap64 (s0_1 + 1)) - 1)) = ji9 := (i64_w _).trans hji9
     by_cases c10 : 0 ≤ (ji9)
     ·rw [if_pos c10] at H
      have c10b0 : decide (0 ≤ (ji9)) = true := decide_eq_true c10; clear c10
      by_cases c11 : a1 = 0
      ·rw [if_pos c11] at H
       exact absurd H (by simp)
      ·rw [if_neg c11] at H
       have c11b0 : (a1 == 0) = false := beq_eq_false_iff_ne.mpr c11; have c11b1 : (a1 != 0) = true := bne_iff_ne.mpr c11
       simp only [Option.some.injEq, Prod.mk.injEq] at H
       obtain ⟨rfl, rfl⟩ := H; obtain ⟨ASz12_0, cSz12_0, HGz12, hgz12, HSz12_0⟩ := HI0.out; have hcz12_0 := cellS61_0 HGz12; have hcz12_1 := cellS61_1 HGz12; have hfz12_1 := blk_frozen HGz12 1; clear HGz12 hgz12; have p197 : 0 ≤ ((ji9) : Int) := of_decide_eq_true as_; have q197 : (ji9) < (s0_0.length : Int) := of_decide_eq_true as_; obtain ⟨ad197, e197, hx197_0⟩ := Kd.at_int HSz12_0 (ji9) p197 q197; cases e197; replace hx197_0 := pw_cell_below HB.out hx197_0; replace p197 := eq_true p197; replace q197 := eq_true q197
       go_wp2
       repeat (go_quiet (fail); try go_wp2)
       go_ret
       exact ⟨by first | rfl | (simp [errW_none, errW_some] <;> rfl) | (simp only [← hji9]; first | rfl | (simp [errW_none, errW_some] <;> rfl)) | (simp [*, errW_none, errW_some] <;> rfl), by exact is61_0 HI0.out, bs_ HB.out (IsS61.ge HI0.out), ke_ HK.out⟩
     ·rw [if_neg c10] at H
      exact absurd H (by simp)
    ·rw [if_neg c8] at H
     have c8b0 : decide ((wrap64 ((wrap64 (s0_1 + 1)) - 1)) < (s0_0.length : Int)) = false := decide_eq_false c8; clear c8
     by_cases c13 : (s0_0.length : Int) = 0
     ·rw [if_pos c13] at H
      exact absurd H (by simp)
     ·rw [if_neg c13] at H
      have c13b0 : ((s0_0.length : Int) == 0) = false := beq_eq_false_iff_ne.mpr c13; have c13b1 : ((s0_0.length : Int) != 0) = true := bne_iff_ne.mpr c13; have c13b2 : ¬ (s0_0 = []) := fun h_ => c13 (by rw [h_]; rfl); obtain ⟨ji14, hji14⟩ : ∃ j_ : Int, (Int.tmod (wrap64 ((wrap64 (s0_1 + 1)) - 1)) (s0_0.length : Int)) = j_ := ⟨_, rfl⟩
      replace H : (if 0 ≤ (ji14) then (if (ji14) < (s0_0.length : Int) then (if 0 ≤ (Int.tmod (wrap64 ((wrap64 ((wrap64 ((wrap64 (s0_1 + 1)) - 1)) * 7)) + 3)) (s0_0.length : Int)) then (if (Int.tmod (wrap64 ((wrap64 ((wrap64 ((wrap64 (s0_1 + 1)) - 1)) * 7)) + 3)) (s0_0.length : Int)) < (s0_0.length : Int) then (if a1 = 0 then (none) else (some (Int.tmod (Go.bits .xor .i64 (wrap64 ((wrap64 ((wrap64 ((wrap64 ((wrap64 (rd s0_0 (ji14))) * 131)) + (wrap64 ((wrap64 (rd s0_0 (Int.tmod (wrap64 ((wrap64 ((wrap64 ((wrap64 (s0_1 + 1)) - 1)) * 7)) + 3)) (s0_0.length : Int)))) * 1117)))) + (wrap64 ((wrap64 ((wrap64 (s0_1 + 1)) - 1)) * 29)))) + (wrap64 ((wrap64 (Int.tdiv (wrap64 ((wrap64 (s0_1 + 1)) - 1)) (s0_0.length : Int))) * 53)))) (wrap64 (Int.tdiv (wrap64 ((wrap64 ((wrap64 ((wrap64 ((wrap64 (rd s0_0 (ji14))) * 131)) + (wrap64 ((wrap64 (rd s0_0 (Int.tmod (wrap64 ((wrap64 ((wrap64 ((wrap64 (s0_1 + 1)) - 1)) * 7)) + 3)) (s0_0.length : Int)))) * 1117)))) + (wrap64 ((wrap64 ((wrap64 (s0_1 + 1)) - 1)) * 29)))) + (wrap64 ((wrap64 (Int.tdiv (wrap64 ((wrap64 (s0_1 + 1)) - 1)) (s0_0.length : Int))) * 53)))) 64))) a1, (wrap64 (s0_1 + 1))))) else (none)) else (none)) else (none)) else (none)) = some (r1, r2) := by first | (rw [hji14] at H; exact H) | (simp only [hji14] at H ⊢; exact H)
      by_cases c15 : 0 ≤ (ji14)
      ·rw [if_pos c15] at H
       have c15b0 : decide (0 ≤ (ji14)) = true := decide_eq_true c15; clear c15
       by_cases c16 : (ji14) < (s0_0.length : Int)
       ·rw [if_pos c16] at H
        have c16b0 : decide ((ji14) < (s0_0.length : Int)) = true := decide_eq_true c16; clear c16; obtain ⟨ji17, hji17⟩ : ∃ j_ : Int, (Int.tmod (wrap64 ((wrap64 ((wrap64 ((wrap64 (s0_1 + 1)) - 1)) * 7)) + 3)) (s0_0.length : Int)) = j_ := ⟨_, rfl⟩
        replace H : (if 0 ≤ (ji17) then (if (ji17) < (s0_0.length : Int) then (if a1 = 0 then (none) else (some (Int.tmod (Go.bits .xor .i64 (wrap64 ((wrap64 ((wrap64 ((wrap64 ((wrap64 (rd s0_0 (ji14))) * 131)) + (wrap64 ((wrap64 (rd s0_0 (ji17))) * 1117)))) + (wrap64 ((wrap64 ((wrap64 (s0_1 + 1)) - 1)) * 29)))) + (wrap64 ((wrap64 (Int.tdiv (wrap64 ((wrap64 (s0_1 + 1)) - 1)) (s0_0.length : Int))) * 53)))) (wrap64 (Int.tdiv (wrap64 ((wrap64 ((wrap64 ((wrap64 ((wrap64 (rd s0_0 (ji14))) * 131)) + (wrap64 ((wrap64 (rd s0_0 (ji17))) * 1117)))) + (wrap64 ((wrap64 ((wrap64 (s0_1 + 1)) - 1)) * 29)))) + (wrap64 ((wrap64 (Int.tdiv (wrap64 ((wrap64 (s0_1 + 1)) - 1)) (s0_0.length : Int))) * 53)))) 64))) a1, (wrap64 (s0_1 + 1))))) else (none)) else (none)) = some (r1, r2) := by first | (rw [hji17] at H; exact H) | (simp only [hji17] at H ⊢; exact H)
        by_cases c18 : 0 ≤ (ji17)
        ·rw [if_pos c18] at H
         have c18b0 : decide (0 ≤ (ji17)) = true := decide_eq_true c18; clear c18
         by_cases c19 : (ji17) < (s0_0.length : Int)
         ·rw [if_pos c19] at H
          have c19b0 : decide ((ji17) < (s0_0.length : Int)) = true := decide_eq_true c19; clear c19
          by_cases c20 : a1 = 0
          ·rw [if_pos c20] at H
           exact absurd H (by simp)
          ·rw [if_neg c20] at H
           have c20b0 : (a1 == 0) = false := beq_eq_false_iff_ne.mpr c20; have c20b1 : (a1 != 0) = true := bne_iff_ne.mpr c20
           simp only [Option.some.injEq, Prod.mk.injEq] at H
           obtain ⟨rfl, rfl⟩ := H; obtain ⟨ASz21_0, cSz21_0, HGz21, hgz21, HSz21_0⟩ := HI0.out; have hcz21_0 := cellS61_0 HGz21; have hcz21_1 := cellS61_1 HGz21; have hfz21_1 := blk_frozen HGz21 1; clear HGz21 hgz21; have p198 : 0 ≤ ((ji14) : Int) := of_decide_eq_true as_; have q198 : (ji14) < (s0_0.length : Int) := of_decide_eq_true as_; obtain ⟨ad198, e198, hx198_0⟩ := Kd.at_int HSz21_0 (ji14) p198 q198; cases e198; replace hx198_0 := pw_cell_below HB.out hx198_0; replace p198 := eq_true p198; replace q198 := eq_true q198; have p199 : 0 ≤ ((ji17) : Int) := of_decide_eq_true as_; have q199 : (ji17) < (s0_0.length : Int) := of_decide_eq_true as_; obtain ⟨ad199, e199, hx199_0⟩ := Kd.at_int HSz21_0 (ji17) p199 q199; obtain rfl : ad198 = ad199 := (by injection e199); replace hx199_0 := pw_cell_below HB.out hx199_0; replace p199 := eq_true p199; replace q199 := eq_true q199
           go_wp2
           repeat (go_quiet (fail); try go_wp2)
           go_ret
           exact ⟨by first | rfl | (simp [errW_none, errW_some] <;> rfl) | (simp only [← hji14, ← hji17]; first | rfl | (simp [errW_none, errW_some] <;> rfl)) | (simp [*, errW_none, errW_some] <;> rfl), by exact is61_0 HI0.out, bs_ HB.out (IsS61.ge HI0.out), ke_ HK.out⟩
         ·rw [if_neg c19] at H
          exact absurd H (by simp)
        ·rw [if_neg c18] at H
         exact absurd H (by simp)
       ·rw [if_neg c16] at H
        exact absurd H (by simp)
      ·rw [if_neg c15] at H
       exact absurd H (by simp)

/-! ### spec_l20Rd_odd: function 51 -/
def spec_l20Rd_odd.f (k : Nat) (s0_0 : List Int) (s0_1 : Int) (a1 : Int) : Option (Bool × Int) := if a1 > 0 then ((spec_l20Rd_pick.f k s0_0 s0_1 a1).bind fun bt200 => (some ((bt200.1 == (wrap64 (a1 - 1))), bt200.2))) else (some (false, s0_1))
theorem spec_l20Rd_odd.mono : ∀ a0 a1 a2 k, LeO (spec_l20Rd_odd.f k a0 a1 a2) (spec_l20Rd_odd.f (k + 1) a0 a1 a2) := by
 intro a0 a1 a2 k
 unfold spec_l20Rd_odd.f
 repeat' first
   | (with_reducible exact spec_l20Rd_pick.mono _ _ _ _)
   | (with_reducible exact LeO.refl _)
   | (with_reducible exact LeO.none _)
   | (with_reducible refine LeO.ite ?_ ?_)
   | (with_reducible refine LeO.bind ?_ (fun _ => ?_))
   | exact spec_l20Rd_pick.mono _ _ _ _
   | exact LeO.none _
   | refine LeO.ite ?_ ?_
   | refine LeO.bind ?_ (fun _ => ?_)
set_option maxHeartbeats 8000000 in
set_option maxRecDepth 100000 in
theorem spec_l20Rd_odd.calls (k : Nat) (g : Nat) (s0_0 : List Int) (s0_1 : Int) (a1 : Int) (r1 : Bool) (r2 : Int) (w0 w : World) (hI : IsS61 w0 w g s0_0 s0_1) (hB : Below w0.heap.size w0 w) (h : spec_l20Rd_odd.f k s0_0 s0_1 a1 = some (r1, r2)) :
  Calls Tryd.prog 51 #[.pointer (some ⟨g, 0, none⟩), .int .i64 a1] w fun e w' => e = .returned (.bool r1) ∧ IsS61 w0 w' g s0_0 r2 ∧ Below w0.heap.size w0 w' ∧ KeepBut w w' g none := by
 have HI0 := Aside0.mk hI; have HK := Aside0.mk (KeepBut.refl w g none); have HL := Aside0.mk hB.size; clear hI; have HW0 := Aside0.mk hB.size; have HB := Aside0.mk hB; clear hB; have H : (if a1 > 0 then ((spec_l20Rd_pick.f k s0_0 s0_1 a1).bind fun bt200 => (some ((bt200.1 == (wrap64 (a1 - 1))), bt200.2))) else (some (false, s0_1))) = some (r1, r2) := h; clear h
 by_cases c3 : a1 > 0
 ·rw [if_pos c3] at H
  have c3b0 : decide (0 < a1) = true := decide_eq_true c3; clear c3; replace H := Option.bind_eq_some_iff.mp H; obtain ⟨⟨t200, t201⟩, A40, H⟩ := H; replace H : (some ((t200 == (wrap64 (a1 - 1))), t201)) = some (r1, r2) := H; have A4 := Aside0.mk A40; clear A40
  simp only [Option.some.injEq, Prod.mk.injEq] at H
  obtain ⟨rfl, rfl⟩ := H
  go_enter Tryd.func51, Tryd.ntmps51
  go_wp2_with (first | (go_at_call 24; (with_reducible refine (spec_l20Rd_pick.calls k g s0_0 s0_1 a1 t200 t201 w0 _ ?side1 ?side2 A4.out).mono ?_); (case side1 => exact is61_0 HI0.out); (case side2 => exact bs_ HB.out (IsS61.ge HI0.out)); rintro e w5 ⟨rfl, hi, hb, hk⟩; have n0_ := Aside0.mk (KeepBut.trans (ke_ HK.out) hk (.inl rfl)); have n1_ := Aside0.mk (hb); have n2_ := Aside0.mk (hi); clear HK; clear HB; clear HI0; have HK := n0_; have HB := n1_; have HI0 := n2_; clear n0_ n1_ n2_; (try clear hb); (try clear hb2); (try clear hk); (try clear hi)))
  go_ret
  exact ⟨sr_, by exact is61_0 HI0.out, bs_ HB.out (IsS61.ge HI0.out), ke_ HK.out⟩
 ·rw [if_neg c3] at H
  have c3b0 : decide (0 < a1) = false := decide_eq_false c3; clear c3
  simp only [Option.some.injEq, Prod.mk.injEq] at H
  obtain ⟨rfl, rfl⟩ := H
  go_enter Tryd.func51, Tryd.ntmps51
  go_wp2
  go_ret
  exact ⟨sr_, by exact is61_0 HI0.out, bs_ HB.out (IsS61.ge HI0.out), ke_ HK.out⟩

/-! ### spec_l20House: function 37 -/
def spec_l20House.l0 : Nat → Int → Int → List Int → Int → Int → List Int → Option (Int × List Int × Int)
 | 0, _, _, _, _, _, _ => none
 | k + 1, x1, x6, x1000, x1001, x208000, x208001 => if x6 > 0 then (if 0 ≤ x208000 then ((spec_l20Rd_pick.f k x1000 x1001 (wrap64 ((shl .i64 1 x208000) - 1))).bind fun bt210 => (if x208001.length < 17592186044416 then (spec_l20House.l0 k x1 (wrap64 (x6 - 1)) x1000 bt210.2 x208000 (x208001 ++ [wrap64 (1 + bt210.1)])) else (none))) else (none)) else ((spec_l20Rd_odd.f k x1000 x1001 x1).bind fun bt215 => (if bt215.1 = true then ((spec_l20Rd_pick.f k x1000 bt215.2 3).bind fun bt217 => (if bt217.1 = 0 then ((some (([0, 7] : List Int) : List Int)).bind fun y219 => ((spec_l20Rd_pick.f k x1000 bt217.2 2).bind fun bt222 => (if 0 ≤ bt222.1 then (if bt222.1 < (y219.length : Int) then (some (rd y219 bt222.1, x208001, bt222.2)) else (none)) else (none)))) else (if bt217.1 = 1 then (if x208001.length < 17592186044416 then (some (x208000, (x208001 ++ [0]), bt217.2)) else (none)) else (some (x208000, (([] : List Int)), bt217.2))))) else (some (x208000, x208001, bt215.2))))
def spec_l20House.f (k : Nat) (s0_0 : List Int) (s0_1 : Int) (a1 : Int) : Option (Int × List Int × Int) := (spec_l20Rd_pick.f k s0_0 s0_1 5).bind fun bt203 => ((spec_l20Rd_pick.f k s0_0 bt203.2 9).bind fun bt205 => ((spec_l20Rd_pick.f k s0_0 bt205.2 3).bind fun bt208 => (spec_l20House.l0 k a1 (wrap64 (1 + bt208.1)) s0_0 bt208.2 (wrap64 ((wrap64 (1 + bt203.1)) + (wrap64 (Int.tdiv bt205.1 8)))) ([] : List Int))))
theorem spec_l20House.mono_l : ∀ k, (∀ y0 y1 y2 y3 y4 y5, LeO (spec_l20House.l0 k y0 y1 y2 y3 y4 y5) (spec_l20House.l0 (k + 1) y0 y1 y2 y3 y4 y5))
 | 0 => fun _ _ _ _ _ _ r h => by simp [spec_l20House.l0] at h
 | k + 1 => by
  have ih0 := spec_l20House.mono_l k
  ·intro y0 y1 y2 y3 y4 y5
   unfold spec_l20House.l0
   repeat' first
   | (with_reducible exact ih0 _ _ _ _ _ _)
   | (with_reducible exact spec_l20Rd_odd.mono _ _ _ _)
   | (with_reducible exact spec_l20Rd_pick.mono _ _ _ _)
   | (with_reducible exact LeO.refl _)
   | (with_reducible exact LeO.none _)
   | (with_reducible refine LeO.ite ?_ ?_)
   | (with_reducible refine LeO.bind ?_ (fun _ => ?_))
   | exact ih0 _ _ _ _ _ _
   | exact spec_l20Rd_odd.mono _ _ _ _
   | exact spec_l20Rd_pick.mono _ _ _ _
   | exact LeO.none _
   | refine LeO.ite ?_ ?_
   | refine LeO.bind ?_ (fun _ => ?_)
theorem spec_l20House.mono : ∀ a0 a1 a2 k, LeO (spec_l20House.f k a0 a1 a2) (spec_l20House.f (k + 1) a0 a1 a2) := by
 intro a0 a1 a2 k; have ih0 := spec_l20House.mono_l k
 unfold spec_l20House.f
 repeat' first
   | (with_reducible exact ih0 _ _ _ _ _ _)
   | (with_reducible exact spec_l20Rd_odd.mono _ _ _ _)
   | (with_reducible exact spec_l20Rd_pick.mono _ _ _ _)
   | (with_reducible exact LeO.refl _)
   | (with_reducible exact LeO.none _)
   | (with_reducible refine LeO.ite ?_ ?_)
   | (with_reducible refine LeO.bind ?_ (fun _ => ?_))
   | exact ih0 _ _ _ _ _ _
   | exact spec_l20Rd_odd.mono _ _ _ _
   | exact spec_l20Rd_pick.mono _ _ _ _
   | exact LeO.none _
   | refine LeO.ite ?_ ?_
   | refine LeO.bind ?_ (fun _ => ?_)
def spec_l20House.T5 : Bool × List (List Nat × List Nat) := (true, [([], []), ([0], [0]), ([], []), ([], []), ([3], [3]), ([4], [4]), ([5], [5]), ([2, 6], [2, 6]), ([7], [7]), ([8], [8]), ([1, 9, 7], [1, 9]), ([0, 1, 2, 3, 4, 5, 6, 7, 8, 9, 10], []), ([11, 10, 10, 0, 1, 2, 3, 4, 5, 6, 7, 8, 9, 10], [10, 11])])
def spec_l20House.B5 : List Nat := [0, 1, 0, 0, 8, 24, 56, 124, 252, 508, 1023, 2047, 4095]
theorem spec_l20House.tab5 : rtab .any (opsOf Tryd.f37 5) = spec_l20House.T5 := by kernel_rfl
theorem spec_l20House.bits5 : waitsOk spec_l20House.T5.2 spec_l20House.B5 = true := by kernel_rfl
set_option maxHeartbeats 8000000 in
set_option maxRecDepth 100000 in
theorem spec_l20House.calls (k : Nat) (g : Nat) (s0_0 : List Int) (s0_1 : Int) (a1 : Int) (r1 : Int) (r2 : List Int) (r3 : Int) (w0 w : World) (hI : IsS61 w0 w g s0_0 s0_1) (hB : Below w0.heap.size w0 w) (h : spec_l20House.f k s0_0 s0_1 a1 = some (r1, r2, r3)) :
  Calls Tryd.prog 37 #[.pointer (some ⟨g, 0, none⟩), .int .i64 a1] w fun e w' => ∃ v1_ : Value, e = .returned (.agg #[.int .i64 r1, v1_]) ∧ Kd.R (Kd.int .i64) 3 w' w.heap.size (fun _ => True) v1_ r2 ∧ IsS61 w0 w' g s0_0 r3 ∧ Below w0.heap.size w0 w' ∧ KeepBut w w' g none := by
 have hu25 := Tryd.underlying25; have HI0 := Aside0.mk hI; have HK := Aside0.mk (KeepBut.refl w g none); have HL := Aside0.mk hB.size; clear hI; have HW0 := Aside0.mk hB.size; have HB := Aside0.mk hB; clear hB; have H : ((spec_l20Rd_pick.f k s0_0 s0_1 5).bind fun bt203 => ((spec_l20Rd_pick.f k s0_0 bt203.2 9).bind fun bt205 => ((spec_l20Rd_pick.f k s0_0 bt205.2 3).bind fun bt208 => (spec_l20House.l0 k a1 (wrap64 (1 + bt208.1)) s0_0 bt208.2 (wrap64 ((wrap64 (1 + bt203.1)) + (wrap64 (Int.tdiv bt205.1 8)))) ([] : List Int))))) = some (r1, r2, r3) := h; clear h; replace H := Option.bind_eq_some_iff.mp H; obtain ⟨⟨t203, t204⟩, A30, H⟩ := H; replace H : ((spec_l20Rd_pick.f k s0_0 t204 9).bind fun bt205 => ((spec_l20Rd_pick.f k s0_0 bt205.2 3).bind fun bt208 => (spec_l20House.l0 k a1 (wrap64 (1 + bt208.1)) s0_0 bt208.2 (wrap64 ((wrap64 (1 + t203)) + (wrap64 (Int.tdiv bt205.1 8)))) ([] : List Int)))) = some (r1, r2, r3) := H; have A3 := Aside0.mk A30; clear A30; replace H := Option.bind_eq_some_iff.mp H; obtain ⟨⟨t205, t206⟩, A40, H⟩ := H; replace H : ((spec_l20Rd_pick.f k s0_0 t206 3).bind fun bt208 => (spec_l20House.l0 k a1 (wrap64 (1 + bt208.1)) s0_0 bt208.2 (wrap64 ((wrap64 (1 + t203)) + (wrap64 (Int.tdiv t205 8)))) ([] : List Int))) = some (r1, r2, r3) := H; have A4 := Aside0.mk A40; clear A40; replace H := Option.bind_eq_some_iff.mp H; obtain ⟨⟨t208, t209⟩, A50, H⟩ := H; replace H : (spec_l20House.l0 k a1 (wrap64 (1 + t208)) s0_0 t209 (wrap64 ((wrap64 (1 + t203)) + (wrap64 (Int.tdiv t205 8)))) ([] : List Int)) = some (r1, r2, r3) := H; have A5 := Aside0.mk A50; clear A50; have H' := Aside0.mk H; clear H
 go_enter Tryd.func37, Tryd.ntmps37
 go_wp2_with (first | ((with_reducible refine gate_dst (N := 4) rfl ?_); refine box_event ?hg (N := 4) ?hd (cs := #[.int .i64 0, .slice none 0 0]) (t := 25) ?hr ?_; (case hd => rfl); (case hg => rfl); (case hr => first | (go_simp; done) | (go_simp; rfl)); intro gb202 hg w6 hbox hb; have n0_ := Aside0.mk (IsS61.below (is61_0 HI0.out) hb); have n1_ := Aside0.mk (KeepBut.trans (ke_ HK.out) (KeepBut.of_below hb g none) (.inl rfl)); have n2_ := Aside0.mk (below_step (bs_ HB.out (IsS61.ge HI0.out)) hb); have n3_ := Aside0.mk (hbox); have n4_ := Aside0.mk ((by rw [hg]; exact (keep_size (w := w) (g := g) (row := none) (ke_ HK.out)) : w.heap.size ≤ gb202)); have n5_ := Aside0.mk ((Nat.le_trans HW0.out (by rw [hg]; exact (keep_size (w := w) (g := g) (row := none) (ke_ HK.out)) : w.heap.size ≤ gb202) : w0.heap.size ≤ gb202)); have n6_ := Aside0.mk ((by rw [hg]; exact Nat.ne_of_lt (IsS61.lt (show IsS61 w0 _ g s0_0 s0_1 from by exact is61_0 HI0.out)) : g ≠ gb202)); have n7_ := Aside0.mk ((by rw [hg]; exact Nat.ne_of_gt (IsS61.lt (show IsS61 w0 _ g s0_0 s0_1 from by exact is61_0 HI0.out)) : gb202 ≠ g)); clear HI0; clear HK; clear HB; have HI0 := n0_; have HK := n1_; have HB := n2_; have BK202 := n3_; have GW202 := n4_; have GE202 := n5_; have NB0_202 := n6_; have NB202_0 := n7_; clear n0_ n1_ n2_ n3_ n4_ n5_ n6_ n7_; clear hb hbox hg) | ((with_reducible refine gate_callee (f := 24) rfl ?_); refine goesL_ (some 8) rfl rfl Tryd.func24 (by kernel_rfl) rfl #[.pointer (some ⟨g, 0, none⟩), .int .i64 5] rfl ga_ ?_; (with_reducible refine (spec_l20Rd_pick.calls k g s0_0 s0_1 5 t203 t204 w0 _ ?side1 ?side2 A3.out).mono ?_); (case side1 => exact is61_1 HI0.out NB0_202.out); (case side2 => repeat (first | (with_reducible first | exact HB.out | apply below_alloc | apply pw_below_drewN | apply below_drew1 | refine below_set ?_ (IsS61.ge HI0.out) | refine below_set ?_ GE202.out) | exact HB.out)); rintro e w7 ⟨rfl, hi, hb, hk⟩; refine ⟨_, rfl, ?_⟩; have n0_ := Aside0.mk (KeepBut.blk hk (g' := gb202) (o := .cells #[.int .i64 0, .slice none 0 0] 25 (0, 0)) (bk_ BK202.out) NB202_0.out (by simp)); have n1_ := Aside0.mk (KeepBut.trans (kf_ HK.out GW202.out) hk (.inl rfl)); have n2_ := Aside0.mk (hb); have n3_ := Aside0.mk (hi); clear BK202; clear HK; clear HB; clear HI0; have BK202 := n0_; have HK := n1_; have HB := n2_; have HI0 := n3_; clear n0_ n1_ n2_ n3_; (try clear hb); (try clear hb2); (try clear hk); (try clear hi)) | ((with_reducible refine gate_callee (f := 24) rfl ?_); refine goesL_ (some 11) rfl rfl Tryd.func24 (by kernel_rfl) rfl #[.pointer (some ⟨g, 0, none⟩), .int .i64 9] rfl ga_ ?_; (with_reducible refine (spec_l20Rd_pick.calls k g s0_0 t204 9 t205 t206 w0 _ ?side1 ?side2 A4.out).mono ?_); (case side1 => exact is61_1 HI0.out NB0_202.out); (case side2 => repeat (first | (with_reducible first | exact HB.out | apply below_alloc | apply pw_below_drewN | apply below_drew1 | refine below_set ?_ (IsS61.ge HI0.out) | refine below_set ?_ GE202.out) | exact HB.out)); rintro e w8 ⟨rfl, hi, hb, hk⟩; refine ⟨_, rfl, ?_⟩; have n0_ := Aside0.mk (KeepBut.blk hk (g' := gb202) (o := .cells #[.int .i64 0, .slice none 0 0] 25 (0, 0)) (bk_ BK202.out) NB202_0.out (by simp)); have n1_ := Aside0.mk (KeepBut.trans (kf_ HK.out GW202.out) hk (.inl rfl)); have n2_ := Aside0.mk (hb); have n3_ := Aside0.mk (hi); clear BK202; clear HK; clear HB; clear HI0; have BK202 := n0_; have HK := n1_; have HB := n2_; have HI0 := n3_; clear n0_ n1_ n2_ n3_; (try clear hb); (try clear hb2); (try clear hk); (try clear hi)) | ((with_reducible refine gate_dst (N := 5) rfl ?_); refine box_event ?hg (N := 5) ?hd (cs := #[.int .i64 0, .slice none 0 0]) (t := 25) ?hr ?_; (case hd => rfl); (case hg => rfl); (case hr => first | (go_simp; done) | (go_simp; rfl)); intro gb207 hg w9 hbox hb; have n0_ := Aside0.mk (IsS61.below (is61_1 HI0.out NB0_202.out) hb); have n1_ := Aside0.mk (blk_below (g := gb202) (o := .cells #[.int .i64 0, .slice none 0 0] 25 (0, 0)) (bk_ BK202.out) hb); have n2_ := Aside0.mk (KeepBut.trans (kf_ HK.out GW202.out) (KeepBut.of_below hb g none) (.inl rfl)); have n3_ := Aside0.mk (below_step (bt_ HB.out (IsS61.ge HI0.out) GE202.out) hb); have n4_ := Aside0.mk (hbox); have n5_ := Aside0.mk ((by rw [hg]; exact (keep_size (w := w) (g := g) (row := none) (kf_ HK.out GW202.out)) : w.heap.size ≤ gb207)); have n6_ := Aside0.mk ((Nat.le_trans HW0.out (by rw [hg]; exact (keep_size (w := w) (g := g) (row := none) (kf_ HK.out GW202.out)) : w.heap.size ≤ gb207) : w0.heap.size ≤ gb207)); have n7_ := Aside0.mk ((by rw [hg]; exact Nat.ne_of_lt (blk_lt (g := gb202) (o := .cells #[.int .i64 0, .slice none 0 0] 25 (0, 0)) (bk_ BK202.out)) : gb202 ≠ gb207)); have n8_ := Aside0.mk ((by rw [hg]; exact Nat.ne_of_gt (blk_lt (g := gb202) (o := .cells #[.int .i64 0, .slice none 0 0] 25 (0, 0)) (bk_ BK202.out)) : gb207 ≠ gb202)); have n9_ := Aside0.mk ((by rw [hg]; exact Nat.ne_of_lt (IsS61.lt (show IsS61 w0 _ g s0_0 t206 from by exact is61_1 HI0.out NB0_202.out)) : g ≠ gb207)); have n10_ := Aside0.mk ((by rw [hg]; exact Nat.ne_of_gt (IsS61.lt (show IsS61 w0 _ g s0_0 t206 from by exact is61_1 HI0.out NB0_202.out)) : gb207 ≠ g)); clear HI0; clear BK202; clear HK; clear HB; have HI0 := n0_; have BK202 := n1_; have HK := n2_; have HB := n3_; have BK207 := n4_; have GW207 := n5_; have GE207 := n6_; have NB202_207 := n7_; have NB207_202 := n8_; have NB0_207 := n9_; have NB207_0 := n10_; clear n0_ n1_ n2_ n3_ n4_ n5_ n6_ n7_ n8_ n9_ n10_; clear hb hbox hg; have hnb10 := NB207_202.out; have hnc10 := NB202_207.out; have hnb11 := NB207_0.out; have hnc11 := NB0_207.out; have hcz12_0 : w9.cell? ⟨gb207, 0, none⟩ = some (.int .i64 0) := (blk_cell BK207.out 0).trans rfl; have hcz12_1 : w9.cell? ⟨gb207, 1, none⟩ = some (.slice none 0 0) := (blk_cell BK207.out 1).trans rfl; have hfz12_0 := blk_frozen BK207.out 0; have hfz12_1 := blk_frozen BK207.out 1) | ((with_reducible refine gate_callee (f := 24) rfl ?_); refine goesL_ (some 16) rfl rfl Tryd.func24 (by kernel_rfl) rfl #[.pointer (some ⟨g, 0, none⟩), .int .i64 3] rfl ga_ ?_; (with_reducible refine (spec_l20Rd_pick.calls k g s0_0 t206 3 t208 t209 w0 _ ?side1 ?side2 A5.out).mono ?_); (case side1 => exact is61_2 HI0.out NB0_202.out NB0_207.out); (case side2 => repeat (first | (with_reducible first | exact HB.out | apply below_alloc | apply pw_below_drewN | apply below_drew1 | refine below_set ?_ (IsS61.ge HI0.out) | refine below_set ?_ GE202.out | refine below_set ?_ GE207.out) | exact HB.out)); rintro e w13 ⟨rfl, hi, hb, hk⟩; refine ⟨_, rfl, ?_⟩; have n0_ := Aside0.mk (KeepBut.blk hk (g' := gb202) (o := .cells #[.int .i64 0, .slice none 0 0] 25 (0, 0)) (by refine sb_ ?_; refine blk_far ?_ NB202_207.out _; refine sb_ ?_; refine blk_far ?_ NB202_207.out _; refine sb_ ?_; exact BK202.out) NB202_0.out (by simp)); have n1_ := Aside0.mk (KeepBut.blk hk (g' := gb207) (o := .cells #[.int .i64 (wrap64 ((wrap64 (1 + t203)) + (wrap64 (Int.tdiv t205 8)))), .slice none 0 0] 25 (0, 0)) (by refine sb_ ?_; refine blk_put (cs := #[.int .i64 (wrap64 ((wrap64 (1 + t203)) + (wrap64 (Int.tdiv t205 8)))), .slice none 0 0]) ?_ 1 _ rfl; refine sb_ ?_; refine blk_put (cs := #[.int .i64 0, .slice none 0 0]) ?_ 0 _ rfl; refine sb_ ?_; exact BK207.out) NB207_0.out (by simp)); have n2_ := Aside0.mk (KeepBut.trans (kg_ HK.out GW202.out GW207.out) hk (.inl rfl)); have n3_ := Aside0.mk (hb); have n4_ := Aside0.mk (hi); clear BK202; clear BK207; clear HK; clear HB; clear HI0; have BK202 := n0_; have BK207 := n1_; have HK := n2_; have HB := n3_; have HI0 := n4_; clear n0_ n1_ n2_ n3_ n4_; (try clear hb); (try clear hb2); (try clear hk); (try clear hi)))
 go_loopg [6] k (fun kq v6 w' => ∃ (x6_1 : Int) (x1001_1 : Int) (x208001_1 : List Int) (u208001 : Value), v6 = .int .i64 x6_1 ∧ Aside0 (spec_l20House.l0 kq a1 x6_1 s0_0 x1001_1 (wrap64 ((wrap64 (1 + t203)) + (wrap64 (Int.tdiv t205 8)))) x208001_1 = some (r1, r2, r3)) ∧ Aside0 (kq ≤ k) ∧ Aside0 (Kd.R (Kd.int .i64) 3 w' w.heap.size (fun _ => True) u208001 x208001_1) ∧ Aside0 (w'.heap[gb202]? = some (.cells #[.int .i64 0, (.slice none 0 0)] 25 (0, 0))) ∧ Aside0 (w'.heap[gb207]? = some (.cells #[.int .i64 (wrap64 ((wrap64 (1 + t203)) + (wrap64 (Int.tdiv t205 8)))), u208001] 25 (0, 0))) ∧ Aside0 (IsS61 w0 w' g s0_0 x1001_1) ∧ Aside0 (KeepBut w w' g none) ∧ Aside0 (Below w0.heap.size w0 w'))
 case atStart => exact ⟨(wrap64 (1 + t208)), (t209), (([] : List Int)), (.slice none 0 0), si_, H', ⟨Nat.le_refl _⟩, ⟨by first | exact Kd.R_nil _ _ _ _ _ | exact Kd.N_nil _ _ _ _ _ | exact Kd.V_nil _ _ _ _ _ | exact Kd.Q_nil _ _ _ _ _ | exact Kd.S_nil _ _ _ _ _⟩, ⟨bk_ BK202.out⟩, ⟨bk_ BK207.out⟩, ⟨by exact is61_2 HI0.out NB0_202.out NB0_207.out⟩, ⟨kg_ HK.out GW202.out GW207.out⟩, ⟨bu_ HB.out (IsS61.ge HI0.out) GE202.out GE207.out⟩⟩
 case round =>
  clear H'; (try clear c1); (try clear c2); (try clear p2); (try clear c3); (try clear p6); (try clear c10); (try clear c11); (try clear hcz12_0); (try clear hcz12_1); (try clear hfz12_0); (try clear hfz12_1); obtain ⟨x6_1, x1001_1, x208001_1, u208001, rfl, HA, HK1, HO_208001, BK202, BK207, HI0, HK, HB⟩ := hrel
  cases gk with
  | zero => exact absurd HA.out (by simp [spec_l20House.l0])
  | succ k1 =>
   have H := HA.out; clear HA
   simp only [spec_l20House.l0] at H
   by_cases c14 : x6_1 > 0
   ·rw [if_pos c14] at H
    have c14b0 : decide (0 < x6_1) = true := decide_eq_true c14; clear c14; obtain ⟨ji15, hji15⟩ : ∃ j_ : Int, (wrap64 ((wrap64 (1 + t203)) + (wrap64 (Int.tdiv t205 8)))) = j_ := ⟨_, rfl⟩
    replace H : (if 0 ≤ (ji15) then ((spec_l20Rd_pick.f k1 s0_0 x1001_1 (wrap64 ((shl .i64 1 (ji15)) - 1))).bind fun bt210 => (if x208001_1.length < 17592186044416 then (spec_l20House.l0 k1 a1 (wrap64 (x6_1 - 1)) s0_0 bt210.2 (ji15) (x208001_1 ++ [wrap64 (1 + bt210.1)])) else (none))) else (none)) = some (r1, r2, r3) := by first | (rw [hji15] at H; exact H) | (simp only [hji15] at H ⊢; exact H)
    have hji15w : (IntKind.i64.wrap ((wrap64 (1 + t203)) + (wrap64 (Int.tdiv t205 8)))) = ji15 := (i64_w _).trans hji15
    rw [hji15] at BK207
    by_cases c16 : 0 ≤ (ji15)
    ·rw [if_pos c16] at H
     have c16b0 := eq_true c16; have c16b1 : decide (0 ≤ (ji15)) = true := decide_eq_true c16; clear c16; obtain ⟨ji17, hji17⟩ : ∃ j_ : Int, (shl .i64 1 (ji15)) = j_ := ⟨_, rfl⟩
     replace H : ((spec_l20Rd_pick.f k1 s0_0 x1001_1 (wrap64 ((ji17) - 1))).bind fun bt210 => (if x208001_1.length < 17592186044416 then (spec_l20House.l0 k1 a1 (wrap64 (x6_1 - 1)) s0_0 bt210.2 (ji15) (x208001_1 ++ [wrap64 (1 + bt210.1)])) else (none))) = some (r1, r2, r3) := by first | (rw [hji17] at H; exact H) | (simp only [hji17] at H ⊢; exact H)
     have hji17_ : (IntKind.i64.wrap (1 * 2 ^ min (ji15).toNat 64)) = ji17 := hji17; have hji17z : (ji15) ≤ 64 → (IntKind.i64.wrap (1 * 2 ^ (ji15).toNat)) = ji17 := shl_small hji17
     have hji17u : (IntKind.i64.wrap (2 ^ min (ji15).toNat 64)) = ji17 := by have h_ := hji17_; rw [Int.one_mul] at h_; exact h_
     have hji17v : (ji15) ≤ 64 → (IntKind.i64.wrap (2 ^ (ji15).toNat)) = ji17 := fun hle_ => by have h_ := hji17z hle_; rw [Int.one_mul] at h_; exact h_
     have hji17y : (wrap64 (1 * 2 ^ min (ji15).toNat 64)) = ji17 := (i64_w _).symm.trans hji17_; have hji17x : (ji15) ≤ 64 → (wrap64 (1 * 2 ^ (ji15).toNat)) = ji17 := fun h_ => (i64_w _).symm.trans (hji17z h_); replace H := Option.bind_eq_some_iff.mp H; obtain ⟨⟨t210, t211⟩, A180, H⟩ := H; replace H : (if x208001_1.length < 17592186044416 then (spec_l20House.l0 k1 a1 (wrap64 (x6_1 - 1)) s0_0 t211 (ji15) (x208001_1 ++ [wrap64 (1 + t210)])) else (none)) = some (r1, r2, r3) := H; have A18 := Aside0.mk A180; clear A180
     by_cases c19 : x208001_1.length < 17592186044416
     ·rw [if_pos c19] at H
      have LMc19 := Aside0.mk c19; clear c19; obtain ⟨y212, hy212⟩ : ∃ y_ : List Int, y_ = (x208001_1 ++ [wrap64 (1 + t210)]) := ⟨_, rfl⟩
      replace H : (spec_l20House.l0 k1 a1 (wrap64 (x6_1 - 1)) s0_0 t211 (ji15) y212) = some (r1, r2, r3) := by first | (rw [hy212]; with_reducible exact H) | (have H2_ := (Option.bind_some _ _).symm.trans H; rw [hy212]; with_reducible exact H2_) | (have H2_ := (Option.bind_some _ _).symm.trans H; with_reducible exact H2_) | with_reducible exact H | (rw [hy212]; exact H) | exact H
      have Ny212 := Aside0.mk hy212; clear hy212; have H' := Aside0.mk H; clear H
      try go_wp2
      have n0_ := Aside0.mk (Kd.R_drew HO_208001.out); have n1_ := Aside0.mk (blk_drew BK202.out); have n2_ := Aside0.mk (blk_drew BK207.out); have n3_ := Aside0.mk (IsS61.drew HI0.out); have n4_ := Aside0.mk (keep_drew HK.out); have n5_ := Aside0.mk (below_drew1 HB.out); clear HO_208001 BK202 BK207 HI0 HK HB; have HO_208001 := n0_; have BK202 := n1_; have BK207 := n2_; have HI0 := n3_; have HK := n4_; have HB := n5_; clear n0_ n1_ n2_ n3_ n4_ n5_
      refine start_ (n := 13) (S := fun w' => w'.cell? ⟨gb207, 0, none⟩ = some (.int .i64 (ji15)) ∧ w'.cell? ⟨gb207, 1, none⟩ = some (u208001)) (ds := [12]) #[false, false, false, false, false, false, false, false, false, false, false, false, false] (by kernel_rfl) rfl rfl ⟨(blk_cell BK207.out 0).trans rfl, (blk_cell BK207.out 1).trans rfl⟩ (fun hHeld => ?_); refine with_tabW spec_l20House.tab5 spec_l20House.bits5 (fun HT_ HW_ => ?_)
      generalize wr.drew = w20 at HO_208001 BK202 BK207 HI0 HK HB hHeld ⊢
      refine pure_ (i := 0) (N := some 22) (v := ?_) (a' := ?_) #[true, false, false, false, false, false, false, false, false, false, false, false, false] rfl rfl (any_of HT_.out (by kernel_rfl)) (fun _ _ _ h => h) (Or.inl ⟨by rfl, ?_⟩) ?_ ?_
      rotate_left
      ·intro w'
       go_simp
       with_reducible rfl
      rotate_left
      ·simp only [Act.put, List.setIfInBounds_toArray, List.set_cons_zero, List.set_cons_succ, i64_w, i32_w]
       rfl
      refine pure_ (i := 2) (N := some 24) (v := ?_) (a' := ?_) #[true, false, true, false, false, false, false, false, false, false, false, false, false] rfl rfl (any_of HT_.out (by kernel_rfl)) (fun _ _ _ h => h) (Or.inl ⟨by rfl, ?_⟩) ?_ ?_
      rotate_left
      ·intro w'
       go_simp
       with_reducible rfl
      rotate_left
      ·simp only [Act.put, List.setIfInBounds_toArray, List.set_cons_zero, List.set_cons_succ, i64_w, i32_w]
       rfl
      refine pure_ (i := 3) (N := some 25) (v := ?_) (a' := ?_) #[true, false, true, true, false, false, false, false, false, false, false, false, false] rfl rfl (any_of HT_.out (by kernel_rfl)) (fun _ _ _ h => h) (Or.inl ⟨by rfl, ?_⟩) ?_ ?_
      rotate_left
      ·intro w'
       go_simp
       with_reducible rfl
      rotate_left
      ·simp only [Act.put, List.setIfInBounds_toArray, List.set_cons_zero, List.set_cons_succ, i64_w, i32_w]
       rfl
      refine take_ (i := 1) (N := some 23) (v := ?_) (a' := ?_) #[true, true, true, true, false, false, false, false, false, false, false, false, false] rfl rfl (take_ofW HT_.out HW_.out (by kernel_rfl)) (fun _ _ _ h => h) (Or.inl ⟨by rfl, ?_⟩) hHeld ?_ ?_
      rotate_left
      ·rintro w' ⟨s0, s1⟩
       go_simp
       with_reducible rfl
      rotate_left
      ·simp only [Act.put, List.setIfInBounds_toArray, List.set_cons_zero, List.set_cons_succ, i64_w, i32_w]
       rfl
      refine take_ (i := 4) (N := some 26) (v := ?_) (a' := ?_) #[true, true, true, true, true, false, false, false, false, false, false, false, false] rfl rfl (take_ofW HT_.out HW_.out (by kernel_rfl)) (fun _ _ _ h => h) (Or.inl ⟨by rfl, ?_⟩) hHeld ?_ ?_
      rotate_left
      ·rintro w' ⟨s0, s1⟩
       go_simp
       with_reducible rfl
      rotate_left
      ·simp only [Act.put, List.setIfInBounds_toArray, List.set_cons_zero, List.set_cons_succ, i64_w, i32_w]
       rfl
      refine pure_ (i := 5) (N := some 27) (v := ?_) (a' := ?_) #[true, true, true, true, true, true, false, false, false, false, false, false, false] rfl rfl (any_of HT_.out (by kernel_rfl)) (fun _ _ _ h => h) (Or.inl ⟨by rfl, ?_⟩) ?_ ?_
      rotate_left
      ·intro w'
       go_simp
       with_reducible rfl
      rotate_left
      ·simp only [Act.put, List.setIfInBounds_toArray, List.set_cons_zero, List.set_cons_succ, i64_w, i32_w]
       rfl
      refine pure_ (i := 6) (N := some 28) (v := ?_) (a' := ?_) #[true, true, true, true, true, true, true, false, false, false, false, false, false] rfl rfl (any_of HT_.out (by kernel_rfl)) (fun _ _ _ h => h) (Or.inl ⟨by rfl, ?_⟩) ?_ ?_
      rotate_left
      ·intro w'
       go_simp
       with_reducible rfl
      rotate_left
      ·simp only [Act.put, List.setIfInBounds_toArray, List.set_cons_zero, List.set_cons_succ, i64_w, i32_w]
       rfl
      refine one_ (i := 7) (N := some 29) #[true, true, true, true, true, true, true, true, false, false, false, false, false] rfl rfl (one_of HT_.out (by kernel_rfl)) (by decide) (fun K hK => ?_)
      refine goes_ Tryd.func24 (by kernel_rfl) rfl #[.pointer (some ⟨g, 0, none⟩), .int .i64 (wrap64 ((ji17) - 1))] (by rfl) rfl rfl (by (try simp only [List.map_toArray, List.map_cons, List.map_nil]); first | done | (simp only [hji17]; rfl) | rfl | (simp only [List.length_drop, List.length_take]; rfl)) ?_
      with_reducible refine (spec_l20Rd_pick.calls k1 g s0_0 x1001_1 (wrap64 ((ji17) - 1)) t210 t211 w0 _ ?side1 ?side2 A18.out).mono ?_
      (case side1 => exact is61_2 HI0.out NB0_202.out NB0_207.out)
      (case side2 => repeat (first | (with_reducible first | exact HB.out | apply below_alloc | apply pw_below_drewN | apply below_drew1 | refine below_set ?_ (IsS61.ge HI0.out) | refine below_set ?_ GE202.out | refine below_set ?_ GE207.out) | exact HB.out))
      rintro e w21 ⟨rfl, hi, hb, hk⟩
      refine ⟨_, rfl, ?_⟩
      have n0_ := Aside0.mk (Kd.R_mono (Kd.R_keep (IsS61.apart (show IsS61 w0 _ g s0_0 x1001_1 from by exact is61_2 HI0.out NB0_202.out NB0_207.out) (r_ HO_208001.out) (by decide)) hk (fun _ h => h.2)) (fun _ h => h.1)); have n1_ := Aside0.mk (KeepBut.blk hk (g' := gb202) (o := .cells #[.int .i64 0, .slice none 0 0] 25 (0, 0)) (bk_ BK202.out) NB202_0.out (by simp)); have n2_ := Aside0.mk (KeepBut.blk hk (g' := gb207) (o := .cells #[.int .i64 (ji15), u208001] 25 (0, 0)) (bk_ BK207.out) NB207_0.out (by simp)); have n3_ := Aside0.mk (KeepBut.trans (kg_ HK.out GW202.out GW207.out) hk (.inl rfl)); have n4_ := Aside0.mk (hb); have n5_ := Aside0.mk (hi); clear HO_208001 BK202 BK207 HK HB HI0; have HO_208001 := n0_; have BK202 := n1_; have BK207 := n2_; have HK := n3_; have HB := n4_; have HI0 := n5_; clear n0_ n1_ n2_ n3_ n4_ n5_
      (try clear hb)
      (try clear hb2)
      (try clear hk)
      (try clear hi)
      refine hK.out _ _ ⟨(blk_cell BK207.out 0).trans rfl, (blk_cell BK207.out 1).trans rfl⟩ (fun hHeld => ?_)
      clear hK K
      refine norm_ (a' := ?_) ?_ ?_
      rotate_left
      ·show Act.put _ (some 29) _ = _
       simp only [Act.put, List.setIfInBounds_toArray, List.set_cons_zero, List.set_cons_succ, i64_w, i32_w]
       rfl
      refine pure_ (i := 8) (N := some 30) (v := ?_) (a' := ?_) #[true, true, true, true, true, true, true, true, true, false, false, false, false] rfl rfl (any_of HT_.out (by kernel_rfl)) (fun _ _ _ h => h) (Or.inl ⟨by rfl, ?_⟩) ?_ ?_
      rotate_left
      ·intro w'
       go_simp
       with_reducible rfl
      rotate_left
      ·simp only [Act.put, List.setIfInBounds_toArray, List.set_cons_zero, List.set_cons_succ, i64_w, i32_w]
       rfl
      refine one_ (i := 9) (N := some 31) #[true, true, true, true, true, true, true, true, true, true, false, false, false] rfl rfl (one_of HT_.out (by kernel_rfl)) (by decide) (fun K hK => ?_)
      refine value_ (w1 := ?_) (v := ?_) (by rfl) rfl ?_ ?_
      rotate_left 2
      ·go_simp
       constructor
       ·rfl
       ·rfl
      refine hK.out _ _ ⟨(blk_cell (blk_alloc BK207.out _) 0).trans rfl, (blk_cell (blk_alloc BK207.out _) 1).trans rfl⟩ (fun hHeld => ?_)
      clear hK K
      refine norm_ (a' := ?_) ?_ ?_
      rotate_left
      ·show Act.put _ (some 31) _ = _
       simp only [Act.put, List.setIfInBounds_toArray, List.set_cons_zero, List.set_cons_succ, i64_w, i32_w]
       rfl
      refine one_ (i := 10) (N := some 32) #[true, true, true, true, true, true, true, true, true, true, true, false, false] rfl rfl (one_of HT_.out (by kernel_rfl)) (by decide) (fun K hK => ?_)
      refine Kd.R_append_step (Kd.int .i64) w.heap.size (by rfl) (.tmp 23) (.tmp 31) 23 3 (.int .i64 0) 8 rfl Tryd.underlying23 info3 rfl (by decide) (by omega) u208001 x208001_1 (wrap64 (1 + t210)) [.int .i64 (wrap64 (1 + t210))] (fun _ => True) (fun _ => False) rfl rfl ?aP (fun _ hk => hk.elim) ?aF ?aO (Below.refl _ _) ?aS ?aL ?_
      (case aP => exact rfl)
      (case aF => exact (fun _ _ => trivial))
      (case aO => exact (r_ HO_208001.out))
      (case aS => exact (keep_size (w := w) (g := g) (row := none) (kg_ HK.out GW202.out GW207.out)))
      (case aL => have := LMc19.out; omega)
      intro v213 w22 ho hb hg hat
      rw [← Ny212.out] at ho
      have n0_ := Aside0.mk (blk_grown (g := gb202) (o := .cells #[.int .i64 0, .slice none 0 0] 25 (0, 0)) (bk_ BK202.out) hg (Kd.R_ne HO_208001.out BK202.out (by decide))); have n1_ := Aside0.mk (blk_grown (g := gb207) (o := .cells #[.int .i64 (ji15), u208001] 25 (0, 0)) (bk_ BK207.out) hg (Kd.R_ne HO_208001.out BK207.out (by decide))); have n2_ := Aside0.mk (IsS61.grown (is61_2 HI0.out NB0_202.out NB0_207.out) hg (IsS61.own_ne HI0.out HO_208001.out (by decide))); have n3_ := Aside0.mk (below_weaken (bu_ HB.out (IsS61.ge HI0.out) GE202.out GE207.out) HL.out hb); have n4_ := Aside0.mk (KeepBut.trans (kg_ HK.out GW202.out GW207.out) (KeepBut.of_grown hg g) (Kd.R_base2 HO_208001.out)); have n5_ := Aside0.mk (ho); clear BK202 BK207 HI0 HB HK HO_208001; have BK202 := n0_; have BK207 := n1_; have HI0 := n2_; have HB := n3_; have HK := n4_; have HO214 := n5_; clear n0_ n1_ n2_ n3_ n4_ n5_ ho hb hg hat; obtain ⟨Ao23, co23, eo23⟩ := Kd.R_slice HO214.out
      (first | subst eo23 | (injection eo23 with f1_ f2_ f3_; have f4_ := f1_.symm; have f5_ := f3_.symm; clear f1_ f2_ f3_; subst f4_; subst f5_))
      refine hK.out _ _ ⟨(blk_cell BK207.out 0).trans rfl, (blk_cell BK207.out 1).trans rfl⟩ (fun hHeld => ?_)
      clear hK K
      refine norm_ (a' := ?_) ?_ ?_
      rotate_left
      ·show Act.put _ (some 32) _ = _
       simp only [Act.put, List.setIfInBounds_toArray, List.set_cons_zero, List.set_cons_succ, i64_w, i32_w]
       rfl
      refine pure_ (i := 11) (N := some 33) (v := ?_) (a' := ?_) #[true, true, true, true, true, true, true, true, true, true, true, true, false] rfl rfl (any_of HT_.out (by kernel_rfl)) (fun _ _ _ h => h) (Or.inl ⟨by rfl, ?_⟩) ?_ ?_
      rotate_left
      ·intro w'
       go_simp
       with_reducible rfl
      rotate_left
      ·simp only [Act.put, List.setIfInBounds_toArray, List.set_cons_zero, List.set_cons_succ, i64_w, i32_w]
       rfl
      refine last_ (i := 12) (N := none) #[true, true, true, true, true, true, true, true, true, true, true, true, true] rfl rfl (one_of HT_.out (by kernel_rfl)) (by decide) (fun K hK => ?_)
      have hs24 : w22.cell? ⟨gb207, 1, none⟩ = some (u208001) := (blk_cell BK207.out 1).trans rfl; have hfs24 := blk_frozen BK207.out 1; have hns24_0 := NB202_207.out; have hms24_0 := NB207_202.out
      refine skip_ (w1 := ?_) (by rfl) rfl ?_ ?_
      rotate_left
      ·go_simp
       rfl
      refine hK.out _ _ ?_
      clear hK K
      refine done_ (done_of HT_.out (by kernel_rfl)) ?_
      try go_wp2
      go_roundg k1
      case measure => have := HK1.out; omega
      case rel => subst hji15; exact ⟨(wrap64 (x6_1 - 1)), (t211), (y212), (.slice Ao23 y212.length co23), si_, H', ⟨by have := HK1.out; omega⟩, ⟨by (with_reducible repeat (first | apply Kd.R_alloc | apply Kd.R_drewN | apply Kd.R_drew)); exact Kd.R_mono (Kd.R_far (p := ⟨gb207, 1, none⟩) (Kd.R_types HO214.out BK207.out (by decide)) (fun _ hk => hk.2) (.slice Ao23 y212.length co23)) (fun _ hk => trivial)⟩, ⟨by refine sb_ ?_; refine blk_far ?_ NB202_207.out _; refine sb_ ?_; exact BK202.out⟩, ⟨by refine sb_ ?_; refine blk_put (cs := #[.int .i64 (wrap64 ((wrap64 (1 + t203)) + (wrap64 (Int.tdiv t205 8)))), u208001]) ?_ 1 _ rfl; refine sb_ ?_; exact BK207.out⟩, ⟨by exact is61_2 HI0.out NB0_202.out NB0_207.out⟩, ⟨kg_ HK.out GW202.out GW207.out⟩, ⟨bu_ HB.out (IsS61.ge HI0.out) GE202.out GE207.out⟩⟩
     ·rw [if_neg c19] at H
      exact absurd H (by simp)
    ·rw [if_neg c16] at H
     exact absurd H (by simp)
   ·rw [if_neg c14] at H
    have c14b0 : decide (0 < x6_1) = false := decide_eq_false c14; clear c14; replace H := Option.bind_eq_some_iff.mp H; obtain ⟨⟨t215, t216⟩, A250, H⟩ := H; replace H : (if t215 = true then ((spec_l20Rd_pick.f k1 s0_0 t216 3).bind fun bt217 => (if bt217.1 = 0 then ((some (([0, 7] : List Int) : List Int)).bind fun y219 => ((spec_l20Rd_pick.f k1 s0_0 bt217.2 2).bind fun bt222 => (if 0 ≤ bt222.1 then (if bt222.1 < (y219.length : Int) then (some (rd y219 bt222.1, x208001_1, bt222.2)) else (none)) else (none)))) else (if bt217.1 = 1 then (if x208001_1.length < 17592186044416 then (some ((wrap64 ((wrap64 (1 + t203)) + (wrap64 (Int.tdiv t205 8)))), (x208001_1 ++ [0]), bt217.2)) else (none)) else (some ((wrap64 ((wrap64 (1 + t203)) + (wrap64 (Int.tdiv t205 8)))), (([] : List Int)), bt217.2))))) else (some ((wrap64 ((wrap64 (1 + t203)) + (wrap64 (Int.tdiv t205 8)))), x208001_1, t216))) = some (r1, r2, r3) := H; have A25 := Aside0.mk A250; clear A250
    by_cases c26 : t215 = true
    ·subst c26
     have H1 : ((spec_l20Rd_pick.f k1 s0_0 t216 3).bind fun bt217 => (if bt217.1 = 0 then ((some (([0, 7] : List Int) : List Int)).bind fun y219 => ((spec_l20Rd_pick.f k1 s0_0 bt217.2 2).bind fun bt222 => (if 0 ≤ bt222.1 then (if bt222.1 < (y219.length : Int) then (some (rd y219 bt222.1, x208001_1, bt222.2)) else (none)) else (none)))) else (if bt217.1 = 1 then (if x208001_1.length < 17592186044416 then (some ((wrap64 ((wrap64 (1 + t203)) + (wrap64 (Int.tdiv t205 8)))), (x208001_1 ++ [0]), bt217.2)) else (none)) else (some ((wrap64 ((wrap64 (1 + t203)) + (wrap64 (Int.tdiv t205 8)))), (([] : List Int)), bt217.2))))) = some (r1, r2, r3) := by rw [if_pos rfl] at H; exact H
     clear H; have H := H1; clear H1; replace H := Option.bind_eq_some_iff.mp H; obtain ⟨⟨t217, t218⟩, A270, H⟩ := H; replace H : (if t217 = 0 then ((some (([0, 7] : List Int) : List Int)).bind fun y219 => ((spec_l20Rd_pick.f k1 s0_0 t218 2).bind fun bt222 => (if 0 ≤ bt222.1 then (if bt222.1 < (y219.length : Int) then (some (rd y219 bt222.1, x208001_1, bt222.2)) else (none)) else (none)))) else (if t217 = 1 then (if x208001_1.length < 17592186044416 then (some ((wrap64 ((wrap64 (1 + t203)) + (wrap64 (Int.tdiv t205 8)))), (x208001_1 ++ [0]), t218)) else (none)) else (some ((wrap64 ((wrap64 (1 + t203)) + (wrap64 (Int.tdiv t205 8)))), (([] : List Int)), t218)))) = some (r1, r2, r3) := H; have A27 := Aside0.mk A270; clear A270
     by_cases c28 : t217 = 0
     ·rw [if_pos c28] at H
      have c28b0 : (t217 == 0) = true := beq_iff_eq.mpr c28; have c28b1 : (t217 != 0) = false := bne_eq_false_iff_eq.mpr c28; clear c28; obtain ⟨y219, hy219⟩ : ∃ y_ : List Int, y_ = (([0, 7] : List Int)) := ⟨_, rfl⟩
      replace H : ((spec_l20Rd_pick.f k1 s0_0 t218 2).bind fun bt222 => (if 0 ≤ bt222.1 then (if bt222.1 < (y219.length : Int) then (some (rd y219 bt222.1, x208001_1, bt222.2)) else (none)) else (none))) = some (r1, r2, r3) := by first | (rw [hy219]; with_reducible exact H) | (have H2_ := (Option.bind_some _ _).symm.trans H; rw [hy219]; with_reducible exact H2_) | (have H2_ := (Option.bind_some _ _).symm.trans H; with_reducible exact H2_) | with_reducible exact H | (rw [hy219]; exact H) | exact H
      have Ny219 := Aside0.mk hy219; clear hy219; replace H := Option.bind_eq_some_iff.mp H; obtain ⟨⟨t222, t223⟩, A290, H⟩ := H; replace H : (if 0 ≤ t222 then (if t222 < (y219.length : Int) then (some (rd y219 t222, x208001_1, t223)) else (none)) else (none)) = some (r1, r2, r3) := H; have A29 := Aside0.mk A290; clear A290
      by_cases c30 : 0 ≤ t222
      ·rw [if_pos c30] at H
       have c30b0 : decide (0 ≤ t222) = true := decide_eq_true c30; clear c30
       by_cases c31 : t222 < (y219.length : Int)
       ·rw [if_pos c31] at H
        have c31b0 : decide (t222 < (y219.length : Int)) = true := decide_eq_true c31; clear c31
        simp only [Option.some.injEq, Prod.mk.injEq] at H
        obtain ⟨rfl, rfl, rfl⟩ := H
        go_wp2_with (first | ((with_reducible refine gate_callee (f := 51) rfl ?_); refine goesL_ (some 36) rfl rfl Tryd.func51 (by kernel_rfl) rfl #[.pointer (some ⟨g, 0, none⟩), .int .i64 a1] rfl ga_ ?_; (with_reducible refine (spec_l20Rd_odd.calls k1 g s0_0 x1001_1 a1 true t216 w0 _ ?side1 ?side2 A25.out).mono ?_); (case side1 => exact is61_2 HI0.out NB0_202.out NB0_207.out); (case side2 => repeat (first | (with_reducible first | exact HB.out | apply below_alloc | apply pw_below_drewN | apply below_drew1 | refine below_set ?_ (IsS61.ge HI0.out) | refine below_set ?_ GE202.out | refine below_set ?_ GE207.out) | exact HB.out)); rintro e w32 ⟨rfl, hi, hb, hk⟩; refine ⟨_, rfl, ?_⟩; have n0_ := Aside0.mk (Kd.R_mono (Kd.R_keep (IsS61.apart (show IsS61 w0 _ g s0_0 x1001_1 from by exact is61_2 HI0.out NB0_202.out NB0_207.out) (r_ HO_208001.out) (by decide)) hk (fun _ h => h.2)) (fun _ h => h.1)); have n1_ := Aside0.mk (KeepBut.blk hk (g' := gb202) (o := .cells #[.int .i64 0, .slice none 0 0] 25 (0, 0)) (bk_ BK202.out) NB202_0.out (by simp)); have n2_ := Aside0.mk (KeepBut.blk hk (g' := gb207) (o := .cells #[.int .i64 (wrap64 ((wrap64 (1 + t203)) + (wrap64 (Int.tdiv t205 8)))), u208001] 25 (0, 0)) (bk_ BK207.out) NB207_0.out (by simp)); have n3_ := Aside0.mk (KeepBut.trans (kg_ HK.out GW202.out GW207.out) hk (.inl rfl)); have n4_ := Aside0.mk (hb); have n5_ := Aside0.mk (hi); clear HO_208001; clear BK202; clear BK207; clear HK; clear HB; clear HI0; have HO_208001 := n0_; have BK202 := n1_; have BK207 := n2_; have HK := n3_; have HB := n4_; have HI0 := n5_; clear n0_ n1_ n2_ n3_ n4_ n5_; (try clear hb); (try clear hb2); (try clear hk); (try clear hi)) | ((with_reducible refine gate_callee (f := 24) rfl ?_); refine goesL_ (some 38) rfl rfl Tryd.func24 (by kernel_rfl) rfl #[.pointer (some ⟨g, 0, none⟩), .int .i64 3] rfl ga_ ?_; (with_reducible refine (spec_l20Rd_pick.calls k1 g s0_0 t216 3 t217 t218 w0 _ ?side1 ?side2 A27.out).mono ?_); (case side1 => exact is61_2 HI0.out NB0_202.out NB0_207.out); (case side2 => repeat (first | (with_reducible first | exact HB.out | apply below_alloc | apply pw_below_drewN | apply below_drew1 | refine below_set ?_ (IsS61.ge HI0.out) | refine below_set ?_ GE202.out | refine below_set ?_ GE207.out) | exact HB.out)); rintro e w33 ⟨rfl, hi, hb, hk⟩; refine ⟨_, rfl, ?_⟩; have n0_ := Aside0.mk (Kd.R_mono (Kd.R_keep (IsS61.apart (show IsS61 w0 _ g s0_0 t216 from by exact is61_2 HI0.out NB0_202.out NB0_207.out) (r_ HO_208001.out) (by decide)) hk (fun _ h => h.2)) (fun _ h => h.1)); have n1_ := Aside0.mk (KeepBut.blk hk (g' := gb202) (o := .cells #[.int .i64 0, .slice none 0 0] 25 (0, 0)) (bk_ BK202.out) NB202_0.out (by simp)); have n2_ := Aside0.mk (KeepBut.blk hk (g' := gb207) (o := .cells #[.int .i64 (wrap64 ((wrap64 (1 + t203)) + (wrap64 (Int.tdiv t205 8)))), u208001] 25 (0, 0)) (bk_ BK207.out) NB207_0.out (by simp)); have n3_ := Aside0.mk (KeepBut.trans (kg_ HK.out GW202.out GW207.out) hk (.inl rfl)); have n4_ := Aside0.mk (hb); have n5_ := Aside0.mk (hi); clear HO_208001; clear BK202; clear BK207; clear HK; clear HB; clear HI0; have HO_208001 := n0_; have BK202 := n1_; have BK207 := n2_; have HK := n3_; have HB := n4_; have HI0 := n5_; clear n0_ n1_ n2_ n3_ n4_ n5_; (try clear hb); (try clear hb2); (try clear hk); (try clear hi)) | ((with_reducible refine gate_dst (N := 43) rfl ?_); refine Kd.R_lit (Kd.int .i64) _ 3 ?hg (N := 43) ?hd (xs := ([0, 7] : List Int)) (inner := [.int .i64 0, .int .i64 7]) (ok := fun _ => True) (okp := fun _ => True) ?hr ?hp (fun _ hk => hk) trivial (Below.refl _ _) (Nat.le_refl _) (by simp) ?_; (case hd => rfl); (case hg => rfl); (case hr => first | (go_simp; done) | (go_simp; rfl)); (case hp => exact (Reps.one (show Kd.M (Kd.int .i64) _ _ _ 0 [.int .i64 0] from rfl) (Reps.one (show Kd.M (Kd.int .i64) _ _ _ 7 [.int .i64 7] from rfl) (Reps.none _ _)))); intro v220 w34 ho35 hb hg_ hnew_; clear hg_ hnew_; (first | rw [← Ny219.out] at ho35 | (simp only [Int.reduceToNat] at ho35; rw [← Ny219.out] at ho35)); have n0_ := Aside0.mk (Kd.R_elder' (r_ HO_208001.out) (Kd.R_base ho35) hb); have n1_ := Aside0.mk (Kd.R_lower (Kd.R_new' ho35 (Kd.R_lt (r_ HO_208001.out))) (keep_size (w := w) (g := g) (row := none) (kg_ HK.out GW202.out GW207.out))); have n2_ := Aside0.mk (blk_below (g := gb202) (o := .cells #[.int .i64 0, .slice none 0 0] 25 (0, 0)) (bk_ BK202.out) hb); have n3_ := Aside0.mk (blk_below (g := gb207) (o := .cells #[.int .i64 (wrap64 ((wrap64 (1 + t203)) + (wrap64 (Int.tdiv t205 8)))), u208001] 25 (0, 0)) (bk_ BK207.out) hb); have n4_ := Aside0.mk (IsS61.below (is61_2 HI0.out NB0_202.out NB0_207.out) hb); have n5_ := Aside0.mk (KeepBut.trans (kg_ HK.out GW202.out GW207.out) (KeepBut.of_below hb g none) (.inl rfl)); have n6_ := Aside0.mk (below_step (bu_ HB.out (IsS61.ge HI0.out) GE202.out GE207.out) hb); clear HO_208001; clear BK202; clear BK207; clear HI0; clear HK; clear HB; have HO_208001 := n0_; have HO221 := n1_; have BK202 := n2_; have BK207 := n3_; have HI0 := n4_; have HK := n5_; have HB := n6_; clear n0_ n1_ n2_ n3_ n4_ n5_ n6_; clear hb ho35) | ((with_reducible refine gate_callee (f := 24) rfl ?_); refine goesL_ (some 45) rfl rfl Tryd.func24 (by kernel_rfl) rfl #[.pointer (some ⟨g, 0, none⟩), .int .i64 2] rfl ga_ ?_; (with_reducible refine (spec_l20Rd_pick.calls k1 g s0_0 t218 2 t222 t223 w0 _ ?side1 ?side2 A29.out).mono ?_); (case side1 => exact is61_2 HI0.out NB0_202.out NB0_207.out); (case side2 => repeat (first | (with_reducible first | exact HB.out | apply below_alloc | apply pw_below_drewN | apply below_drew1 | refine below_set ?_ (IsS61.ge HI0.out) | refine below_set ?_ GE202.out | refine below_set ?_ GE207.out) | exact HB.out)); rintro e w36 ⟨rfl, hi, hb, hk⟩; refine ⟨_, rfl, ?_⟩; have n0_ := Aside0.mk (Kd.R_mono (Kd.R_keep (IsS61.apart (show IsS61 w0 _ g s0_0 t218 from by exact is61_2 HI0.out NB0_202.out NB0_207.out) (r_ HO_208001.out) (by decide)) hk (fun _ h => h.2)) (fun _ h => h.1)); have n1_ := Aside0.mk (KeepBut.blk hk (g' := gb202) (o := .cells #[.int .i64 0, .slice none 0 0] 25 (0, 0)) (bk_ BK202.out) NB202_0.out (by simp)); have n2_ := Aside0.mk (KeepBut.blk hk (g' := gb207) (o := .cells #[.int .i64 (wrap64 ((wrap64 (1 + t203)) + (wrap64 (Int.tdiv t205 8)))), u208001] 25 (0, 0)) (bk_ BK207.out) NB207_0.out (by simp)); have n3_ := Aside0.mk (Kd.R_mono (Kd.R_keep (IsS61.apart (show IsS61 w0 _ g s0_0 t218 from by exact is61_2 HI0.out NB0_202.out NB0_207.out) (r_ HO221.out) (by decide)) hk (fun _ h => h.2)) (fun _ h => h.1)); have n4_ := Aside0.mk (KeepBut.trans (kg_ HK.out GW202.out GW207.out) hk (.inl rfl)); have n5_ := Aside0.mk (hb); have n6_ := Aside0.mk (hi); clear HO_208001; clear BK202; clear BK207; clear HO221; clear HK; clear HB; clear HI0; have HO_208001 := n0_; have BK202 := n1_; have BK207 := n2_; have HO221 := n3_; have HK := n4_; have HB := n5_; have HI0 := n6_; clear n0_ n1_ n2_ n3_ n4_ n5_ n6_; (try clear hb); (try clear hb2); (try clear hk); (try clear hi); obtain ⟨Ao37, co37, eo37⟩ := Kd.R_slice HO221.out; subst eo37; have p224 : 0 ≤ (t222 : Int) := of_decide_eq_true as_; have q224 : t222 < (y219.length : Int) := of_decide_eq_true as_; obtain ⟨ad224, e224, hx224_0⟩ := Kd.at_int (Kd.R_reads' HO221.out).2.2 t222 p224 q224; cases e224; replace p224 := eq_true p224; replace q224 := eq_true q224; have hnb38 := NB207_202.out; have hnc38 := NB202_207.out; have hnb39 := NB207_0.out; have hnc39 := NB0_207.out; have hcz40_0 : w36.cell? ⟨gb207, 0, none⟩ = some (.int .i64 (wrap64 ((wrap64 (1 + t203)) + (wrap64 (Int.tdiv t205 8))))) := (blk_cell BK207.out 0).trans rfl; have hcz40_1 : w36.cell? ⟨gb207, 1, none⟩ = some (u208001) := (blk_cell BK207.out 1).trans rfl; have hfz40_0 := blk_frozen BK207.out 0; have hfz40_1 := blk_frozen BK207.out 1; have hnb41 := NB202_0.out; have hnc41 := NB0_202.out; have hcz42_0 : w36.cell? ⟨gb202, 0, none⟩ = some (.int .i64 0) := (blk_cell BK202.out 0).trans rfl; have hcz42_1 : w36.cell? ⟨gb202, 1, none⟩ = some (.slice none 0 0) := (blk_cell BK202.out 1).trans rfl; have hfz42_0 := blk_frozen BK202.out 0; have hfz42_1 := blk_frozen BK202.out 1; obtain ⟨Ao43, co43, eo43⟩ := Kd.R_slice HO_208001.out; subst eo43))
        refine bodyPost_ret (results_cell_row rfl _ _ gb202 25 #[.int .i64 (rd y219 t222), .slice Ao43 x208001_1.length co43] (0, 0) _ rfl (by refine sb_ ?_; refine blk_put (cs := #[.int .i64 (rd y219 t222), .slice none 0 0]) ?_ 1 _ rfl; refine sb_ ?_; refine blk_put (cs := #[.int .i64 0, .slice none 0 0]) ?_ 0 _ rfl; refine sb_ ?_; refine blk_far ?_ NB202_207.out _; refine sb_ ?_; exact BK202.out) Tryd.underlying25 rfl (by kernel_rfl)) rfl ?_
        exact ⟨_, by first | rfl | (simp [errW_none, errW_some] <;> rfl) | (simp [*, errW_none, errW_some] <;> rfl), by (with_reducible repeat (first | apply Kd.R_alloc | apply Kd.R_drewN | apply Kd.R_drew)); exact Kd.R_mono (Kd.R_far (p := ⟨gb202, 1, none⟩) (Kd.R_far (p := ⟨gb202, 0, none⟩) (Kd.R_far (p := ⟨gb207, 0, none⟩) (Kd.R_types (Kd.R_types HO_208001.out BK207.out (by decide)) BK202.out (by decide)) (fun _ hk => hk.1.2) (.int .i64 (rd y219 t222))) (fun _ hk => hk.2) (.int .i64 (rd y219 t222))) (fun _ hk => hk.2) (.slice Ao43 x208001_1.length co43)) (fun _ hk => trivial), by exact is61_2 HI0.out NB0_202.out NB0_207.out, bu_ HB.out (IsS61.ge HI0.out) GE202.out GE207.out, kg_ HK.out GW202.out GW207.out⟩
       ·rw [if_neg c31] at H
        exact absurd H (by simp)
      ·rw [if_neg c30] at H
       exact absurd H (by simp)
     ·rw [if_neg c28] at H
      have c28b0 : (t217 == 0) = false := beq_eq_false_iff_ne.mpr c28; have c28b1 : (t217 != 0) = true := bne_iff_ne.mpr c28
      by_cases c44 : t217 = 1
      ·rw [if_pos c44] at H
       have c44b0 : (t217 == 1) = true := beq_iff_eq.mpr c44; have c44b1 : (t217 != 1) = false := bne_eq_false_iff_eq.mpr c44; clear c44
       by_cases c45 : x208001_1.length < 17592186044416
       ·rw [if_pos c45] at H
        have LMc45 := Aside0.mk c45; clear c45; obtain ⟨y225, hy225⟩ : ∃ y_ : List Int, y_ = (x208001_1 ++ [0]) := ⟨_, rfl⟩
        replace H : (some ((wrap64 ((wrap64 (1 + t203)) + (wrap64 (Int.tdiv t205 8)))), y225, t218)) = some (r1, r2, r3) := by first | (rw [hy225]; with_reducible exact H) | (have H2_ := (Option.bind_some _ _).symm.trans H; rw [hy225]; with_reducible exact H2_) | (have H2_ := (Option.bind_some _ _).symm.trans H; with_reducible exact H2_) | with_reducible exact H | (rw [hy225]; exact H) | exact H
        have Ny225 := Aside0.mk hy225; clear hy225
        simp only [Option.some.injEq, Prod.mk.injEq] at H
        obtain ⟨rfl, rfl, rfl⟩ := H
        go_wp2_with (first | ((with_reducible refine gate_callee (f := 51) rfl ?_); refine goesL_ (some 36) rfl rfl Tryd.func51 (by kernel_rfl) rfl #[.pointer (some ⟨g, 0, none⟩), .int .i64 a1] rfl ga_ ?_; (with_reducible refine (spec_l20Rd_odd.calls k1 g s0_0 x1001_1 a1 true t216 w0 _ ?side1 ?side2 A25.out).mono ?_); (case side1 => exact is61_2 HI0.out NB0_202.out NB0_207.out); (case side2 => repeat (first | (with_reducible first | exact HB.out | apply below_alloc | apply pw_below_drewN | apply below_drew1 | refine below_set ?_ (IsS61.ge HI0.out) | refine below_set ?_ GE202.out | refine below_set ?_ GE207.out) | exact HB.out)); rintro e w46 ⟨rfl, hi, hb, hk⟩; refine ⟨_, rfl, ?_⟩; have n0_ := Aside0.mk (Kd.R_mono (Kd.R_keep (IsS61.apart (show IsS61 w0 _ g s0_0 x1001_1 from by exact is61_2 HI0.out NB0_202.out NB0_207.out) (r_ HO_208001.out) (by decide)) hk (fun _ h => h.2)) (fun _ h => h.1)); have n1_ := Aside0.mk (KeepBut.blk hk (g' := gb202) (o := .cells #[.int .i64 0, .slice none 0 0] 25 (0, 0)) (bk_ BK202.out) NB202_0.out (by simp)); have n2_ := Aside0.mk (KeepBut.blk hk (g' := gb207) (o := .cells #[.int .i64 (wrap64 ((wrap64 (1 + t203)) + (wrap64 (Int.tdiv t205 8)))), u208001] 25 (0, 0)) (bk_ BK207.out) NB207_0.out (by simp)); have n3_ := Aside0.mk (KeepBut.trans (kg_ HK.out GW202.out GW207.out) hk (.inl rfl)); have n4_ := Aside0.mk (hb); have n5_ := Aside0.mk (hi); clear HO_208001; clear BK202; clear BK207; clear HK; clear HB; clear HI0; have HO_208001 := n0_; have BK202 := n1_; have BK207 := n2_; have HK := n3_; have HB := n4_; have HI0 := n5_; clear n0_ n1_ n2_ n3_ n4_ n5_; (try clear hb); (try clear hb2); (try clear hk); (try clear hi)) | ((with_reducible refine gate_callee (f := 24) rfl ?_); refine goesL_ (some 38) rfl rfl Tryd.func24 (by kernel_rfl) rfl #[.pointer (some ⟨g, 0, none⟩), .int .i64 3] rfl ga_ ?_; (with_reducible refine (spec_l20Rd_pick.calls k1 g s0_0 t216 3 t217 t218 w0 _ ?side1 ?side2 A27.out).mono ?_); (case side1 => exact is61_2 HI0.out NB0_202.out NB0_207.out); (case side2 => repeat (first | (with_reducible first | exact HB.out | apply below_alloc | apply pw_below_drewN | apply below_drew1 | refine below_set ?_ (IsS61.ge HI0.out) | refine below_set ?_ GE202.out | refine below_set ?_ GE207.out) | exact HB.out)); rintro e w47 ⟨rfl, hi, hb, hk⟩; refine ⟨_, rfl, ?_⟩; have n0_ := Aside0.mk (Kd.R_mono (Kd.R_keep (IsS61.apart (show IsS61 w0 _ g s0_0 t216 from by exact is61_2 HI0.out NB0_202.out NB0_207.out) (r_ HO_208001.out) (by decide)) hk (fun _ h => h.2)) (fun _ h => h.1)); have n1_ := Aside0.mk (KeepBut.blk hk (g' := gb202) (o := .cells #[.int .i64 0, .slice none 0 0] 25 (0, 0)) (bk_ BK202.out) NB202_0.out (by simp)); have n2_ := Aside0.mk (KeepBut.blk hk (g' := gb207) (o := .cells #[.int .i64 (wrap64 ((wrap64 (1 + t203)) + (wrap64 (Int.tdiv t205 8)))), u208001] 25 (0, 0)) (bk_ BK207.out) NB207_0.out (by simp)); have n3_ := Aside0.mk (KeepBut.trans (kg_ HK.out GW202.out GW207.out) hk (.inl rfl)); have n4_ := Aside0.mk (hb); have n5_ := Aside0.mk (hi); clear HO_208001; clear BK202; clear BK207; clear HK; clear HB; clear HI0; have HO_208001 := n0_; have BK202 := n1_; have BK207 := n2_; have HK := n3_; have HB := n4_; have HI0 := n5_; clear n0_ n1_ n2_ n3_ n4_ n5_; (try clear hb); (try clear hb2); (try clear hk); (try clear hi); have hnb48 := NB207_202.out; have hnc48 := NB202_207.out; have hnb49 := NB207_0.out; have hnc49 := NB0_207.out; have hcz50_0 : w47.cell? ⟨gb207, 0, none⟩ = some (.int .i64 (wrap64 ((wrap64 (1 + t203)) + (wrap64 (Int.tdiv t205 8))))) := (blk_cell BK207.out 0).trans rfl; have hcz50_1 : w47.cell? ⟨gb207, 1, none⟩ = some (u208001) := (blk_cell BK207.out 1).trans rfl; have hfz50_0 := blk_frozen BK207.out 0; have hfz50_1 := blk_frozen BK207.out 1) | ((with_reducible refine gate_builtin (b := .append) (xs := #[.tmp 52, .tmp 53]) rfl ?_); at_builtin; refine Kd.R_append (Kd.int .i64) w.heap.size rfl (.tmp 52) (.tmp 53) 23 3 (.int .i64 0) 8 rfl Tryd.underlying23 info3 rfl (by decide) (by omega) u208001 x208001_1 0 [.int .i64 0] (fun _ => True) (fun _ => False) rfl rfl ?aP (fun _ hk => hk.elim) ?aF ?aO (Below.refl _ _) ?aS ?aL ?_; (case aP => exact rfl); (case aF => exact (fun _ _ => trivial)); (case aO => exact (r_ HO_208001.out)); (case aS => exact (keep_size (w := w) (g := g) (row := none) (kg_ HK.out GW202.out GW207.out))); (case aL => have := LMc45.out; omega); intro v226 w51 ho hb hg hat; rw [← Ny225.out] at ho; have n0_ := Aside0.mk (blk_grown (g := gb202) (o := .cells #[.int .i64 0, .slice none 0 0] 25 (0, 0)) (bk_ BK202.out) hg (Kd.R_ne HO_208001.out BK202.out (by decide))); have n1_ := Aside0.mk (blk_grown (g := gb207) (o := .cells #[.int .i64 (wrap64 ((wrap64 (1 + t203)) + (wrap64 (Int.tdiv t205 8)))), u208001] 25 (0, 0)) (bk_ BK207.out) hg (Kd.R_ne HO_208001.out BK207.out (by decide))); have n2_ := Aside0.mk (IsS61.grown (is61_2 HI0.out NB0_202.out NB0_207.out) hg (IsS61.own_ne HI0.out HO_208001.out (by decide))); have n3_ := Aside0.mk (below_weaken (bu_ HB.out (IsS61.ge HI0.out) GE202.out GE207.out) HL.out hb); have n4_ := Aside0.mk (KeepBut.trans (kg_ HK.out GW202.out GW207.out) (KeepBut.of_grown hg g) (Kd.R_base2 HO_208001.out)); have n5_ := Aside0.mk (ho); clear BK202; clear BK207; clear HI0; clear HB; clear HK; clear HO_208001; have BK202 := n0_; have BK207 := n1_; have HI0 := n2_; have HB := n3_; have HK := n4_; have HO227 := n5_; clear n0_ n1_ n2_ n3_ n4_ n5_; clear ho hb hg hat; obtain ⟨Ao52, co52, eo52⟩ := Kd.R_slice HO227.out; subst eo52; have hcz53_0 : w51.cell? ⟨gb207, 0, none⟩ = some (.int .i64 (wrap64 ((wrap64 (1 + t203)) + (wrap64 (Int.tdiv t205 8))))) := (blk_cell BK207.out 0).trans rfl; have hcz53_1 : w51.cell? ⟨gb207, 1, none⟩ = some (u208001) := (blk_cell BK207.out 1).trans rfl; have hfz53_0 := blk_frozen BK207.out 0; have hfz53_1 := blk_frozen BK207.out 1; have hnb54 := NB202_0.out; have hnc54 := NB0_202.out; have hcz55_0 : w51.cell? ⟨gb202, 0, none⟩ = some (.int .i64 0) := (blk_cell BK202.out 0).trans rfl; have hcz55_1 : w51.cell? ⟨gb202, 1, none⟩ = some (.slice none 0 0) := (blk_cell BK202.out 1).trans rfl; have hfz55_0 := blk_frozen BK202.out 0; have hfz55_1 := blk_frozen BK202.out 1))
        refine bodyPost_ret (results_cell_row rfl _ _ gb202 25 #[.int .i64 (wrap64 ((wrap64 (1 + t203)) + (wrap64 (Int.tdiv t205 8)))), .slice Ao52 y225.length co52] (0, 0) _ rfl (by refine sb_ ?_; refine blk_put (cs := #[.int .i64 (wrap64 ((wrap64 (1 + t203)) + (wrap64 (Int.tdiv t205 8)))), .slice none 0 0]) ?_ 1 _ rfl; refine sb_ ?_; refine blk_put (cs := #[.int .i64 0, .slice none 0 0]) ?_ 0 _ rfl; refine sb_ ?_; refine blk_far ?_ NB202_207.out _; refine sb_ ?_; exact BK202.out) Tryd.underlying25 rfl (by kernel_rfl)) rfl ?_
        exact ⟨_, by first | rfl | (simp [errW_none, errW_some] <;> rfl) | (simp [*, errW_none, errW_some] <;> rfl), by (with_reducible repeat (first | apply Kd.R_alloc | apply Kd.R_drewN | apply Kd.R_drew)); exact Kd.R_mono (Kd.R_far (p := ⟨gb202, 1, none⟩) (Kd.R_far (p := ⟨gb202, 0, none⟩) (Kd.R_far (p := ⟨gb207, 1, none⟩) (Kd.R_types (Kd.R_types HO227.out BK207.out (by decide)) BK202.out (by decide)) (fun _ hk => hk.1.2) (.slice Ao52 y225.length co52)) (fun _ hk => hk.2) (.int .i64 (wrap64 ((wrap64 (1 + t203)) + (wrap64 (Int.tdiv t205 8)))))) (fun _ hk => hk.2) (.slice Ao52 y225.length co52)) (fun _ hk => trivial), by exact is61_2 HI0.out NB0_202.out NB0_207.out, bu_ HB.out (IsS61.ge HI0.out) GE202.out GE207.out, kg_ HK.out GW202.out GW207.out⟩
       ·rw [if_neg c45] at H
        exact absurd H (by simp)
      ·rw [if_neg c44] at H
       have c44b0 : (t217 == 1) = false := beq_eq_false_iff_ne.mpr c44; have c44b1 : (t217 != 1) = true := bne_iff_ne.mpr c44; obtain ⟨y228, hy228⟩ : ∃ y_ : List Int, y_ = (([] : List Int)) := ⟨_, rfl⟩
       replace H : (some ((wrap64 ((wrap64 (1 + t203)) + (wrap64 (Int.tdiv t205 8)))), y228, t218)) = some (r1, r2, r3) := by first | (rw [hy228]; with_reducible exact H) | (have H2_ := (Option.bind_some _ _).symm.trans H; rw [hy228]; with_reducible exact H2_) | (have H2_ := (Option.bind_some _ _).symm.trans H; with_reducible exact H2_) | with_reducible exact H | (rw [hy228]; exact H) | exact H
       have Ny228 := Aside0.mk hy228; clear hy228
       simp only [Option.some.injEq, Prod.mk.injEq] at H
       obtain ⟨rfl, rfl, rfl⟩ := H
       go_wp2_with (first | ((with_reducible refine gate_callee (f := 51) rfl ?_); refine goesL_ (some 36) rfl rfl Tryd.func51 (by kernel_rfl) rfl #[.pointer (some ⟨g, 0, none⟩), .int .i64 a1] rfl ga_ ?_; (with_reducible refine (spec_l20Rd_odd.calls k1 g s0_0 x1001_1 a1 true t216 w0 _ ?side1 ?side2 A25.out).mono ?_); (case side1 => exact is61_2 HI0.out NB0_202.out NB0_207.out); (case side2 => repeat (first | (with_reducible first | exact HB.out | apply below_alloc | apply pw_below_drewN | apply below_drew1 | refine below_set ?_ (IsS61.ge HI0.out) | refine below_set ?_ GE202.out | refine below_set ?_ GE207.out) | exact HB.out)); rintro e w56 ⟨rfl, hi, hb, hk⟩; refine ⟨_, rfl, ?_⟩; have n0_ := Aside0.mk (Kd.R_mono (Kd.R_keep (IsS61.apart (show IsS61 w0 _ g s0_0 x1001_1 from by exact is61_2 HI0.out NB0_202.out NB0_207.out) (r_ HO_208001.out) (by decide)) hk (fun _ h => h.2)) (fun _ h => h.1)); have n1_ := Aside0.mk (KeepBut.blk hk (g' := gb202) (o := .cells #[.int .i64 0, .slice none 0 0] 25 (0, 0)) (bk_ BK202.out) NB202_0.out (by simp)); have n2_ := Aside0.mk (KeepBut.blk hk (g' := gb207) (o := .cells #[.int .i64 (wrap64 ((wrap64 (1 + t203)) + (wrap64 (Int.tdiv t205 8)))), u208001] 25 (0, 0)) (bk_ BK207.out) NB207_0.out (by simp)); have n3_ := Aside0.mk (KeepBut.trans (kg_ HK.out GW202.out GW207.out) hk (.inl rfl)); have n4_ := Aside0.mk (hb); have n5_ := Aside0.mk (hi); clear HO_208001; clear BK202; clear BK207; clear HK; clear HB; clear HI0; have HO_208001 := n0_; have BK202 := n1_; have BK207 := n2_; have HK := n3_; have HB := n4_; have HI0 := n5_; clear n0_ n1_ n2_ n3_ n4_ n5_; (try clear hb); (try clear hb2); (try clear hk); (try clear hi)) | ((with_reducible refine gate_callee (f := 24) rfl ?_); refine goesL_ (some 38) rfl rfl Tryd.func24 (by kernel_rfl) rfl #[.pointer (some ⟨g, 0, none⟩), .int .i64 3] rfl ga_ ?_; (with_reducible refine (spec_l20Rd_pick.calls k1 g s0_0 t216 3 t217 t218 w0 _ ?side1 ?side2 A27.out).mono ?_); (case side1 => exact is61_2 HI0.out NB0_202.out NB0_207.out); (case side2 => repeat (first | (with_reducible first | exact HB.out | apply below_alloc | apply pw_below_drewN | apply below_drew1 | refine below_set ?_ (IsS61.ge HI0.out) | refine below_set ?_ GE202.out | refine below_set ?_ GE207.out) | exact HB.out)); rintro e w57 ⟨rfl, hi, hb, hk⟩; refine ⟨_, rfl, ?_⟩; have n0_ := Aside0.mk (Kd.R_mono (Kd.R_keep (IsS61.apart (show IsS61 w0 _ g s0_0 t216 from by exact is61_2 HI0.out NB0_202.out NB0_207.out) (r_ HO_208001.out) (by decide)) hk (fun _ h => h.2)) (fun _ h => h.1)); have n1_ := Aside0.mk (KeepBut.blk hk (g' := gb202) (o := .cells #[.int .i64 0, .slice none 0 0] 25 (0, 0)) (bk_ BK202.out) NB202_0.out (by simp)); have n2_ := Aside0.mk (KeepBut.blk hk (g' := gb207) (o := .cells #[.int .i64 (wrap64 ((wrap64 (1 + t203)) + (wrap64 (Int.tdiv t205 8)))), u208001] 25 (0, 0)) (bk_ BK207.out) NB207_0.out (by simp)); have n3_ := Aside0.mk (KeepBut.trans (kg_ HK.out GW202.out GW207.out) hk (.inl rfl)); have n4_ := Aside0.mk (hb); have n5_ := Aside0.mk (hi); clear HO_208001; clear BK202; clear BK207; clear HK; clear HB; clear HI0; have HO_208001 := n0_; have BK202 := n1_; have BK207 := n2_; have HK := n3_; have HB := n4_; have HI0 := n5_; clear n0_ n1_ n2_ n3_ n4_ n5_; (try clear hb); (try clear hb2); (try clear hk); (try clear hi)) | ((with_reducible refine gate_dst (N := 39) rfl ?_); refine Kd.R_lit (Kd.int .i64) _ 3 ?hg (N := 39) ?hd (xs := ([] : List Int)) (inner := []) (ok := fun _ => True) (okp := fun _ => True) ?hr ?hp (fun _ hk => hk) trivial (Below.refl _ _) (Nat.le_refl _) (by simp) ?_; (case hd => rfl); (case hg => rfl); (case hr => first | (go_simp; done) | (go_simp; rfl)); (case hp => exact (Reps.none _ _)); intro v229 w58 ho59 hb hg_ hnew_; clear hg_ hnew_; (first | rw [← Ny228.out] at ho59 | (simp only [Int.reduceToNat] at ho59; rw [← Ny228.out] at ho59)); have n0_ := Aside0.mk (Kd.R_elder' (r_ HO_208001.out) (Kd.R_base ho59) hb); have n1_ := Aside0.mk (Kd.R_lower (Kd.R_new' ho59 (Kd.R_lt (r_ HO_208001.out))) (keep_size (w := w) (g := g) (row := none) (kg_ HK.out GW202.out GW207.out))); have n2_ := Aside0.mk (blk_below (g := gb202) (o := .cells #[.int .i64 0, .slice none 0 0] 25 (0, 0)) (bk_ BK202.out) hb); have n3_ := Aside0.mk (blk_below (g := gb207) (o := .cells #[.int .i64 (wrap64 ((wrap64 (1 + t203)) + (wrap64 (Int.tdiv t205 8)))), u208001] 25 (0, 0)) (bk_ BK207.out) hb); have n4_ := Aside0.mk (IsS61.below (is61_2 HI0.out NB0_202.out NB0_207.out) hb); have n5_ := Aside0.mk (KeepBut.trans (kg_ HK.out GW202.out GW207.out) (KeepBut.of_below hb g none) (.inl rfl)); have n6_ := Aside0.mk (below_step (bu_ HB.out (IsS61.ge HI0.out) GE202.out GE207.out) hb); clear HO_208001; clear BK202; clear BK207; clear HI0; clear HK; clear HB; have HO_208001 := n0_; have HO230 := n1_; have BK202 := n2_; have BK207 := n3_; have HI0 := n4_; have HK := n5_; have HB := n6_; clear n0_ n1_ n2_ n3_ n4_ n5_ n6_; clear hb ho59; obtain ⟨Ao60, co60, eo60⟩ := Kd.R_slice HO230.out; subst eo60; have hnb61 := NB207_202.out; have hnc61 := NB202_207.out; have hnb62 := NB207_0.out; have hnc62 := NB0_207.out; have hcz63_0 : w58.cell? ⟨gb207, 0, none⟩ = some (.int .i64 (wrap64 ((wrap64 (1 + t203)) + (wrap64 (Int.tdiv t205 8))))) := (blk_cell BK207.out 0).trans rfl; have hcz63_1 : w58.cell? ⟨gb207, 1, none⟩ = some (u208001) := (blk_cell BK207.out 1).trans rfl; have hfz63_0 := blk_frozen BK207.out 0; have hfz63_1 := blk_frozen BK207.out 1; have hnb64 := NB202_0.out; have hnc64 := NB0_202.out; have hcz65_0 : w58.cell? ⟨gb202, 0, none⟩ = some (.int .i64 0) := (blk_cell BK202.out 0).trans rfl; have hcz65_1 : w58.cell? ⟨gb202, 1, none⟩ = some (.slice none 0 0) := (blk_cell BK202.out 1).trans rfl; have hfz65_0 := blk_frozen BK202.out 0; have hfz65_1 := blk_frozen BK202.out 1))
       refine bodyPost_ret (results_cell_row rfl _ _ gb202 25 #[.int .i64 (wrap64 ((wrap64 (1 + t203)) + (wrap64 (Int.tdiv t205 8)))), .slice Ao60 y228.length co60] (0, 0) _ rfl (by refine sb_ ?_; refine blk_put (cs := #[.int .i64 (wrap64 ((wrap64 (1 + t203)) + (wrap64 (Int.tdiv t205 8)))), .slice none 0 0]) ?_ 1 _ rfl; refine sb_ ?_; refine blk_put (cs := #[.int .i64 0, .slice none 0 0]) ?_ 0 _ rfl; refine sb_ ?_; refine blk_far ?_ NB202_207.out _; refine sb_ ?_; exact BK202.out) Tryd.underlying25 rfl (by kernel_rfl)) rfl ?_
       exact ⟨_, by first | rfl | (simp [errW_none, errW_some] <;> rfl) | (simp [*, errW_none, errW_some] <;> rfl), by (with_reducible repeat (first | apply Kd.R_alloc | apply Kd.R_drewN | apply Kd.R_drew)); exact Kd.R_mono (Kd.R_far (p := ⟨gb202, 1, none⟩) (Kd.R_far (p := ⟨gb202, 0, none⟩) (Kd.R_far (p := ⟨gb207, 1, none⟩) (Kd.R_types (Kd.R_types HO230.out BK207.out (by decide)) BK202.out (by decide)) (fun _ hk => hk.1.2) (.slice Ao60 y228.length co60)) (fun _ hk => hk.2) (.int .i64 (wrap64 ((wrap64 (1 + t203)) + (wrap64 (Int.tdiv t205 8)))))) (fun _ hk => hk.2) (.slice Ao60 y228.length co60)) (fun _ hk => trivial), by exact is61_2 HI0.out NB0_202.out NB0_207.out, bu_ HB.out (IsS61.ge HI0.out) GE202.out GE207.out, kg_ HK.out GW202.out GW207.out⟩
    ·replace c26 := Bool.eq_false_iff.mpr c26
     subst c26
     have H1 : (some ((wrap64 ((wrap64 (1 + t203)) + (wrap64 (Int.tdiv t205 8)))), x208001_1, t216)) = some (r1, r2, r3) := by rw [if_neg (show ¬ (false = true) by decide)] at H; exact H
     clear H; have H := H1; clear H1
     simp only [Option.some.injEq, Prod.mk.injEq] at H
     obtain ⟨rfl, rfl, rfl⟩ := H
     go_wp2_with (first | ((with_reducible refine gate_callee (f := 51) rfl ?_); refine goesL_ (some 36) rfl rfl Tryd.func51 (by kernel_rfl) rfl #[.pointer (some ⟨g, 0, none⟩), .int .i64 a1] rfl ga_ ?_; (with_reducible refine (spec_l20Rd_odd.calls k1 g s0_0 x1001_1 a1 false t216 w0 _ ?side1 ?side2 A25.out).mono ?_); (case side1 => exact is61_2 HI0.out NB0_202.out NB0_207.out); (case side2 => repeat (first | (with_reducible first | exact HB.out | apply below_alloc | apply pw_below_drewN | apply below_drew1 | refine below_set ?_ (IsS61.ge HI0.out) | refine below_set ?_ GE202.out | refine below_set ?_ GE207.out) | exact HB.out)); rintro e w66 ⟨rfl, hi, hb, hk⟩; refine ⟨_, rfl, ?_⟩; have n0_ := Aside0.mk (Kd.R_mono (Kd.R_keep (IsS61.apart (show IsS61 w0 _ g s0_0 x1001_1 from by exact is61_2 HI0.out NB0_202.out NB0_207.out) (r_ HO_208001.out) (by decide)) hk (fun _ h => h.2)) (fun _ h => h.1)); have n1_ := Aside0.mk (KeepBut.blk hk (g' := gb202) (o := .cells #[.int .i64 0, .slice none 0 0] 25 (0, 0)) (bk_ BK202.out) NB202_0.out (by simp)); have n2_ := Aside0.mk (KeepBut.blk hk (g' := gb207) (o := .cells #[.int .i64 (wrap64 ((wrap64 (1 + t203)) + (wrap64 (Int.tdiv t205 8)))), u208001] 25 (0, 0)) (bk_ BK207.out) NB207_0.out (by simp)); have n3_ := Aside0.mk (KeepBut.trans (kg_ HK.out GW202.out GW207.out) hk (.inl rfl)); have n4_ := Aside0.mk (hb); have n5_ := Aside0.mk (hi); clear HO_208001; clear BK202; clear BK207; clear HK; clear HB; clear HI0; have HO_208001 := n0_; have BK202 := n1_; have BK207 := n2_; have HK := n3_; have HB := n4_; have HI0 := n5_; clear n0_ n1_ n2_ n3_ n4_ n5_; (try clear hb); (try clear hb2); (try clear hk); (try clear hi); have hnb67 := NB207_202.out; have hnc67 := NB202_207.out; have hnb68 := NB207_0.out; have hnc68 := NB0_207.out; have hcz69_0 : w66.cell? ⟨gb207, 0, none⟩ = some (.int .i64 (wrap64 ((wrap64 (1 + t203)) + (wrap64 (Int.tdiv t205 8))))) := (blk_cell BK207.out 0).trans rfl; have hcz69_1 : w66.cell? ⟨gb207, 1, none⟩ = some (u208001) := (blk_cell BK207.out 1).trans rfl; have hfz69_0 := blk_frozen BK207.out 0; have hfz69_1 := blk_frozen BK207.out 1; have hnb70 := NB202_0.out; have hnc70 := NB0_202.out; have hcz71_0 : w66.cell? ⟨gb202, 0, none⟩ = some (.int .i64 0) := (blk_cell BK202.out 0).trans rfl; have hcz71_1 : w66.cell? ⟨gb202, 1, none⟩ = some (.slice none 0 0) := (blk_cell BK202.out 1).trans rfl; have hfz71_0 := blk_frozen BK202.out 0; have hfz71_1 := blk_frozen BK202.out 1; obtain ⟨Ao72, co72, eo72⟩ := Kd.R_slice HO_208001.out; subst eo72))
     refine bodyPost_ret (results_cell_row rfl _ _ gb202 25 #[.int .i64 (wrap64 ((wrap64 (1 + t203)) + (wrap64 (Int.tdiv t205 8)))), .slice Ao72 x208001_1.length co72] (0, 0) _ rfl (by refine sb_ ?_; refine blk_put (cs := #[.int .i64 (wrap64 ((wrap64 (1 + t203)) + (wrap64 (Int.tdiv t205 8)))), .slice none 0 0]) ?_ 1 _ rfl; refine sb_ ?_; refine blk_put (cs := #[.int .i64 0, .slice none 0 0]) ?_ 0 _ rfl; refine sb_ ?_; exact BK202.out) Tryd.underlying25 rfl (by kernel_rfl)) rfl ?_
     exact ⟨_, by first | rfl | (simp [errW_none, errW_some] <;> rfl) | (simp [*, errW_none, errW_some] <;> rfl), by (with_reducible repeat (first | apply Kd.R_alloc | apply Kd.R_drewN | apply Kd.R_drew)); exact Kd.R_mono (Kd.R_far (p := ⟨gb202, 1, none⟩) (Kd.R_far (p := ⟨gb202, 0, none⟩) (Kd.R_types HO_208001.out BK202.out (by decide)) (fun _ hk => hk.2) (.int .i64 (wrap64 ((wrap64 (1 + t203)) + (wrap64 (Int.tdiv t205 8)))))) (fun _ hk => hk.2) (.slice Ao72 x208001_1.length co72)) (fun _ hk => trivial), by exact is61_2 HI0.out NB0_202.out NB0_207.out, bu_ HB.out (IsS61.ge HI0.out) GE202.out GE207.out, kg_ HK.out GW202.out GW207.out⟩

/-! ### spec_l1Heads: function 42 -/
def spec_l1Heads.l0 : Nat → Int → Int → Option (Int)
 | 0, _, _ => none
 | k + 1, x0, x3 => if x0 > 0 then (spec_l1Heads.l0 k (wrap64 (Int.tdiv x0 2)) (wrap64 (x3 + (Int.tmod x0 2)))) else (some x3)
def spec_l1Heads.f (k : Nat) (a0 : Int) : Option (Int) := spec_l1Heads.l0 k a0 0
theorem spec_l1Heads.mono_l : ∀ k, (∀ y0 y1, LeO (spec_l1Heads.l0 k y0 y1) (spec_l1Heads.l0 (k + 1) y0 y1))
 | 0 => fun _ _ r h => by simp [spec_l1Heads.l0] at h
 | k + 1 => by
  have ih0 := spec_l1Heads.mono_l k
  ·intro y0 y1
   unfold spec_l1Heads.l0
   repeat' first
   | (with_reducible exact ih0 _ _)
   | (with_reducible exact LeO.refl _)
   | (with_reducible exact LeO.none _)
   | (with_reducible refine LeO.ite ?_ ?_)
   | (with_reducible refine LeO.bind ?_ (fun _ => ?_))
   | exact ih0 _ _
   | exact LeO.none _
   | refine LeO.ite ?_ ?_
   | refine LeO.bind ?_ (fun _ => ?_)
theorem spec_l1Heads.mono : ∀ a0 k, LeO (spec_l1Heads.f k a0) (spec_l1Heads.f (k + 1) a0) := by
 intro a0 k; have ih0 := spec_l1Heads.mono_l k
 unfold spec_l1Heads.f
 repeat' first
   | (with_reducible exact ih0 _ _)
   | (with_reducible exact LeO.refl _)
   | (with_reducible exact LeO.none _)
   | (with_reducible refine LeO.ite ?_ ?_)
   | (with_reducible refine LeO.bind ?_ (fun _ => ?_))
   | exact ih0 _ _
   | exact LeO.none _
   | refine LeO.ite ?_ ?_
   | refine LeO.bind ?_ (fun _ => ?_)
set_option maxHeartbeats 8000000 in
set_option maxRecDepth 100000 in
theorem spec_l1Heads.calls (k : Nat) (a0 : Int) (r : Int) (w : World) (h : spec_l1Heads.f k a0 = some r) :
  Calls Tryd.prog 42 #[.int .i64 a0] w fun e w' => e = .returned (.int .i64 r) ∧ Drawn0 w w' := by
 have H := h; clear h
 unfold spec_l1Heads.f at H
 have H' := Aside0.mk H; clear H
 go_enter Tryd.func42, Tryd.ntmps42
 go_wp2
 go_loopg [0, 3] k (fun kq v0 v3 w' => ∃ (x0_1 : Int) (x3_1 : Int), v0 = .int .i64 x0_1 ∧ v3 = .int .i64 x3_1 ∧ Aside0 (spec_l1Heads.l0 kq x0_1 x3_1 = some r) ∧ Aside0 (kq ≤ k) ∧ Drawn0 w w')
 case atStart => exact ⟨(a0), (0), si_, si_, H', ⟨Nat.le_refl _⟩, by repeat (first | exact Drawn0.refl _ | apply Drawn0.step)⟩
 case round =>
  clear H'; obtain ⟨x0_1, x3_1, rfl, rfl, HA, HK1, ⟨m1, rfl⟩⟩ := hrel
  cases gk with
  | zero => exact absurd HA.out (by simp [spec_l1Heads.l0])
  | succ k1 =>
   have H := HA.out; clear HA
   simp only [spec_l1Heads.l0] at H
   by_cases c2 : x0_1 > 0
   ·rw [if_pos c2] at H
    have c2b0 : decide (0 < x0_1) = true := decide_eq_true c2; clear c2; have H' := Aside0.mk H; clear H
    go_wp2
    go_roundg k1
    case measure => have := HK1.out; omega
    case rel => exact ⟨(wrap64 (Int.tdiv x0_1 2)), (wrap64 (x3_1 + (Int.tmod x0_1 2))), si_, si_, H', ⟨by have := HK1.out; omega⟩, by repeat (first | exact Drawn0.refl _ | apply Drawn0.step)⟩
   ·rw [if_neg c2] at H
    have c2b0 : decide (0 < x0_1) = false := decide_eq_false c2; clear c2; obtain rfl := Option.some.inj H
    go_wp2
    go_ret
    exact ⟨by first | rfl | (simp; done) | (simp [*]; done), by repeat (first | exact Drawn0.refl _ | apply Drawn0.step)⟩

end Go.Proofs.YtoifikhcnioagaaDoor.PFnTermText
