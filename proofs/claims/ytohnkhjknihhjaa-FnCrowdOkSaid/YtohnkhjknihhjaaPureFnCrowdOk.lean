/- Nobody and all are crowds, what lacks to a crowd is one exactly if it is one, for every drawn input. No condition. -/
import Derived.Test.YtohnkhjknihhjaaPFnCrowdOkx1
import Derived.Test.YtohnkhjknihhjaaBase
set_option linter.unusedVariables false
set_option linter.unusedSimpArgs false
namespace Go.Proofs.Ytohnkhjknihhjaa.Pure.fnCrowdOk
open Go.RowKit Go.Proofs.Ytohnkhjknihhjaa.PFnCrowdOk Go.Proofs.YtohnkhjknihhjaaW.PrintWords Go.Proofs.YtohnkhjknihhjaaW.PrintLast Go.Proofs.YtohnkhjknihhjaaW.PrintMore Go.Proofs.Ytohnkhjknihhjaa.Base

theorem arePeople_eq (p : Int) : impl_arePeople.f p = some (decide (1 ≤ p ∧ p ≤ 6)) := by
  unfold impl_arePeople.f
  by_cases h : p ≥ 1
  · rw [if_pos h]; congr 1; simp [show 1 ≤ p from h]
  · rw [if_neg h]; congr 1; simp; omega
theorem isCrowd_eq (p c : Int) : impl_isCrowd.f p c = some (okC p c) := by
  unfold impl_isCrowd.f
  rw [arePeople_eq]
  simp only [Option.bind_some]
  by_cases h : 1 ≤ p ∧ p ≤ 6
  · rw [if_pos (by simpa using h)]
    by_cases h0 : c ≥ 0
    · rw [if_pos h0, if_pos (by omega), shl1 (by omega) h.2]
      congr 1
      rw [Bool.eq_iff_iff, okC_iff]; simp; omega
    · rw [if_neg h0]; congr 1
      symm; rw [Bool.eq_false_iff]; intro hc; rw [okC_iff] at hc; omega
  · rw [if_neg (by simpa using h)]; congr 1
    symm; rw [Bool.eq_false_iff]; intro hc; rw [okC_iff] at hc; omega

theorem iCrowdOk_eq (p c : Int) : impl_CrowdOk.f p c = some (okC p c) := by
  unfold impl_CrowdOk.f; rw [isCrowd_eq]; rfl

theorem l1In_eq (n a b : Int) : spec_l1In.f n a b = some (decide (a ≤ n ∧ n ≤ b)) := by
  unfold spec_l1In.f
  by_cases h : n ≥ a
  · rw [if_pos h]; congr 1; simp [show a ≤ n from h]
  · rw [if_neg h]; congr 1; simp; omega
theorem sCrowdOk_eq (p c : Int) : spec_CrowdOk.f p c = some (okC p c) := by
  unfold spec_CrowdOk.f
  rw [l1In_eq]
  simp only [Option.bind_some]
  by_cases h : 1 ≤ p ∧ p ≤ 6
  · have hf := full_le h.1 h.2
    rw [if_pos (by simpa using h), if_pos (by omega), shl1 (by omega) h.2, l1In_eq, w64 (by omega) (by omega)]
    simp only [Option.bind_some]
    congr 1
    rw [Bool.eq_iff_iff, okC_iff]; simp; omega
  · rw [if_neg (by simpa using h)]; congr 1
    symm; rw [Bool.eq_false_iff]; intro hc; rw [okC_iff] at hc; omega

theorem alive_eq : laws_alive.f = some true := by
  unfold laws_alive.f
  rw [iCrowdOk_eq, iCrowdOk_eq]; decide

/-- The bytes of a draw: at most 2000. -/
theorem open_eq (l : List Int) : spec_l20Open.f l = some (l.take 2000, 0) := by
  unfold spec_l20Open.f
  by_cases h : (l.length : Int) > 2000
  · rw [if_pos h, if_pos (by omega)]
  · rw [if_neg h, List.take_of_length_le (by omega)]
theorem open_len (l : List Int) : (l.take 2000).length ≤ 2000 := by simp; omega
theorem open_wf {l : List Int} (h : ∀ x ∈ l, (Lit.int .u8 x).wf = true) : ∀ x ∈ l.take 2000, 0 ≤ x ∧ x ≤ 255 := fun x hx => wf_u8 (h x (List.mem_of_mem_take hx))

/-- What a draw gives. -/
theorem pick {l : List Int} (hl : l.length ≤ 2000) (hb : ∀ x ∈ l, 0 ≤ x ∧ x ≤ 255) (p : Int) (hp : 0 ≤ p) (hp' : p ≤ 1000000) (n : Int) :
    ∃ x, (∀ k, 1 ≤ k → spec_l20Rd_pick.f k l p n = some (x, p + 1)) ∧ 0 ≤ x ∧ (1 ≤ n → x < n) := by
  have key : ∃ x, spec_l20Rd_pick.f 1 l p n = some (x, p + 1) ∧ 0 ≤ x ∧ (1 ≤ n → x < n) := by
    have hp1 : wrap64 (p + 1) = p + 1 := w64 (by omega) (by omega)
    have hp2 : wrap64 (p + 1 - 1) = p := by rw [w64 (by omega) (by omega)]; omega
    unfold spec_l20Rd_pick.f
    rw [hp1]
    by_cases hn : n < 1
    · rw [if_pos hn]
      exact ⟨0, by simp [spec_l20Rd_pick.j0], by omega, by omega⟩
    · rw [if_neg hn]
      by_cases h0 : l.length = 0
      · exact ⟨0, by simp [spec_l20Rd_pick.j0, h0], by omega, by omega⟩
      · have hf : ((l.length : Int) == 0) = false := beq_eq_false_iff_ne.mpr (by omega)
        have hrd : ∀ i : Int, 0 ≤ rd l i ∧ rd l i ≤ 255 := by
          intro i
          unfold rd
          by_cases hi : i.toNat < l.length
          · rw [List.getD_eq_getElem?_getD, List.getElem?_eq_getElem hi, Option.getD_some]; exact hb _ (List.getElem_mem hi)
          · rw [List.getD_eq_getElem?_getD, List.getElem?_eq_none (by omega), Option.getD_none]; omega
        have hmod : ∀ x : Int, 0 ≤ x → 0 ≤ Int.tmod x n ∧ Int.tmod x n < n := fun x hx => ⟨Int.tmod_nonneg _ hx, Int.tmod_lt_of_pos _ (by omega)⟩
        simp only [spec_l20Rd_pick.j0, hf, hp2, if_false, Bool.false_eq_true]
        rw [if_pos (show 0 ≤ p from hp)]
        by_cases hlt : p < (l.length : Int)
        · have hr := hrd p
          have hm := hmod (rd l p) hr.1
          refine ⟨Int.tmod (rd l p) n, ?_, hm.1, fun _ => hm.2⟩
          rw [if_pos hlt, if_neg (by omega), w64 (x := rd l p) (by omega) (by omega)]
        · have hL : (0 : Int) < l.length := by omega
          rw [if_neg hlt, if_neg (by omega)]
          have e1 : Int.tmod p l.length = p % l.length := Int.tmod_eq_emod_of_nonneg hp
          have e2 : wrap64 (wrap64 (p * 7) + 3) = p * 7 + 3 := by rw [w64 (x := p * 7) (by omega) (by omega), w64 (by omega) (by omega)]
          have e3 : Int.tmod (p * 7 + 3) l.length = (p * 7 + 3) % l.length := Int.tmod_eq_emod_of_nonneg (by omega)
          have b1 := Int.emod_nonneg p (show (l.length : Int) ≠ 0 by omega)
          have b2 := Int.emod_lt_of_pos p hL
          have b3 := Int.emod_nonneg (p * 7 + 3) (show (l.length : Int) ≠ 0 by omega)
          have b4 := Int.emod_lt_of_pos (p * 7 + 3) hL
          rw [e1, e2, e3, if_pos b1, if_pos b2, if_pos b3, if_pos b4, if_neg (by omega)]
          have r1 := hrd (p % l.length)
          have r2 := hrd ((p * 7 + 3) % l.length)
          have e4 : Int.tdiv p l.length = p / l.length := Int.tdiv_eq_ediv_of_nonneg hp
          have d1 : 0 ≤ p / (l.length : Int) := Int.ediv_nonneg hp (by omega)
          have d2 : p / (l.length : Int) ≤ p := Int.ediv_le_self _ hp
          rw [e4]
          generalize rd l (p % l.length) = a at *
          generalize rd l ((p * 7 + 3) % l.length) = b at *
          generalize p / (l.length : Int) = c at *
          have s : wrap64 (wrap64 (wrap64 (wrap64 (wrap64 a * 131) + wrap64 (wrap64 b * 1117)) + wrap64 (p * 29)) + wrap64 (wrap64 c * 53)) = a * 131 + b * 1117 + p * 29 + c * 53 := by
            rw [w64 (x := a) (by omega) (by omega), w64 (x := b) (by omega) (by omega), w64 (x := c) (by omega) (by omega), w64 (x := a * 131) (by omega) (by omega), w64 (x := b * 1117) (by omega) (by omega),
              w64 (x := a * 131 + b * 1117) (by omega) (by omega), w64 (x := p * 29) (by omega) (by omega), w64 (x := a * 131 + b * 1117 + p * 29) (by omega) (by omega), w64 (x := c * 53) (by omega) (by omega), w64 (by omega) (by omega)]
          rw [s]
          have t0 : 0 ≤ a * 131 + b * 1117 + p * 29 + c * 53 := by omega
          have t1 : a * 131 + b * 1117 + p * 29 + c * 53 < 4611686018427387904 := by omega
          generalize a * 131 + b * 1117 + p * 29 + c * 53 = x at *
          rw [show Int.tdiv x 64 = x / 64 from Int.tdiv_eq_ediv_of_nonneg t0, w64 (x := x / 64) (by omega) (by omega)]
          have hx := bxor_ge (a := x) (b := x / 64) t0 (by omega) t1 (by omega)
          have hm := hmod _ hx.1
          exact ⟨_, rfl, hm.1, fun _ => hm.2⟩
  obtain ⟨x, hx, h0, h1⟩ := key
  exact ⟨x, fun k hk => at_rounds (spec_l20Rd_pick.mono l p n) hk hx, h0, h1⟩

theorem draw (l : List Int) (h : ∀ x ∈ l, (Lit.int .u8 x).wf = true) : ∃ p c, spec_DrawCrowdOk.f 1 l = some (p, c) ∧ -10 ≤ p ∧ p ≤ 10 ∧ -1000 ≤ c ∧ c ≤ 1000 := by
  obtain ⟨A, h1, a0, a1⟩ := pick (open_len l) (open_wf h) 0 (by omega) (by omega) 8
  obtain ⟨B, h2, b0, b1⟩ := pick (open_len l) (open_wf h) (0 + 1) (by omega) (by omega) 66
  unfold spec_DrawCrowdOk.f
  rw [open_eq]; simp only [Option.bind_some]
  rw [h1 1 (by omega)]; simp only [Option.bind_some]
  rw [h2 1 (by omega)]; simp only [Option.bind_some]
  have a := a1 (by omega)
  have b := b1 (by omega)
  rw [w64 (x := B - 1) (by omega) (by omega)]
  exact ⟨_, _, rfl, by omega, by omega, by omega, by omega⟩
theorem main : laws_FnCrowdOk.Pure := by
  intro l _ _ h
  refine ⟨1, ?_⟩
  unfold laws_FnCrowdOk.f
  obtain ⟨p, c, hd, b1, b2, b3, b4⟩ := draw l h
  by_cases hl : (l.length : Int) > 1048576
  · rw [if_pos hl]
  · rw [if_neg hl, hd]
    simp only [Option.bind_some, iCrowdOk_eq, sCrowdOk_eq]
    rw [if_neg (by simp)]
    by_cases hp : 1 ≤ p ∧ p ≤ 6
    · have hf := full_le hp.1 hp.2
      rw [if_neg (by omega), show decide (p > 6) = false from decide_eq_false (by omega)]
      simp only [laws_FnCrowdOk.j0, iCrowdOk_eq, Option.bind_some]
      rw [shl1 (by omega) hp.2, w64 (x := full p + 1 - 1) (by omega) (by omega), show full p + 1 - 1 = full p from by omega, w64 (x := full p - c) (by omega) (by omega),
        w64 (x := full p + 1) (by omega) (by omega), okC_lack, okC_full hp.1 hp.2, okC_zero hp.1 hp.2]
      have hn : okC p (full p + 1) = false := by rw [Bool.eq_false_iff]; intro hc; have := okC_iff.1 hc; omega
      rw [hn]
      simp [show 0 ≤ p from by omega]
    · have hn : okC p c = false := by rw [Bool.eq_false_iff]; intro hc; have := okC_iff.1 hc; omega
      rw [hn]
      by_cases h1 : p < 1
      · rw [if_pos h1]; simp [laws_FnCrowdOk.j0, alive_eq]
      · rw [if_neg h1, show decide (p > 6) = true from decide_eq_true (by omega)]; simp [laws_FnCrowdOk.j0, alive_eq]

end Go.Proofs.Ytohnkhjknihhjaa.Pure.fnCrowdOk
namespace Go.Proofs.Ytohnkhjknihhjaa.Pure
open Go.Proofs.Ytohnkhjknihhjaa.PFnCrowdOk
theorem FnCrowdOk : laws_FnCrowdOk.Pure := fnCrowdOk.main
end Go.Proofs.Ytohnkhjknihhjaa.Pure
