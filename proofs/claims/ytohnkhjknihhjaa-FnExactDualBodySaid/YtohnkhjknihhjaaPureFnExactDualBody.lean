/- DualBody returns what the reference's returns, for all arguments. No condition. -/
import Derived.Test.YtohnkhjknihhjaaPFnExactDualBodyx2
import Derived.Test.YtohnkhjknihhjaaBase
set_option linter.unusedVariables false
set_option linter.unusedSimpArgs false
namespace Go.Proofs.Ytohnkhjknihhjaa.Pure.fnExactDualBody
open Go.RowKit Go.Proofs.Ytohnkhjknihhjaa.PFnExactDualBody Go.Proofs.YtohnkhjknihhjaaW.PrintWords Go.Proofs.YtohnkhjknihhjaaW.PrintLast Go.Proofs.YtohnkhjknihhjaaW.PrintMore Go.Proofs.Ytohnkhjknihhjaa.Base

theorem arePeople_eq (p : Int) : impl_arePeople.f p = some (decide (1 ≤ p ∧ p ≤ 6)) := by
  unfold impl_arePeople.f
  by_cases h : p ≥ 1
  · rw [if_pos h]; congr 1; simp [show 1 ≤ p from h]
  · rw [if_neg h]; congr 1; simp; omega
theorem isCrowd_eq (p c : Int) : impl_isCrowd.f p c = some (okC p c) := by
  unfold impl_isCrowd.f
  rw [arePeople_eq]
  simp only [Option.bind_some]
  by_cases h : 1 ≤ p ∧ p ≤ 6
  · rw [if_pos (by simpa using h)]
    by_cases h0 : c ≥ 0
    · rw [if_pos h0, if_pos (by omega), shl1 (by omega) h.2]
      congr 1
      rw [Bool.eq_iff_iff, okC_iff]; simp; omega
    · rw [if_neg h0]; congr 1
      symm; rw [Bool.eq_false_iff]; intro hc; rw [okC_iff] at hc; omega
  · rw [if_neg (by simpa using h)]; congr 1
    symm; rw [Bool.eq_false_iff]; intro hc; rw [okC_iff] at hc; omega

theorem heads_all : ∀ c : Fin 64, impl_headsOf.f c.val = some (hd c.val) := by decide +kernel
theorem iHeads_eq {c : Int} (h0 : 0 ≤ c) (h1 : c < 64) : impl_headsOf.f c = some (hd c) := all64 (P := fun c => impl_headsOf.f c = some (hd c)) heads_all c h0 h1

theorem isBody_eq (p m q : Int) : impl_isBody.f p m q = some (okB p m q) := by
  unfold impl_isBody.f okB
  rw [isCrowd_eq]
  simp only [Option.bind_some]
  by_cases h : okC p m = true
  · have h' := okC_lt h
    rw [if_pos h, h]
    by_cases hq : q ≥ 1
    · rw [if_pos hq, iHeads_eq h'.2.2.1 h'.2.2.2.1]
      simp [show 1 ≤ q from hq]
    · rw [if_neg hq]; congr 1; simp; omega
  · rw [if_neg h]; simp [h]

theorem iDualBody_eq (p m q : Int) : impl_DualBody.f p m q = some (if okB p m q = true then (m, hd m + 1 - q) else (0, 0)) := by
  unfold impl_DualBody.f
  rw [isBody_eq]
  simp only [Option.bind_some]
  by_cases h : okB p m q = true
  · have hb := okB_iff.1 h
    have h' := okC_lt hb.1
    have hh := hd_le h'.2.2.1 h'.2.2.2.1
    rw [if_pos h, if_pos h, iHeads_eq h'.2.2.1 h'.2.2.2.1]
    simp only [Option.bind_some]
    rw [w64 (x := hd m + 1) (by omega) (by omega), w64 (by omega) (by omega)]
  · rw [if_neg h, if_neg h]

theorem l1In_eq (n a b : Int) : spec_l1In.f n a b = some (decide (a ≤ n ∧ n ≤ b)) := by
  unfold spec_l1In.f
  by_cases h : n ≥ a
  · rw [if_pos h]; congr 1; simp [show a ≤ n from h]
  · rw [if_neg h]; congr 1; simp; omega
theorem sCrowdOk_eq (p c : Int) : spec_CrowdOk.f p c = some (okC p c) := by
  unfold spec_CrowdOk.f
  rw [l1In_eq]
  simp only [Option.bind_some]
  by_cases h : 1 ≤ p ∧ p ≤ 6
  · have hf := full_le h.1 h.2
    rw [if_pos (by simpa using h), if_pos (by omega), shl1 (by omega) h.2, l1In_eq, w64 (by omega) (by omega)]
    simp only [Option.bind_some]
    congr 1
    rw [Bool.eq_iff_iff, okC_iff]; simp; omega
  · rw [if_neg (by simpa using h)]; congr 1
    symm; rw [Bool.eq_false_iff]; intro hc; rw [okC_iff] at hc; omega

theorem l1Heads_all : ∀ c : Fin 64, spec_l1Heads.f 7 c.val = some (hd c.val) := by decide +kernel
theorem sHeads_eq {c : Int} (k : Nat) (hk : 7 ≤ k) (h0 : 0 ≤ c) (h1 : c < 64) : spec_l1Heads.f k c = some (hd c) :=
  at_rounds (spec_l1Heads.mono c) hk (all64 (P := fun c => spec_l1Heads.f 7 c = some (hd c)) l1Heads_all c h0 h1)

theorem sBodyOk_eq (k : Nat) (hk : 7 ≤ k) (p m q : Int) : spec_BodyOk.f k p m q = some (okB p m q) := by
  unfold spec_BodyOk.f okB
  rw [sCrowdOk_eq]
  simp only [Option.bind_some]
  by_cases h : okC p m = true
  · have h' := okC_lt h
    rw [if_pos h, h, sHeads_eq k hk h'.2.2.1 h'.2.2.2.1]
    simp only [Option.bind_some, l1In_eq, Bool.true_and]
  · rw [if_neg h]; simp [h]

theorem sDualBody_eq (k : Nat) (hk : 7 ≤ k) (p m q : Int) : spec_DualBody.f k p m q = some (if okB p m q = true then (m, hd m + 1 - q) else (0, 0)) := by
  unfold spec_DualBody.f
  rw [sBodyOk_eq k hk]
  simp only [Option.bind_some]
  by_cases h : okB p m q = true
  · have hb := okB_iff.1 h
    have h' := okC_lt hb.1
    have hh := hd_le h'.2.2.1 h'.2.2.2.1
    rw [if_pos h, if_pos h, sHeads_eq k hk h'.2.2.1 h'.2.2.2.1]
    simp only [Option.bind_some]
    rw [w64 (x := hd m + 1) (by omega) (by omega), w64 (by omega) (by omega)]
  · rw [if_neg h, if_neg h]

theorem main (p m q : Int) : ∃ k, laws_FnExactDualBody.f k p m q = some true := by
  refine ⟨7, ?_⟩
  unfold laws_FnExactDualBody.f laws_toBody.f laws_eqBody.f
  simp only [Option.bind_some, iDualBody_eq, sDualBody_eq 7 (by omega)]
  simp

end Go.Proofs.Ytohnkhjknihhjaa.Pure.fnExactDualBody
