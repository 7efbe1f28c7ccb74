/- LackOf returns what the reference's returns, for all arguments. No condition. -/
import Derived.Test.YtohnkhjknihhjaaPFnExactLackOfx1
import Derived.Test.YtohnkhjknihhjaaBase
set_option linter.unusedVariables false
set_option linter.unusedSimpArgs false
namespace Go.Proofs.Ytohnkhjknihhjaa.Pure.fnExactLackOf
open Go.RowKit Go.Proofs.Ytohnkhjknihhjaa.PFnExactLackOf Go.Proofs.YtohnkhjknihhjaaW.PrintWords Go.Proofs.YtohnkhjknihhjaaW.PrintLast Go.Proofs.YtohnkhjknihhjaaW.PrintMore Go.Proofs.Ytohnkhjknihhjaa.Base

theorem arePeople_eq (p : Int) : impl_arePeople.f p = some (decide (1 ≤ p ∧ p ≤ 6)) := by
  unfold impl_arePeople.f
  by_cases h : p ≥ 1
  · rw [if_pos h]; congr 1; simp [show 1 ≤ p from h]
  · rw [if_neg h]; congr 1; simp; omega
theorem isCrowd_eq (p c : Int) : impl_isCrowd.f p c = some (okC p c) := by
  unfold impl_isCrowd.f
  rw [arePeople_eq]
  simp only [Option.bind_some]
  by_cases h : 1 ≤ p ∧ p ≤ 6
  · rw [if_pos (by simpa using h)]
    by_cases h0 : c ≥ 0
    · rw [if_pos h0, if_pos (by omega), shl1 (by omega) h.2]
      congr 1
      rw [Bool.eq_iff_iff, okC_iff]; simp; omega
    · rw [if_neg h0]; congr 1
      symm; rw [Bool.eq_false_iff]; intro hc; rw [okC_iff] at hc; omega
  · rw [if_neg (by simpa using h)]; congr 1
    symm; rw [Bool.eq_false_iff]; intro hc; rw [okC_iff] at hc; omega

theorem everybody_eq {p : Int} (h1 : 1 ≤ p) (h6 : p ≤ 6) : impl_everybody.f p = some (full p) := by
  have hf := full_le h1 h6
  unfold impl_everybody.f
  rw [if_pos (by omega), shl1 (by omega) h6, w64 (by omega) (by omega)]
  congr 1; omega

theorem iLackOf_eq (p c : Int) : impl_LackOf.f p c = some (if okC p c = true then full p - c else -1) := by
  unfold impl_LackOf.f
  rw [isCrowd_eq]
  simp only [Option.bind_some]
  by_cases h : okC p c = true
  · have h' := okC_lt h
    rw [if_pos h, if_pos h, everybody_eq h'.1 h'.2.1]
    simp only [Option.bind_some]
    rw [show Go.bits .xor .i64 (full p) c = full p - c from xor_full h]
  · rw [if_neg h, if_neg h]

theorem l1In_eq (n a b : Int) : spec_l1In.f n a b = some (decide (a ≤ n ∧ n ≤ b)) := by
  unfold spec_l1In.f
  by_cases h : n ≥ a
  · rw [if_pos h]; congr 1; simp [show a ≤ n from h]
  · rw [if_neg h]; congr 1; simp; omega
theorem sCrowdOk_eq (p c : Int) : spec_CrowdOk.f p c = some (okC p c) := by
  unfold spec_CrowdOk.f
  rw [l1In_eq]
  simp only [Option.bind_some]
  by_cases h : 1 ≤ p ∧ p ≤ 6
  · have hf := full_le h.1 h.2
    rw [if_pos (by simpa using h), if_pos (by omega), shl1 (by omega) h.2, l1In_eq, w64 (by omega) (by omega)]
    simp only [Option.bind_some]
    congr 1
    rw [Bool.eq_iff_iff, okC_iff]; simp; omega
  · rw [if_neg (by simpa using h)]; congr 1
    symm; rw [Bool.eq_false_iff]; intro hc; rw [okC_iff] at hc; omega

theorem sLackOf_eq (p c : Int) : spec_LackOf.f p c = some (if okC p c = true then full p - c else -1) := by
  unfold spec_LackOf.f
  rw [sCrowdOk_eq]
  simp only [Option.bind_some]
  by_cases h : okC p c = true
  · have h' := okC_lt h
    have hf := full_le h'.1 h'.2.1
    rw [if_pos h, if_pos h, if_pos (by omega), shl1 (by omega) h'.2.1, w64 (x := full p + 1 - 1) (by omega) (by omega), w64 (by omega) (by omega)]
    congr 1; omega
  · rw [if_neg h, if_neg h]

theorem main : laws_FnExactLackOf.Pure := by
  intro p c _ _
  unfold laws_FnExactLackOf.f
  rw [iLackOf_eq, sLackOf_eq]
  simp

end Go.Proofs.Ytohnkhjknihhjaa.Pure.fnExactLackOf
namespace Go.Proofs.Ytohnkhjknihhjaa.Pure
open Go.Proofs.Ytohnkhjknihhjaa.PFnExactLackOf
theorem FnExactLackOf : laws_FnExactLackOf.Pure := fnExactLackOf.main
end Go.Proofs.Ytohnkhjknihhjaa.Pure
