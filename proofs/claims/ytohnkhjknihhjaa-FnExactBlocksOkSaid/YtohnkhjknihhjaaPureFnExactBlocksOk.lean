/- BlocksOk returns what the reference's returns, for all arguments. No condition. -/
import Derived.Test.YtohnkhjknihhjaaPFnExactBlocksOkx3
import Derived.Test.YtohnkhjknihhjaaBase
set_option linter.unusedVariables false
set_option linter.unusedSimpArgs false
namespace Go.Proofs.Ytohnkhjknihhjaa.Pure.fnExactBlocksOk
open Go.RowKit Go.Proofs.Ytohnkhjknihhjaa.PFnExactBlocksOk Go.Proofs.YtohnkhjknihhjaaW.PrintWords Go.Proofs.YtohnkhjknihhjaaW.PrintLast Go.Proofs.YtohnkhjknihhjaaW.PrintMore Go.Proofs.Ytohnkhjknihhjaa.Base

theorem arePeople_eq (p : Int) : impl_arePeople.f p = some (decide (1 ≤ p ∧ p ≤ 6)) := by
  unfold impl_arePeople.f
  by_cases h : p ≥ 1
  · rw [if_pos h]; congr 1; simp [show 1 ≤ p from h]
  · rw [if_neg h]; congr 1; simp; omega
theorem isCrowd_eq (p c : Int) : impl_isCrowd.f p c = some (okC p c) := by
  unfold impl_isCrowd.f
  rw [arePeople_eq]
  simp only [Option.bind_some]
  by_cases h : 1 ≤ p ∧ p ≤ 6
  · rw [if_pos (by simpa using h)]
    by_cases h0 : c ≥ 0
    · rw [if_pos h0, if_pos (by omega), shl1 (by omega) h.2]
      congr 1
      rw [Bool.eq_iff_iff, okC_iff]; simp; omega
    · rw [if_neg h0]; congr 1
      symm; rw [Bool.eq_false_iff]; intro hc; rw [okC_iff] at hc; omega
  · rw [if_neg (by simpa using h)]; congr 1
    symm; rw [Bool.eq_false_iff]; intro hc; rw [okC_iff] at hc; omega

theorem heads_all : ∀ c : Fin 64, impl_headsOf.f c.val = some (hd c.val) := by decide +kernel
theorem iHeads_eq {c : Int} (h0 : 0 ≤ c) (h1 : c < 64) : impl_headsOf.f c = some (hd c) := all64 (P := fun c => impl_headsOf.f c = some (hd c)) heads_all c h0 h1

theorem isBody_eq (p m q : Int) : impl_isBody.f p m q = some (okB p m q) := by
  unfold impl_isBody.f okB
  rw [isCrowd_eq]
  simp only [Option.bind_some]
  by_cases h : okC p m = true
  · have h' := okC_lt h
    rw [if_pos h, h]
    by_cases hq : q ≥ 1
    · rw [if_pos hq, iHeads_eq h'.2.2.1 h'.2.2.2.1]
      simp [show 1 ≤ q from hq]
    · rw [if_neg hq]; congr 1; simp; omega
  · rw [if_neg h]; simp [h]

theorem decides_eq {m c : Int} (q : Int) (h0 : 0 ≤ m) (h1 : m < 64) (h2 : 0 ≤ c) (h3 : c < 64) : impl_decides.f m q c = some (decide (hd (band m c) ≥ q)) := by
  have := band_lt h0 h1 h2 h3
  unfold impl_decides.f
  rw [iHeads_eq this.1 this.2.2.2]; rfl

theorem everybody_eq {p : Int} (h1 : 1 ≤ p) (h6 : p ≤ 6) : impl_everybody.f p = some (full p) := by
  have hf := full_le h1 h6
  unfold impl_everybody.f
  rw [if_pos (by omega), shl1 (by omega) h6, w64 (by omega) (by omega)]
  congr 1; omega

theorem iBlocksOk_eq (p m q c : Int) : impl_BlocksOk.f p m q c = some (okB p m q && okC p c && !decide (hd (band m (full p - c)) ≥ q)) := by
  unfold impl_BlocksOk.f
  rw [isBody_eq, isCrowd_eq]
  simp only [Option.bind_some]
  by_cases h : okB p m q = true
  · have hb := okB_iff.1 h
    have h' := okC_lt hb.1
    by_cases hc : okC p c = true
    · have h2 := okC_lt hc
      have h3 := okC_lt (okC_lack.trans hc)
      rw [if_pos h, if_pos hc, everybody_eq h'.1 h'.2.1]
      simp only [Option.bind_some]
      rw [show Go.bits .xor .i64 (full p) c = full p - c from xor_full hc, decides_eq q h'.2.2.1 h'.2.2.2.1 h3.2.2.1 h3.2.2.2.1, h, hc]
      simp
    · rw [if_pos h, if_neg hc]; simp [hc]
  · rw [if_neg h]; simp [h]

theorem l1In_eq (n a b : Int) : spec_l1In.f n a b = some (decide (a ≤ n ∧ n ≤ b)) := by
  unfold spec_l1In.f
  by_cases h : n ≥ a
  · rw [if_pos h]; congr 1; simp [show a ≤ n from h]
  · rw [if_neg h]; congr 1; simp; omega
theorem sCrowdOk_eq (p c : Int) : spec_CrowdOk.f p c = some (okC p c) := by
  unfold spec_CrowdOk.f
  rw [l1In_eq]
  simp only [Option.bind_some]
  by_cases h : 1 ≤ p ∧ p ≤ 6
  · have hf := full_le h.1 h.2
    rw [if_pos (by simpa using h), if_pos (by omega), shl1 (by omega) h.2, l1In_eq, w64 (by omega) (by omega)]
    simp only [Option.bind_some]
    congr 1
    rw [Bool.eq_iff_iff, okC_iff]; simp; omega
  · rw [if_neg (by simpa using h)]; congr 1
    symm; rw [Bool.eq_false_iff]; intro hc; rw [okC_iff] at hc; omega

theorem l1Heads_all : ∀ c : Fin 64, spec_l1Heads.f 7 c.val = some (hd c.val) := by decide +kernel
theorem sHeads_eq {c : Int} (k : Nat) (hk : 7 ≤ k) (h0 : 0 ≤ c) (h1 : c < 64) : spec_l1Heads.f k c = some (hd c) :=
  at_rounds (spec_l1Heads.mono c) hk (all64 (P := fun c => spec_l1Heads.f 7 c = some (hd c)) l1Heads_all c h0 h1)

theorem sBodyOk_eq (k : Nat) (hk : 7 ≤ k) (p m q : Int) : spec_BodyOk.f k p m q = some (okB p m q) := by
  unfold spec_BodyOk.f okB
  rw [sCrowdOk_eq]
  simp only [Option.bind_some]
  by_cases h : okC p m = true
  · have h' := okC_lt h
    rw [if_pos h, h, sHeads_eq k hk h'.2.2.1 h'.2.2.2.1]
    simp only [Option.bind_some, l1In_eq, Bool.true_and]
  · rw [if_neg h]; simp [h]

theorem sDecidesOk_eq (k : Nat) (hk : 7 ≤ k) (p m q c : Int) : spec_DecidesOk.f k p m q c = some (okB p m q && okC p c && decide (hd (band m c) ≥ q)) := by
  unfold spec_DecidesOk.f
  rw [sBodyOk_eq k hk, sCrowdOk_eq]
  simp only [Option.bind_some]
  by_cases h : okB p m q = true
  · have hb := okB_iff.1 h
    have h' := okC_lt hb.1
    by_cases hc : okC p c = true
    · have h2 := okC_lt hc
      have h3 := band_lt h2.2.2.1 h2.2.2.2.1 h'.2.2.1 h'.2.2.2.1
      rw [if_pos h, if_pos hc, sHeads_eq k hk h3.1 h3.2.2.2, h, hc]
      simp only [Option.bind_some, Bool.true_and]
      rw [band_comm c m]
    · rw [if_pos h, if_neg hc]; simp [hc]
  · rw [if_neg h]; simp [h]

theorem sBlocksOk_eq (k : Nat) (hk : 7 ≤ k) (p m q c : Int) : spec_BlocksOk.f k p m q c = some (okB p m q && okC p c && !decide (hd (band m (full p - c)) ≥ q)) := by
  unfold spec_BlocksOk.f
  rw [sBodyOk_eq k hk, sCrowdOk_eq]
  simp only [Option.bind_some]
  by_cases h : okB p m q = true
  · have hb := okB_iff.1 h
    have h' := okC_lt hb.1
    have hf := full_le h'.1 h'.2.1
    by_cases hc : okC p c = true
    · have h2 := okC_lt hc
      rw [if_pos h, if_pos hc, if_pos (by omega), shl1 (by omega) h'.2.1, w64 (x := full p + 1 - 1) (by omega) (by omega), w64 (by omega) (by omega),
        show full p + 1 - 1 - c = full p - c from by omega, sDecidesOk_eq k hk, okC_lack, h, hc]
      simp
    · rw [if_pos h, if_neg hc]; simp [hc]
  · rw [if_neg h]; simp [h]

theorem main (p m q c : Int) : ∃ k, laws_FnExactBlocksOk.f k p m q c = some true := by
  refine ⟨7, ?_⟩
  unfold laws_FnExactBlocksOk.f laws_toBody.f
  simp only [Option.bind_some, iBlocksOk_eq, sBlocksOk_eq 7 (by omega)]
  simp

end Go.Proofs.Ytohnkhjknihhjaa.Pure.fnExactBlocksOk
