/- CountDeciding returns what the reference's returns, for all arguments. No condition. -/
import Derived.Test.YtcphhlkonheadaaPFnExactCountDecidingx2
import Derived.Test.YtcphhlkonheadaaBase
import Derived.Test.YtcphhlkonheadaaBaseCount
set_option linter.unusedVariables false
set_option linter.unusedSimpArgs false
namespace Go.Proofs.Ytcphhlkonheadaa.Pure.fnExactCountDeciding
open Go.RowKit Go.Proofs.Ytcphhlkonheadaa.PFnExactCountDeciding Go.Proofs.YtcphhlkonheadaaW.PrintWords Go.Proofs.YtcphhlkonheadaaW.PrintLast Go.Proofs.YtcphhlkonheadaaW.PrintMore Go.Proofs.Ytcphhlkonheadaa.Base

theorem arePeople_eq (p : Int) : impl_arePeople.f p = some (decide (1 ≤ p ∧ p ≤ 6)) := by
  unfold impl_arePeople.f
  by_cases h : p ≥ 1
  · rw [if_pos h]; congr 1; simp [show 1 ≤ p from h]
  · rw [if_neg h]; congr 1; simp; omega
theorem isCrowd_eq (p c : Int) : impl_isCrowd.f p c = some (okC p c) := by
  unfold impl_isCrowd.f
  rw [arePeople_eq]
  simp only [Option.bind_some]
  by_cases h : 1 ≤ p ∧ p ≤ 6
  · rw [if_pos (by simpa using h)]
    by_cases h0 : c ≥ 0
    · rw [if_pos h0, if_pos (by omega), shl1 (by omega) h.2]
      congr 1
      rw [Bool.eq_iff_iff, okC_iff]; simp; omega
    · rw [if_neg h0]; congr 1
      symm; rw [Bool.eq_false_iff]; intro hc; rw [okC_iff] at hc; omega
  · rw [if_neg (by simpa using h)]; congr 1
    symm; rw [Bool.eq_false_iff]; intro hc; rw [okC_iff] at hc; omega

theorem heads_all : ∀ c : Fin 64, impl_headsOf.f c.val = some (hd c.val) := by decide +kernel
theorem iHeads_eq {c : Int} (h0 : 0 ≤ c) (h1 : c < 64) : impl_headsOf.f c = some (hd c) := all64 (P := fun c => impl_headsOf.f c = some (hd c)) heads_all c h0 h1

theorem isBody_eq (p m q : Int) : impl_isBody.f p m q = some (okB p m q) := by
  unfold impl_isBody.f okB
  rw [isCrowd_eq]
  simp only [Option.bind_some]
  by_cases h : okC p m = true
  · have h' := okC_lt h
    rw [if_pos h, h]
    by_cases hq : q ≥ 1
    · rw [if_pos hq, iHeads_eq h'.2.2.1 h'.2.2.2.1]
      simp [show 1 ≤ q from hq]
    · rw [if_neg hq]; congr 1; simp; omega
  · rw [if_neg h]; simp [h]

theorem decides_eq {m c : Int} (q : Int) (h0 : 0 ≤ m) (h1 : m < 64) (h2 : 0 ≤ c) (h3 : c < 64) : impl_decides.f m q c = some (decide (hd (band m c) ≥ q)) := by
  have := band_lt h0 h1 h2 h3
  unfold impl_decides.f
  rw [iHeads_eq this.1 this.2.2.2]; rfl

theorem iCount_loop {m : Int} (q : Int) (m0 : 0 ≤ m) (m64 : m < 64) (N : Nat) (hN : N ≤ 64) (d : Nat) : ∀ (k i : Nat), i ≤ N → N - i = d → d < k → impl_CountDeciding.l0 k (cnt m q i) (N : Int) (i : Int) m q = some (cnt m q N) := by
  induction d with
  | zero =>
    intro k i hi hd hk
    obtain ⟨k, rfl⟩ : ∃ m, k = m + 1 := ⟨k - 1, by omega⟩
    simp only [impl_CountDeciding.l0]
    rw [if_neg (by omega), show i = N from by omega]
  | succ d ih =>
    intro k i hi hd hk
    obtain ⟨k, rfl⟩ : ∃ m, k = m + 1 := ⟨k - 1, by omega⟩
    simp only [impl_CountDeciding.l0]
    have hc := cnt_le m q i
    have e := ih k (i + 1) (by omega) (by omega) (by omega)
    rw [if_pos (by omega), w1r (A := (i : Int)) (by omega) (by omega), w1r (A := cnt m q i) (by omega) (by omega)]
    rw [show ((i : Int) + 1) = ((i + 1 : Nat) : Int) from by omega]
    simp only [andNot_zero (a := (i : Int)) (b := m) (by omega) (by omega) m0 m64]
    rw [cnt_succ] at e
    by_cases hs : band (i : Int) m = i
    · rw [if_pos hs, decides_eq q m0 m64 (by omega) (by omega), Option.bind_some, band_comm m i, hs]
      by_cases hq : Base.hd (i : Int) ≥ q
      · rw [if_pos (decide_eq_true hq)]
        rw [decide_eq_true hs, decide_eq_true hq, Bool.and_true, if_pos rfl] at e
        exact e
      · rw [if_neg (by simpa using hq)]
        rw [decide_eq_true hs, decide_eq_false hq, Bool.and_false, if_neg (by simp), Int.add_zero] at e
        exact e
    · rw [if_neg hs]
      rw [decide_eq_false hs, Bool.false_and, if_neg (by simp), Int.add_zero] at e
      exact e
theorem iCount_eq (k : Nat) (hk : 70 ≤ k) (p m q : Int) : impl_CountDeciding.f k p m q = some (if okB p m q = true then cnt m q (full p + 1).toNat else -1) := by
  unfold impl_CountDeciding.f
  rw [isBody_eq, Option.bind_some]
  by_cases h : okB p m q = true
  · obtain ⟨h1, h6, m0, m64, _⟩ := okC_lt (okB_iff.1 h).1
    have hf := full_le h1 h6
    rw [if_pos h, if_pos h, if_pos (by omega), shl1 (by omega) h6]
    have := iCount_loop q m0 m64 (full p + 1).toNat (by omega) (full p + 1).toNat k 0 (by omega) (by omega) (by omega)
    rw [Int.toNat_of_nonneg (by omega)] at this
    exact this
  · rw [if_neg h, if_neg h]

theorem l1In_eq (n a b : Int) : spec_l1In.f n a b = some (decide (a ≤ n ∧ n ≤ b)) := by
  unfold spec_l1In.f
  by_cases h : n ≥ a
  · rw [if_pos h]; congr 1; simp [show a ≤ n from h]
  · rw [if_neg h]; congr 1; simp; omega
theorem sCrowdOk_eq (p c : Int) : spec_CrowdOk.f p c = some (okC p c) := by
  unfold spec_CrowdOk.f
  rw [l1In_eq]
  simp only [Option.bind_some]
  by_cases h : 1 ≤ p ∧ p ≤ 6
  · have hf := full_le h.1 h.2
    rw [if_pos (by simpa using h), if_pos (by omega), shl1 (by omega) h.2, l1In_eq, w64 (by omega) (by omega)]
    simp only [Option.bind_some]
    congr 1
    rw [Bool.eq_iff_iff, okC_iff]; simp; omega
  · rw [if_neg (by simpa using h)]; congr 1
    symm; rw [Bool.eq_false_iff]; intro hc; rw [okC_iff] at hc; omega

theorem l1Heads_all : ∀ c : Fin 64, spec_l1Heads.f 7 c.val = some (hd c.val) := by decide +kernel
theorem sHeads_eq {c : Int} (k : Nat) (hk : 7 ≤ k) (h0 : 0 ≤ c) (h1 : c < 64) : spec_l1Heads.f k c = some (hd c) :=
  at_rounds (spec_l1Heads.mono c) hk (all64 (P := fun c => spec_l1Heads.f 7 c = some (hd c)) l1Heads_all c h0 h1)

theorem sBodyOk_eq (k : Nat) (hk : 7 ≤ k) (p m q : Int) : spec_BodyOk.f k p m q = some (okB p m q) := by
  unfold spec_BodyOk.f okB
  rw [sCrowdOk_eq]
  simp only [Option.bind_some]
  by_cases h : okC p m = true
  · have h' := okC_lt h
    rw [if_pos h, h, sHeads_eq k hk h'.2.2.1 h'.2.2.2.1]
    simp only [Option.bind_some, l1In_eq, Bool.true_and]
  · rw [if_neg h]; simp [h]

theorem sCount_loop {p m : Int} (q : Int) (m0 : 0 ≤ m) (m64 : m < 64) (h1 : 1 ≤ p) (h6 : p ≤ 6) (d : Nat) : ∀ (k i : Nat), (i : Int) ≤ full p + 1 → (full p + 1).toNat - i = d → d + 8 ≤ k → spec_CountDeciding.l0 k p (cnt m q i) (i : Int) m q = some (cnt m q (full p + 1).toNat) := by
  have hf := full_le h1 h6
  induction d with
  | zero =>
    intro k i hi hd hk
    obtain ⟨k, rfl⟩ : ∃ m, k = m + 1 := ⟨k - 1, by omega⟩
    simp only [spec_CountDeciding.l0]
    rw [if_pos (by omega), shl1 (by omega) h6, if_neg (by omega), show i = (full p + 1).toNat from by omega]
  | succ d ih =>
    intro k i hi hd hk
    obtain ⟨k, rfl⟩ : ∃ m, k = m + 1 := ⟨k - 1, by omega⟩
    simp only [spec_CountDeciding.l0]
    have hc := cnt_le m q i
    have e := ih k (i + 1) (by omega) (by omega) (by omega)
    rw [if_pos (by omega), shl1 (by omega) h6, if_pos (by omega), w1r (A := (i : Int)) (by omega) (by omega), w1r (A := cnt m q i) (by omega) (by omega)]
    rw [show ((i : Int) + 1) = ((i + 1 : Nat) : Int) from by omega]
    rw [cnt_succ] at e
    by_cases hs : band (i : Int) m = i
    · rw [if_pos hs, sHeads_eq k (by omega) (by omega) (by omega), Option.bind_some]
      by_cases hq : Base.hd (i : Int) ≥ q
      · rw [if_pos hq]
        rw [decide_eq_true hs, decide_eq_true hq, Bool.and_true, if_pos rfl] at e
        exact e
      · rw [if_neg hq]
        rw [decide_eq_true hs, decide_eq_false hq, Bool.and_false, if_neg (by simp), Int.add_zero] at e
        exact e
    · rw [if_neg hs]
      rw [decide_eq_false hs, Bool.false_and, if_neg (by simp), Int.add_zero] at e
      exact e
theorem sCount_eq (k : Nat) (hk : 80 ≤ k) (p m q : Int) : spec_CountDeciding.f k p m q = some (if okB p m q = true then cnt m q (full p + 1).toNat else -1) := by
  unfold spec_CountDeciding.f
  rw [sBodyOk_eq k (by omega), Option.bind_some]
  by_cases h : okB p m q = true
  · obtain ⟨h1, h6, m0, m64, _⟩ := okC_lt (okB_iff.1 h).1
    have hf := full_le h1 h6
    rw [if_pos h, if_pos h]
    exact sCount_loop q m0 m64 h1 h6 _ k 0 (by omega) rfl (by omega)
  · rw [if_neg h, if_neg h]

theorem main (p m q : Int) : ∃ k, laws_FnExactCountDeciding.f k p m q = some true := by
  refine ⟨80, ?_⟩
  unfold laws_FnExactCountDeciding.f laws_toBody.f
  simp only [Option.bind_some, iCount_eq 80 (by omega), sCount_eq 80 (by omega)]
  simp

end Go.Proofs.Ytcphhlkonheadaa.Pure.fnExactCountDeciding
