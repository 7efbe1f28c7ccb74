/- How many crowds of members of a body decide: plain facts on numbers below 64. No condition. -/
import Derived.Test.YtcphhlkonheadaaBase
set_option linter.unusedVariables false
set_option linter.unusedSimpArgs false
namespace Go.Proofs.Ytcphhlkonheadaa.Base
open Go.RowKit Go.Proofs.YtcphhlkonheadaaW.PrintWords Go.Proofs.YtcphhlkonheadaaW.PrintMore
def dec (m q i : Int) : Bool := decide (band i m = i) && decide (hd i ≥ q)
/-- How many of the first crowds are of members and decide. -/
def cnt (m q : Int) : Nat → Int
  | 0 => 0
  | n + 1 => cnt m q n + if dec m q (n : Int) = true then 1 else 0
theorem cnt_succ (m q : Int) (n : Nat) : cnt m q (n + 1) = cnt m q n + if (decide (band (n : Int) m = n) && decide (hd (n : Int) ≥ q)) = true then 1 else 0 := rfl
theorem cnt_le (m q : Int) : ∀ n, 0 ≤ cnt m q n ∧ cnt m q n ≤ n
  | 0 => by simp [cnt]
  | n + 1 => by
    have := cnt_le m q n
    unfold cnt; split <;> omega
theorem cnt_all : ∀ p : Fin 7, ∀ m : Fin 64, okC p.val m.val = true → ∀ q : Fin 7, (1 : Int) ≤ q.val ∧ (q.val : Int) ≤ hd m.val →
    cnt m.val q.val (full p.val + 1).toNat + cnt m.val (hd m.val + 1 - q.val) (full p.val + 1).toNat = full (hd m.val) + 1 := by decide +kernel
theorem cnt_sum {p m q : Int} (h : okB p m q = true) : cnt m q (full p + 1).toNat + cnt m (hd m + 1 - q) (full p + 1).toNat = full (hd m) + 1 := by
  obtain ⟨hm, q1, q2⟩ := okB_iff.1 h
  obtain ⟨h1, h6, m0, m64, _⟩ := okC_lt hm
  have hh := hd_le m0 m64
  have := cnt_all ⟨p.toNat, by omega⟩ ⟨m.toNat, by omega⟩
  simp only [Int.toNat_of_nonneg m0, Int.toNat_of_nonneg (show 0 ≤ p by omega)] at this
  have := this hm ⟨q.toNat, by omega⟩
  simp only [Int.toNat_of_nonneg (show 0 ≤ q by omega)] at this
  exact this ⟨q1, q2⟩
theorem andNot_all : ∀ a b : Fin 64, (Go.bits .andNot .i64 (a.val : Int) (b.val : Int) = 0) = (band a.val b.val = a.val) := by
  intro a b
  rw [eq_iff_iff]
  revert a b
  decide +kernel
theorem andNot_zero {a b : Int} (ha : 0 ≤ a) (ha' : a < 64) (hb : 0 ≤ b) (hb' : b < 64) : (Go.bits .andNot .i64 a b = 0) = (band a b = a) :=
  lift64 (P := fun a b => (Go.bits .andNot .i64 a b = 0) = (band a b = a)) andNot_all ha ha' hb hb'
end Go.Proofs.Ytcphhlkonheadaa.Base
