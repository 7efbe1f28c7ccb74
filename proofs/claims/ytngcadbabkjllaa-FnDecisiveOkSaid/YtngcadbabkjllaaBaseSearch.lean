/- Crowds searched one by one: plain facts. No condition. -/
import Derived.Test.YtngcadbabkjllaaBaseTerm
set_option linter.unusedVariables false
set_option linter.unusedSimpArgs false
namespace Go.Proofs.Ytngcadbabkjllaa.Base
open Go.RowKit Go.Proofs.YtngcadbabkjllaaW.PrintWords Go.Proofs.YtngcadbabkjllaaW.PrintMore
/-- Is it so of one of d crowds from i on? -/
def srch (f : Int → Bool) : Nat → Nat → Bool
  | 0, _ => false
  | d + 1, i => f (i : Int) || srch f d (i + 1)
theorem srch_iff (f : Int → Bool) : ∀ d i, srch f d i = true ↔ ∃ j : Nat, i ≤ j ∧ j < i + d ∧ f (j : Int) = true
  | 0, i => by simp only [srch]; exact ⟨fun h => (by cases h), fun ⟨j, a, b, _⟩ => absurd a (by omega)⟩
  | d + 1, i => by
    rw [srch, Bool.or_eq_true, srch_iff f d (i + 1)]
    constructor
    · rintro (h | ⟨j, a, b, c⟩)
      · exact ⟨i, by omega, by omega, h⟩
      · exact ⟨j, by omega, by omega, c⟩
    · rintro ⟨j, a, b, c⟩
      by_cases e : j = i
      · subst e; exact .inl c
      · exact .inr ⟨j, by omega, by omega, c⟩
theorem srch_congr {f g : Int → Bool} : ∀ {d i : Nat}, (∀ j : Nat, i ≤ j → j < i + d → f j = g j) → srch f d i = srch g d i
  | 0, _, _ => rfl
  | d + 1, i, h => by rw [srch, srch, h i (by omega) (by omega), srch_congr (fun j a b => h j (by omega) (by omega))]
/-- Who is needed, or idle: the bits of those of whom it is not so. -/
def gath (f : Int → Bool) : Nat → Nat → Int → Int
  | 0, _, acc => acc
  | d + 1, i, acc => gath f d (i + 1) (if f (i : Int) = true then acc else bor acc (bit i))
theorem gath_congr {f g : Int → Bool} : ∀ {d i : Nat} {acc : Int}, (∀ j : Nat, i ≤ j → j < i + d → f j = g j) → gath f d i acc = gath g d i acc
  | 0, _, _, _ => rfl
  | d + 1, i, acc, h => by rw [gath, gath, h i (by omega) (by omega), gath_congr (fun j a b => h j (by omega) (by omega))]
theorem clear_all : ∀ c : Fin 64, ∀ k : Fin 6, ¬ (Go.bits .and .i64 (shr .i64 (c.val : Int) (k.val : Int)) 1 = 0) → bor c.val (bit k.val) = c.val := by decide +kernel
theorem bit_set {c k : Int} (c0 : 0 ≤ c) (c64 : c < 64) (k0 : 0 ≤ k) (k6 : k < 6) (h : ¬ (Go.bits .and .i64 (shr .i64 c k) 1 = 0)) : bor c (bit k) = c := by
  have := clear_all ⟨c.toNat, by omega⟩ ⟨k.toNat, by omega⟩
  simp only [Int.toNat_of_nonneg c0, Int.toNat_of_nonneg k0] at this
  exact this h
theorem many_zero {f : Int → Bool} : ∀ {n : Nat}, many f n = 0 ↔ ∀ j : Nat, j < n → f j = false
  | 0 => by simp [many]
  | n + 1 => by
    have hl := many_le f n
    rw [many]
    constructor
    · intro h j hj
      by_cases e : f (n : Int) = true
      · rw [if_pos e] at h; omega
      · rw [if_neg e] at h
        by_cases hjn : j = n
        · subst hjn; simpa using e
        · exact (many_zero (n := n)).1 (by omega) j (by omega)
    · intro h
      rw [(many_zero (n := n)).2 (fun j hj => h j (by omega)), h n (by omega)]; simp
theorem crowd_of {p : Int} (h1 : 1 ≤ p) (h6 : p ≤ 6) {i : Nat} (h : i < (full p + 1).toNat) : okC p (i : Int) = true := by
  have hf := full_le h1 h6
  exact okC_of h1 h6 (by omega) (by omega)
theorem crowds_le {p : Int} (h1 : 1 ≤ p) (h6 : p ≤ 6) : (full p + 1).toNat ≤ 64 ∧ (((full p + 1).toNat : Nat) : Int) = full p + 1 := by
  have hf := full_le h1 h6
  omega
end Go.Proofs.Ytngcadbabkjllaa.Base
