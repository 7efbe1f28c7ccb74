/- Walks of the functions that this law reaches, one by one, written by a program. No condition. -/
import Derived.Test.YtoifikhcnioagaaDoorPFnReadTermx0
import Derived.Test.YtoifikhcnioagaaDoorPFnReadTermx4
import Derived.Test.YtoifikhcnioagaaDoorShelf
namespace Go.Proofs.YtoifikhcnioagaaDoor.PFnReadTerm
open Go.RowKit Go.Proofs.YtoifikhcnioagaaDoorW.PrintWords Go.Proofs.YtoifikhcnioagaaDoorW.PrintLast Go.Proofs.YtoifikhcnioagaaDoorW.PrintMore
attribute [local go_sem] max2_int min2_int max_two min_two max_three min_three max_four min_four   -- for this text's walks alone
set_option linter.unusedVariables false
set_option linter.unusedSimpArgs false

/-! ### strconv_Itoa: function 49 -/
/-- Of a digit alone: terms need no more. -/
def strconv_Itoa.f (_k : Nat) (a0 : Int) : Option (ByteArray) := if 0 ≤ a0 ∧ a0 < 10 then some (strOfNums [(wrap64 (48 + (mx a0 0))) % 256]) else none
theorem strconv_Itoa.digit (a0 : Int) (h0 : 0 ≤ a0) (h1 : a0 < 10) : (⟨(Lib.decDigits a0.toNat).toArray⟩ : ByteArray) = strOfNums [(wrap64 (48 + (mx a0 0))) % 256] := by
 rw [Lib.decDigits, dif_pos (by omega)]
 have : a0 = 0 ∨ a0 = 1 ∨ a0 = 2 ∨ a0 = 3 ∨ a0 = 4 ∨ a0 = 5 ∨ a0 = 6 ∨ a0 = 7 ∨ a0 = 8 ∨ a0 = 9 := by omega
 rcases this with rfl | rfl | rfl | rfl | rfl | rfl | rfl | rfl | rfl | rfl <;> decide +kernel
theorem strconv_Itoa.calls (k : Nat) (a0 : Int) (r : ByteArray) (w : World) (h : strconv_Itoa.f k a0 = some r) :
  Calls Tryd.prog 49 #[.int .i64 a0] w fun e w' => e = .returned (.string r) ∧ Below w.heap.size w w' := by
 unfold strconv_Itoa.f at h
 split at h
 ·rename_i hn
  obtain rfl := Option.some.inj h; have hs := Tryd.strconv_Itoa_small a0.toNat (by omega) w
  rw [Int.toNat_of_nonneg hn.1, strconv_Itoa.digit a0 hn.1 hn.2] at hs
  exact hs.mono (fun e w' ⟨h1, h2⟩ => ⟨h1, by subst h2; exact Below.refl _ _⟩)
 ·cases h

/-! ### impl_wrapped: function 50 -/
def impl_wrapped.f (a0 : ByteArray) (a1 : Bool) : Option (ByteArray) := if a1 = true then (if 1 + a0.size ≤ 9223372036854775807 then (if ((⟨#[40]⟩ : ByteArray) ++ a0).size + 1 ≤ 9223372036854775807 then (some (((⟨#[40]⟩ : ByteArray) ++ a0) ++ (⟨#[41]⟩ : ByteArray))) else (none)) else (none)) else (some a0)
set_option maxHeartbeats 8000000 in
set_option maxRecDepth 100000 in
theorem impl_wrapped.calls (a0 : ByteArray) (a1 : Bool) (r : ByteArray) (w : World) (h : impl_wrapped.f a0 a1 = some r) :
  Calls Tryd.prog 50 #[.string a0, .bool a1] w fun e w' => e = .returned (.string r) ∧ Drawn0 w w' := by
 have H := h; clear h
 unfold impl_wrapped.f at H
 by_cases c3 : a1 = true
 ·subst c3
  rw [if_pos rfl] at H
  by_cases c4 : 1 + a0.size ≤ 9223372036854775807; rotate_left
  ·rw [if_neg c4] at H; exact absurd H (by simp)
  rw [if_pos c4] at H
  have c4b0 := eq_true c4; have c4b1 : decide (1 + a0.size ≤ 9223372036854775807) = true := decide_eq_true c4
  try have c4b2 : (9223372036854775807 < 1 + a0.size) = False := eq_false (Nat.not_lt.2 c4)
  by_cases c5 : ((⟨#[40]⟩ : ByteArray) ++ a0).size + 1 ≤ 9223372036854775807; rotate_left
  ·rw [if_neg c5] at H; exact absurd H (by simp)
  rw [if_pos c5] at H
  have c5b0 := eq_true c5; have c5b1 : decide (((⟨#[40]⟩ : ByteArray) ++ a0).size + 1 ≤ 9223372036854775807) = true := decide_eq_true c5
  try have c5b2 : (9223372036854775807 < ((⟨#[40]⟩ : ByteArray) ++ a0).size + 1) = False := eq_false (Nat.not_lt.2 c5)
  try have c5b3 : (9223372036854775807 < 1 + a0.size + 1) = False := eq_false (Nat.not_lt.2 (by have h_ := c5; simp only [ByteArray.size_append] at h_; exact h_))
  try have c5b4 : (1 + a0.size + 1 ≤ 9223372036854775807) = True := eq_true (by have h_ := c5; simp only [ByteArray.size_append] at h_; exact h_)
  obtain rfl := Option.some.inj H
  go_enter Tryd.func50, Tryd.ntmps50
  go_wp2
  go_ret
  exact ⟨by first | rfl | (simp; done) | (simp [*]; done), by repeat (first | exact Drawn0.refl _ | apply Drawn0.step)⟩
 ·replace c3 := Bool.eq_false_iff.mpr c3
  subst c3
  rw [if_neg (show ¬ (false = true) by decide)] at H
  obtain rfl := Option.some.inj H
  go_enter Tryd.func50, Tryd.ntmps50
  go_wp2
  go_ret
  exact ⟨by first | rfl | (simp; done) | (simp [*]; done), by repeat (first | exact Drawn0.refl _ | apply Drawn0.step)⟩

end Go.Proofs.YtoifikhcnioagaaDoor.PFnReadTerm
