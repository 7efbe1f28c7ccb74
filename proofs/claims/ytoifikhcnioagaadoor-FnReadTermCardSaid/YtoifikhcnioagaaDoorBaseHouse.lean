/- Plain facts about houses and about rows that are copied. No condition. -/
import Derived.Test.YtoifikhcnioagaaDoorBase
set_option linter.unusedVariables false
set_option linter.unusedSimpArgs false
namespace Go.Proofs.YtoifikhcnioagaaDoor.Base
open Go.RowKit Go.Proofs.YtoifikhcnioagaaDoorW.PrintWords Go.Proofs.YtoifikhcnioagaaDoorW.PrintMore

/-! ### Houses -/
theorem wr {A : Int} (h0 : 0 ≤ A) (h1 : A ≤ 1000000000000) : wrap64 (A + 1) = A + 1 := w64 (by omega) (by omega)
def goodB (p b : Int) : Bool := okC p b && decide (b ≠ 0)
def houseB (p : Int) (bs : List Int) : Bool := bs.all (goodB p) && (decide (1 ≤ p ∧ p ≤ 6) && decide ((bs.length : Int) ≤ 4))
theorem rd_at {l : List Int} {i : Nat} (h : i < l.length) : rd l (i : Int) = l[i] := by
  unfold rd; rw [Int.toNat_natCast, List.getD_eq_getElem?_getD, List.getElem?_eq_getElem h, Option.getD_some]
theorem houseB_iff {p : Int} {bs : List Int} : houseB p bs = true ↔ (∀ b ∈ bs, okC p b = true ∧ b ≠ 0) ∧ (1 ≤ p ∧ p ≤ 6) ∧ bs.length ≤ 4 := by
  unfold houseB goodB
  rw [Bool.and_eq_true, Bool.and_eq_true, List.all_eq_true, decide_eq_true_eq, decide_eq_true_eq]
  refine and_congr ?_ (and_congr Iff.rfl (by omega))
  refine forall_congr' fun b => forall_congr' fun _ => ?_
  rw [Bool.and_eq_true, decide_eq_true_eq]
theorem houseB_take {p : Int} {bs : List Int} (h : houseB p bs = true) (n : Nat) : houseB p (bs.take n) = true := by
  rw [houseB_iff] at h ⊢
  exact ⟨fun b hb => h.1 b (List.mem_of_mem_take hb), h.2.1, by have := List.length_take_le n bs; have := List.length_take_le' n bs; omega⟩
theorem all_drop {l : List Int} {f : Int → Bool} {i : Nat} (h : i < l.length) : (l.drop i).all f = (f l[i] && (l.drop (i + 1)).all f) := by
  rw [List.drop_eq_getElem_cons h, List.all_cons]
/-- A row copied element by element. -/
theorem copied {α : Type} {l out : List α} (hl : out.length = l.length) (h : ∀ j, j < l.length → out[j]? = l[j]?) : out = l := by
  apply List.ext_getElem?
  intro j
  by_cases hj : j < l.length
  · exact h j hj
  · rw [List.getElem?_eq_none (by omega), List.getElem?_eq_none (by omega)]
theorem copied_step {α : Type} {l out : List α} {i : Nat} (hi : i < l.length) (hl : out.length = l.length) (h : ∀ j, j < i → out[j]? = l[j]?) : ∀ j, j < i + 1 → (out.set i l[i])[j]? = l[j]? := by
  intro j hj
  by_cases e : j = i
  · subst e; rw [List.getElem?_set_self (by omega), List.getElem?_eq_getElem hi]
  · rw [List.getElem?_set_ne (by omega)]; exact h j (by omega)
end Go.Proofs.YtoifikhcnioagaaDoor.Base
