/- DecidingOf returns what the reference's returns, for all arguments, each time a list of its own. No condition. -/
import Derived.Test.YtcflipknnijmdaaPFnExactDecidingOfx2
import Derived.Test.YtcflipknnijmdaaBase
import Derived.Test.YtcflipknnijmdaaBaseHouse
set_option linter.unusedVariables false
set_option linter.unusedSimpArgs false
namespace Go.Proofs.Ytcflipknnijmdaa.Pure.fnExactDecidingOf
open Go.RowKit Go.Proofs.Ytcflipknnijmdaa.PFnExactDecidingOf Go.Proofs.YtcflipknnijmdaaW.PrintWords Go.Proofs.YtcflipknnijmdaaW.PrintLast Go.Proofs.YtcflipknnijmdaaW.PrintMore Go.Proofs.Ytcflipknnijmdaa.Base

theorem eqIntS_loop {l : List Int} (hm : l.length ≤ 1048576) (d : Nat) : ∀ (k i : Nat), i ≤ l.length → l.length - i = d → d < k → laws_eqIntS.l0 k l l (i : Int) = some true := by
  induction d with
  | zero =>
    intro k i hi hd hk
    obtain ⟨k, rfl⟩ : ∃ m, k = m + 1 := ⟨k - 1, by omega⟩
    simp only [laws_eqIntS.l0]
    rw [if_neg (by omega)]
  | succ d ih =>
    intro k i hi hd hk
    obtain ⟨k, rfl⟩ : ∃ m, k = m + 1 := ⟨k - 1, by omega⟩
    simp only [laws_eqIntS.l0]
    rw [if_pos (by omega), if_pos (by omega), if_pos (by omega), if_pos trivial, wr (by omega) (by omega)]
    exact ih k (i + 1) (by omega) (by omega) (by omega)
theorem eqIntS_eq {l : List Int} (hm : l.length ≤ 1048576) (k : Nat) (hk : l.length < k) : laws_eqIntS.f k l l = some true := by
  unfold laws_eqIntS.f
  rw [if_pos rfl]
  exact eqIntS_loop hm l.length k 0 (by omega) (by omega) hk

theorem markI_loop (n : Nat) (a : Int) (hn : n ≤ 1048576) (a0 : 0 ≤ a) (a1 : a ≤ 10000000) (d : Nat) : ∀ (k i : Nat) (l : List Int), l.length = n → i + d = n → d < k → laws_markIntS.l0 k l (a + i) (i : Int) = some (a + n, l.take i ++ (List.range' i d).map (fun j : Nat => a + (j : Int))) := by
  induction d with
  | zero =>
    intro k i l hl hi hk
    obtain ⟨k, rfl⟩ : ∃ m, k = m + 1 := ⟨k - 1, by omega⟩
    obtain rfl : i = n := by omega
    rw [laws_markIntS.l0, if_neg (by omega), List.take_of_length_le (by omega)]
    simp
  | succ d ih =>
    intro k i l hl hi hk
    obtain ⟨k, rfl⟩ : ∃ m, k = m + 1 := ⟨k - 1, by omega⟩
    rw [laws_markIntS.l0, if_pos (by omega), if_pos (by omega), wr (A := a + (i : Int)) (by omega) (by omega), wr (A := (i : Int)) (by omega) (by omega)]
    have := ih k (i + 1) (l.set i (a + i)) (by simpa using hl) (by omega) (by omega)
    rw [show a + ((i + 1 : Nat) : Int) = a + (i : Int) + 1 from by omega, show ((i + 1 : Nat) : Int) = (i : Int) + 1 from by omega] at this
    rw [Int.toNat_natCast, this, List.range'_succ, List.map_cons, List.take_succ_eq_append_getElem (by simp; omega), List.getElem_set_self, List.take_set_of_le (Nat.le_refl i), List.append_assoc]
    rfl
theorem markI_eq (l : List Int) (a : Int) (hn : l.length ≤ 1048576) (a0 : 0 ≤ a) (a1 : a ≤ 10000000) (k : Nat) (hk : l.length < k) : laws_markIntS.f k l a = some (a + l.length, (List.range' 0 l.length).map (fun j : Nat => a + (j : Int))) := by
  have := markI_loop l.length a hn a0 a1 l.length k 0 l rfl (by omega) hk
  unfold laws_markIntS.f
  rw [show a + ((0 : Nat) : Int) = a from by omega, List.take_zero, List.nil_append] at this
  exact this
theorem heldI_loop (n : Nat) (a : Int) (hn : n ≤ 1048576) (a0 : 0 ≤ a) (a1 : a ≤ 10000000) (d : Nat) : ∀ (k i : Nat), i + d = n → d < k → laws_heldIntS.l0 k ((List.range' 0 n).map (fun j : Nat => a + (j : Int))) (a + i) (i : Int) = some (a + n) := by
  induction d with
  | zero =>
    intro k i hi hk
    obtain ⟨k, rfl⟩ : ∃ m, k = m + 1 := ⟨k - 1, by omega⟩
    obtain rfl : i = n := by omega
    rw [laws_heldIntS.l0, if_neg (by simp)]
  | succ d ih =>
    intro k i hi hk
    obtain ⟨k, rfl⟩ : ∃ m, k = m + 1 := ⟨k - 1, by omega⟩
    have e : rd ((List.range' 0 n).map (fun j : Nat => a + (j : Int))) (i : Int) = a + i := by
      unfold rd; rw [Int.toNat_natCast, List.getD_eq_getElem?_getD, List.getElem?_map, List.getElem?_range' (by omega)]; simp
    rw [laws_heldIntS.l0, if_pos (by simp; omega), if_pos (by omega), e, if_pos rfl, wr (A := a + (i : Int)) (by omega) (by omega), wr (A := (i : Int)) (by omega) (by omega)]
    have := ih k (i + 1) (by omega) (by omega)
    rw [show a + ((i + 1 : Nat) : Int) = a + (i : Int) + 1 from by omega, show ((i + 1 : Nat) : Int) = (i : Int) + 1 from by omega] at this
    exact this
theorem heldI_eq (n : Nat) (a : Int) (hn : n ≤ 1048576) (a0 : 0 ≤ a) (a1 : a ≤ 10000000) (k : Nat) (hk : n < k) : laws_heldIntS.f k ((List.range' 0 n).map (fun j : Nat => a + (j : Int))) a = some (a + n) := by
  have := heldI_loop n a hn a0 a1 n k 0 (by omega) hk
  unfold laws_heldIntS.f
  rw [show a + ((0 : Nat) : Int) = a from by omega] at this
  exact this

theorem toBody_eq (m q : Int) : laws_toBody.f m q = some (m, q) := rfl
theorem main : ∀ (p m q : Int), ∃ k, laws_FnExactDecidingOf.f k p m q = some true := by
  intro p m q
  refine ⟨300, ?_⟩
  have hr := Crowds.dec_len p m q
  have her := eqIntS_eq (l := Crowds.decC p m q) (by omega) 300 (by omega)
  have hm := markI_eq (Crowds.decC p m q) 1 (by omega) (by omega) (by omega) 300 (by omega)
  have hh := heldI_eq (Crowds.decC p m q).length 1 (by omega) (by omega) (by omega) 300 (by omega)
  unfold laws_FnExactDecidingOf.f
  rw [toBody_eq, Option.bind_some]; dsimp only
  rw [spec_DecidingOf_eq p m q 300 (by omega), Option.bind_some, Option.bind_some]; dsimp only
  rw [impl_DecidingOf_eq p m q 300 (by omega), Option.bind_some, her, Option.bind_some, if_pos rfl, hm, Option.bind_some]; dsimp only
  rw [hh, Option.bind_some, if_neg (by omega), if_pos rfl, Option.bind_some]; dsimp only
  rw [impl_DecidingOf_eq p m q 300 (by omega), Option.bind_some, her, Option.bind_some, if_pos rfl, Option.bind_some, if_neg (by omega), if_pos rfl]

end Go.Proofs.Ytcflipknnijmdaa.Pure.fnExactDecidingOf
