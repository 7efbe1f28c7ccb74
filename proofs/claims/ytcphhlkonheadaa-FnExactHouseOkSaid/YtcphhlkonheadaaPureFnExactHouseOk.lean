/- HouseOk returns what the reference's returns, for all arguments. No condition. -/
import Derived.Test.YtcphhlkonheadaaPFnExactHouseOkx2
import Derived.Test.YtcphhlkonheadaaBase
import Derived.Test.YtcphhlkonheadaaBaseHouse
set_option linter.unusedVariables false
set_option linter.unusedSimpArgs false
namespace Go.Proofs.Ytcphhlkonheadaa.Pure.fnExactHouseOk
open Go.RowKit Go.Proofs.Ytcphhlkonheadaa.PFnExactHouseOk Go.Proofs.YtcphhlkonheadaaW.PrintWords Go.Proofs.YtcphhlkonheadaaW.PrintLast Go.Proofs.YtcphhlkonheadaaW.PrintMore Go.Proofs.Ytcphhlkonheadaa.Base

theorem toIntS_loop {l : List Int} (hm : l.length ≤ 1000000000) (d : Nat) : ∀ (k i : Nat) (out : List Int), i ≤ l.length → l.length - i = d → out.length = l.length → (∀ j, j < i → out[j]? = l[j]?) → d < k → laws_toIntS.l0 k l out (i : Int) = some l := by
  induction d with
  | zero =>
    intro k i out hi hd hl ho hk
    obtain ⟨k, rfl⟩ : ∃ m, k = m + 1 := ⟨k - 1, by omega⟩
    simp only [laws_toIntS.l0]
    rw [if_neg (by omega), copied hl (fun j hj => ho j (by omega))]
  | succ d ih =>
    intro k i out hi hd hl ho hk
    obtain ⟨k, rfl⟩ : ∃ m, k = m + 1 := ⟨k - 1, by omega⟩
    simp only [laws_toIntS.l0]
    have hlt : i < l.length := by omega
    rw [if_pos (by omega), if_pos (by omega), if_pos (by omega), rd_at hlt, Int.toNat_natCast, wr (by omega) (by omega)]
    exact ih k (i + 1) _ (by omega) (by omega) (by simpa using hl) (copied_step hlt hl ho) (by omega)
theorem toIntS_eq {l : List Int} (hm : l.length ≤ 1048576) (k : Nat) (hk : l.length < k) : laws_toIntS.f k l = some l := by
  unfold laws_toIntS.f
  rw [if_pos (by omega), if_pos (by omega)]
  exact toIntS_loop (by omega) l.length k 0 _ (by omega) (by omega) (by simp) (fun j hj => absurd hj (by omega)) hk

theorem toHouse_eq {l : List Int} (p : Int) (hm : l.length ≤ 1048576) (k : Nat) (hk : l.length < k) : laws_toHouse.f k p l = some (p, l) := by
  unfold laws_toHouse.f; rw [toIntS_eq hm k hk]; rfl

theorem eqIntS_loop {l : List Int} (hm : l.length ≤ 1048576) (d : Nat) : ∀ (k i : Nat), i ≤ l.length → l.length - i = d → d < k → laws_eqIntS.l0 k l l (i : Int) = some true := by
  induction d with
  | zero =>
    intro k i hi hd hk
    obtain ⟨k, rfl⟩ : ∃ m, k = m + 1 := ⟨k - 1, by omega⟩
    simp only [laws_eqIntS.l0]
    rw [if_neg (by omega)]
  | succ d ih =>
    intro k i hi hd hk
    obtain ⟨k, rfl⟩ : ∃ m, k = m + 1 := ⟨k - 1, by omega⟩
    simp only [laws_eqIntS.l0]
    rw [if_pos (by omega), if_pos (by omega), if_pos (by omega), if_pos trivial, wr (by omega) (by omega)]
    exact ih k (i + 1) (by omega) (by omega) (by omega)
theorem eqIntS_eq {l : List Int} (hm : l.length ≤ 1048576) (k : Nat) (hk : l.length < k) : laws_eqIntS.f k l l = some true := by
  unfold laws_eqIntS.f
  rw [if_pos rfl]
  exact eqIntS_loop hm l.length k 0 (by omega) (by omega) hk

theorem eqHouse_eq {l : List Int} (p : Int) (hm : l.length ≤ 1048576) (k : Nat) (hk : l.length < k) : laws_eqHouse.f k p l p l = some true := by
  unfold laws_eqHouse.f; rw [if_pos rfl, eqIntS_eq hm k hk]; rfl

theorem szHouse_eq (p : Int) (l : List Int) (hm : l.length ≤ maxLen) (a : Int) (ha : 0 ≤ a) (ha' : a ≤ 1048576) : laws_szHouse.f p l a = some (if a < l.length then -1 else a - l.length) := by
  unfold maxLen at hm
  unfold laws_szHouse.f laws_szIntS.f
  rw [w64 (by omega) (by omega)]
  by_cases h : a < l.length
  · rw [if_pos (by omega), if_pos h]; rfl
  · rw [if_neg (by omega), if_neg h, Option.bind_some, if_neg (by omega)]

theorem arePeople_eq (p : Int) : impl_arePeople.f p = some (decide (1 ≤ p ∧ p ≤ 6)) := by
  unfold impl_arePeople.f
  by_cases h : p ≥ 1
  · rw [if_pos h]; congr 1; simp [show 1 ≤ p from h]
  · rw [if_neg h]; congr 1; simp; omega
theorem isCrowd_eq (p c : Int) : impl_isCrowd.f p c = some (okC p c) := by
  unfold impl_isCrowd.f
  rw [arePeople_eq]
  simp only [Option.bind_some]
  by_cases h : 1 ≤ p ∧ p ≤ 6
  · rw [if_pos (by simpa using h)]
    by_cases h0 : c ≥ 0
    · rw [if_pos h0, if_pos (by omega), shl1 (by omega) h.2]
      congr 1
      rw [Bool.eq_iff_iff, okC_iff]; simp; omega
    · rw [if_neg h0]; congr 1
      symm; rw [Bool.eq_false_iff]; intro hc; rw [okC_iff] at hc; omega
  · rw [if_neg (by simpa using h)]; congr 1
    symm; rw [Bool.eq_false_iff]; intro hc; rw [okC_iff] at hc; omega

theorem isHouse_loop {p : Int} {bs : List Int} (hm : bs.length ≤ 1048576) (d : Nat) : ∀ (k i : Nat), i ≤ bs.length → bs.length - i = d → d < k →
    impl_isHouse.l0 k bs (bs.length : Int) (i : Int) p bs = some ((bs.drop i).all (goodB p) && (decide (1 ≤ p ∧ p ≤ 6) && decide ((bs.length : Int) ≤ 4))) := by
  induction d with
  | zero =>
    intro k i hi hd hk
    obtain ⟨k, rfl⟩ : ∃ m, k = m + 1 := ⟨k - 1, by omega⟩
    simp only [impl_isHouse.l0]
    rw [if_neg (by omega), List.drop_of_length_le (by omega), arePeople_eq, Option.bind_some]
    by_cases h : 1 ≤ p ∧ p ≤ 6
    · rw [if_pos (by simpa using h)]; simp [h]
    · rw [if_neg (by simpa using h)]; simp [h]
  | succ d ih =>
    intro k i hi hd hk
    obtain ⟨k, rfl⟩ : ∃ m, k = m + 1 := ⟨k - 1, by omega⟩
    simp only [impl_isHouse.l0]
    have hlt : i < bs.length := by omega
    rw [if_pos (by omega), if_pos (by omega), if_pos (by omega), rd_at hlt, isCrowd_eq, Option.bind_some, all_drop hlt]
    by_cases hg : okC p bs[i] = true
    · rw [if_pos hg]
      by_cases hz : bs[i] = 0
      · rw [if_pos hz]; simp [goodB, hz]
      · rw [if_neg hz, wr (by omega) (by omega)]
        rw [show goodB p bs[i] = true from by simp [goodB, hg, hz], Bool.true_and]
        exact ih k (i + 1) (by omega) (by omega) (by omega)
    · rw [if_neg hg]; simp [goodB, hg]
theorem isHouse_eq {bs : List Int} (p : Int) (hm : bs.length ≤ 1048576) (k : Nat) (hk : bs.length < k) : impl_isHouse.f k p bs = some (houseB p bs) := by
  unfold impl_isHouse.f houseB
  exact isHouse_loop hm bs.length k 0 (by omega) (by omega) hk

theorem iHouseOk_eq {bs : List Int} (p : Int) (hm : bs.length ≤ 1048576) (k : Nat) (hk : bs.length < k) : impl_HouseOk.f k p bs = some (houseB p bs) := by
  unfold impl_HouseOk.f; rw [isHouse_eq p hm k hk]; rfl

theorem l1In_eq (n a b : Int) : spec_l1In.f n a b = some (decide (a ≤ n ∧ n ≤ b)) := by
  unfold spec_l1In.f
  by_cases h : n ≥ a
  · rw [if_pos h]; congr 1; simp [show a ≤ n from h]
  · rw [if_neg h]; congr 1; simp; omega
theorem sCrowdOk_eq (p c : Int) : spec_CrowdOk.f p c = some (okC p c) := by
  unfold spec_CrowdOk.f
  rw [l1In_eq]
  simp only [Option.bind_some]
  by_cases h : 1 ≤ p ∧ p ≤ 6
  · have hf := full_le h.1 h.2
    rw [if_pos (by simpa using h), if_pos (by omega), shl1 (by omega) h.2, l1In_eq, w64 (by omega) (by omega)]
    simp only [Option.bind_some]
    congr 1
    rw [Bool.eq_iff_iff, okC_iff]; simp; omega
  · rw [if_neg (by simpa using h)]; congr 1
    symm; rw [Bool.eq_false_iff]; intro hc; rw [okC_iff] at hc; omega

theorem sHouse_loop {p : Int} {bs : List Int} (hm : bs.length ≤ 1048576) (d : Nat) : ∀ (k i : Nat), i ≤ bs.length → bs.length - i = d → d < k →
    spec_HouseOk.l0 k (i : Int) p bs = some ((bs.drop i).all (goodB p) && (decide (1 ≤ p ∧ p ≤ 6) && decide ((bs.length : Int) ≤ 4))) := by
  induction d with
  | zero =>
    intro k i hi hd hk
    obtain ⟨k, rfl⟩ : ∃ m, k = m + 1 := ⟨k - 1, by omega⟩
    simp only [spec_HouseOk.l0]
    rw [if_neg (by omega), List.drop_of_length_le (by omega), l1In_eq, Option.bind_some]
    by_cases h : 1 ≤ p ∧ p ≤ 6
    · rw [if_pos (by simpa using h)]; simp [h]
    · rw [if_neg (by simpa using h)]; simp [h]
  | succ d ih =>
    intro k i hi hd hk
    obtain ⟨k, rfl⟩ : ∃ m, k = m + 1 := ⟨k - 1, by omega⟩
    simp only [spec_HouseOk.l0]
    have hlt : i < bs.length := by omega
    rw [if_pos (by omega), if_pos (by omega), rd_at hlt, sCrowdOk_eq, Option.bind_some, all_drop hlt]
    by_cases hg : okC p bs[i] = true
    · rw [if_pos hg]
      by_cases hz : bs[i] = 0
      · rw [if_pos hz]; simp [goodB, hz]
      · rw [if_neg hz, wr (by omega) (by omega)]
        rw [show goodB p bs[i] = true from by simp [goodB, hg, hz], Bool.true_and]
        exact ih k (i + 1) (by omega) (by omega) (by omega)
    · rw [if_neg hg]; simp [goodB, hg]
theorem sHouseOk_eq {bs : List Int} (p : Int) (hm : bs.length ≤ 1048576) (k : Nat) (hk : bs.length < k) : spec_HouseOk.f k p bs = some (houseB p bs) := by
  unfold spec_HouseOk.f houseB
  exact sHouse_loop hm bs.length k 0 (by omega) (by omega) hk

theorem main (p : Int) (bs : List Int) (hm : bs.length ≤ maxLen) (_ : ∀ z ∈ bs, (Lit.int .i64 z).wf = true) : ∃ k, laws_FnExactHouseOk.f k p bs = some true := by
  refine ⟨bs.length + 1, ?_⟩
  unfold laws_FnExactHouseOk.f
  rw [szHouse_eq p bs hm 1048576 (by omega) (by omega), Option.bind_some]
  by_cases h : (1048576 : Int) < bs.length
  · rw [if_pos h, if_pos (by omega)]
  · rw [if_neg h, if_neg (by omega)]
    have hl : bs.length ≤ 1048576 := by omega
    rw [toHouse_eq p hl _ (by omega), Option.bind_some]; dsimp only
    rw [sHouseOk_eq p hl _ (by omega), Option.bind_some, Option.bind_some]; dsimp only
    rw [iHouseOk_eq p hl _ (by omega), Option.bind_some, if_neg (by simp), Option.bind_some]; dsimp only
    rw [eqHouse_eq p hl _ (by omega)]; rfl

end Go.Proofs.Ytcphhlkonheadaa.Pure.fnExactHouseOk
