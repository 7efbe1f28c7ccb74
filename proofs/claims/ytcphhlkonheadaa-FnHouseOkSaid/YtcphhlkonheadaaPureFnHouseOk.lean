/- If it holds of a house, it holds without any bodies, and without the last one, for every drawn input. No condition. -/
import Derived.Test.YtcphhlkonheadaaPFnHouseOkx3
import Derived.Test.YtcphhlkonheadaaBase
import Derived.Test.YtcphhlkonheadaaBaseHouse
set_option linter.unusedVariables false
set_option linter.unusedSimpArgs false
namespace Go.Proofs.Ytcphhlkonheadaa.Pure.fnHouseOk
open Go.RowKit Go.Proofs.Ytcphhlkonheadaa.PFnHouseOk Go.Proofs.YtcphhlkonheadaaW.PrintWords Go.Proofs.YtcphhlkonheadaaW.PrintLast Go.Proofs.YtcphhlkonheadaaW.PrintMore Go.Proofs.Ytcphhlkonheadaa.Base

theorem arePeople_eq (p : Int) : impl_arePeople.f p = some (decide (1 ≤ p ∧ p ≤ 6)) := by
  unfold impl_arePeople.f
  by_cases h : p ≥ 1
  · rw [if_pos h]; congr 1; simp [show 1 ≤ p from h]
  · rw [if_neg h]; congr 1; simp; omega
theorem isCrowd_eq (p c : Int) : impl_isCrowd.f p c = some (okC p c) := by
  unfold impl_isCrowd.f
  rw [arePeople_eq]
  simp only [Option.bind_some]
  by_cases h : 1 ≤ p ∧ p ≤ 6
  · rw [if_pos (by simpa using h)]
    by_cases h0 : c ≥ 0
    · rw [if_pos h0, if_pos (by omega), shl1 (by omega) h.2]
      congr 1
      rw [Bool.eq_iff_iff, okC_iff]; simp; omega
    · rw [if_neg h0]; congr 1
      symm; rw [Bool.eq_false_iff]; intro hc; rw [okC_iff] at hc; omega
  · rw [if_neg (by simpa using h)]; congr 1
    symm; rw [Bool.eq_false_iff]; intro hc; rw [okC_iff] at hc; omega

theorem isHouse_loop {p : Int} {bs : List Int} (hm : bs.length ≤ 1048576) (d : Nat) : ∀ (k i : Nat), i ≤ bs.length → bs.length - i = d → d < k →
    impl_isHouse.l0 k bs (bs.length : Int) (i : Int) p bs = some ((bs.drop i).all (goodB p) && (decide (1 ≤ p ∧ p ≤ 6) && decide ((bs.length : Int) ≤ 4))) := by
  induction d with
  | zero =>
    intro k i hi hd hk
    obtain ⟨k, rfl⟩ : ∃ m, k = m + 1 := ⟨k - 1, by omega⟩
    simp only [impl_isHouse.l0]
    rw [if_neg (by omega), List.drop_of_length_le (by omega), arePeople_eq, Option.bind_some]
    by_cases h : 1 ≤ p ∧ p ≤ 6
    · rw [if_pos (by simpa using h)]; simp [h]
    · rw [if_neg (by simpa using h)]; simp [h]
  | succ d ih =>
    intro k i hi hd hk
    obtain ⟨k, rfl⟩ : ∃ m, k = m + 1 := ⟨k - 1, by omega⟩
    simp only [impl_isHouse.l0]
    have hlt : i < bs.length := by omega
    rw [if_pos (by omega), if_pos (by omega), if_pos (by omega), rd_at hlt, isCrowd_eq, Option.bind_some, all_drop hlt]
    by_cases hg : okC p bs[i] = true
    · rw [if_pos hg]
      by_cases hz : bs[i] = 0
      · rw [if_pos hz]; simp [goodB, hz]
      · rw [if_neg hz, wr (by omega) (by omega)]
        rw [show goodB p bs[i] = true from by simp [goodB, hg, hz], Bool.true_and]
        exact ih k (i + 1) (by omega) (by omega) (by omega)
    · rw [if_neg hg]; simp [goodB, hg]
theorem isHouse_eq {bs : List Int} (p : Int) (hm : bs.length ≤ 1048576) (k : Nat) (hk : bs.length < k) : impl_isHouse.f k p bs = some (houseB p bs) := by
  unfold impl_isHouse.f houseB
  exact isHouse_loop hm bs.length k 0 (by omega) (by omega) hk

theorem iHouseOk_eq {bs : List Int} (p : Int) (hm : bs.length ≤ 1048576) (k : Nat) (hk : bs.length < k) : impl_HouseOk.f k p bs = some (houseB p bs) := by
  unfold impl_HouseOk.f; rw [isHouse_eq p hm k hk]; rfl

theorem l1In_eq (n a b : Int) : spec_l1In.f n a b = some (decide (a ≤ n ∧ n ≤ b)) := by
  unfold spec_l1In.f
  by_cases h : n ≥ a
  · rw [if_pos h]; congr 1; simp [show a ≤ n from h]
  · rw [if_neg h]; congr 1; simp; omega
theorem sCrowdOk_eq (p c : Int) : spec_CrowdOk.f p c = some (okC p c) := by
  unfold spec_CrowdOk.f
  rw [l1In_eq]
  simp only [Option.bind_some]
  by_cases h : 1 ≤ p ∧ p ≤ 6
  · have hf := full_le h.1 h.2
    rw [if_pos (by simpa using h), if_pos (by omega), shl1 (by omega) h.2, l1In_eq, w64 (by omega) (by omega)]
    simp only [Option.bind_some]
    congr 1
    rw [Bool.eq_iff_iff, okC_iff]; simp; omega
  · rw [if_neg (by simpa using h)]; congr 1
    symm; rw [Bool.eq_false_iff]; intro hc; rw [okC_iff] at hc; omega

theorem sHouse_loop {p : Int} {bs : List Int} (hm : bs.length ≤ 1048576) (d : Nat) : ∀ (k i : Nat), i ≤ bs.length → bs.length - i = d → d < k →
    spec_HouseOk.l0 k (i : Int) p bs = some ((bs.drop i).all (goodB p) && (decide (1 ≤ p ∧ p ≤ 6) && decide ((bs.length : Int) ≤ 4))) := by
  induction d with
  | zero =>
    intro k i hi hd hk
    obtain ⟨k, rfl⟩ : ∃ m, k = m + 1 := ⟨k - 1, by omega⟩
    simp only [spec_HouseOk.l0]
    rw [if_neg (by omega), List.drop_of_length_le (by omega), l1In_eq, Option.bind_some]
    by_cases h : 1 ≤ p ∧ p ≤ 6
    · rw [if_pos (by simpa using h)]; simp [h]
    · rw [if_neg (by simpa using h)]; simp [h]
  | succ d ih =>
    intro k i hi hd hk
    obtain ⟨k, rfl⟩ : ∃ m, k = m + 1 := ⟨k - 1, by omega⟩
    simp only [spec_HouseOk.l0]
    have hlt : i < bs.length := by omega
    rw [if_pos (by omega), if_pos (by omega), rd_at hlt, sCrowdOk_eq, Option.bind_some, all_drop hlt]
    by_cases hg : okC p bs[i] = true
    · rw [if_pos hg]
      by_cases hz : bs[i] = 0
      · rw [if_pos hz]; simp [goodB, hz]
      · rw [if_neg hz, wr (by omega) (by omega)]
        rw [show goodB p bs[i] = true from by simp [goodB, hg, hz], Bool.true_and]
        exact ih k (i + 1) (by omega) (by omega) (by omega)
    · rw [if_neg hg]; simp [goodB, hg]
theorem sHouseOk_eq {bs : List Int} (p : Int) (hm : bs.length ≤ 1048576) (k : Nat) (hk : bs.length < k) : spec_HouseOk.f k p bs = some (houseB p bs) := by
  unfold spec_HouseOk.f houseB
  exact sHouse_loop hm bs.length k 0 (by omega) (by omega) hk

theorem iCrowdOk_eq (p c : Int) : impl_CrowdOk.f p c = some (okC p c) := by
  unfold impl_CrowdOk.f; rw [isCrowd_eq]; rfl

theorem alive_eq : laws_alive.f = some true := by
  unfold laws_alive.f
  rw [iCrowdOk_eq, iCrowdOk_eq]; decide

/-- The bytes of a draw: at most 2000. -/
theorem open_eq (l : List Int) : spec_l20Open.f l = some (l.take 2000, 0) := by
  unfold spec_l20Open.f
  by_cases h : (l.length : Int) > 2000
  · rw [if_pos h, if_pos (by omega)]
  · rw [if_neg h, List.take_of_length_le (by omega)]
theorem open_len (l : List Int) : (l.take 2000).length ≤ 2000 := by simp; omega
theorem open_wf {l : List Int} (h : ∀ x ∈ l, (Lit.int .u8 x).wf = true) : ∀ x ∈ l.take 2000, 0 ≤ x ∧ x ≤ 255 := fun x hx => wf_u8 (h x (List.mem_of_mem_take hx))

/-- What a draw gives. -/
theorem pick {l : List Int} (hl : l.length ≤ 2000) (hb : ∀ x ∈ l, 0 ≤ x ∧ x ≤ 255) (p : Int) (hp : 0 ≤ p) (hp' : p ≤ 1000000) (n : Int) :
    ∃ x, (∀ k, 1 ≤ k → spec_l20Rd_pick.f k l p n = some (x, p + 1)) ∧ 0 ≤ x ∧ (1 ≤ n → x < n) := by
  have key : ∃ x, spec_l20Rd_pick.f 1 l p n = some (x, p + 1) ∧ 0 ≤ x ∧ (1 ≤ n → x < n) := by
    have hp1 : wrap64 (p + 1) = p + 1 := w64 (by omega) (by omega)
    have hp2 : wrap64 (p + 1 - 1) = p := by rw [w64 (by omega) (by omega)]; omega
    unfold spec_l20Rd_pick.f
    rw [hp1]
    by_cases hn : n < 1
    · rw [if_pos hn]
      exact ⟨0, by simp [spec_l20Rd_pick.j0], by omega, by omega⟩
    · rw [if_neg hn]
      by_cases h0 : l.length = 0
      · exact ⟨0, by simp [spec_l20Rd_pick.j0, h0], by omega, by omega⟩
      · have hf : ((l.length : Int) == 0) = false := beq_eq_false_iff_ne.mpr (by omega)
        have hrd : ∀ i : Int, 0 ≤ rd l i ∧ rd l i ≤ 255 := by
          intro i
          unfold rd
          by_cases hi : i.toNat < l.length
          · rw [List.getD_eq_getElem?_getD, List.getElem?_eq_getElem hi, Option.getD_some]; exact hb _ (List.getElem_mem hi)
          · rw [List.getD_eq_getElem?_getD, List.getElem?_eq_none (by omega), Option.getD_none]; omega
        have hmod : ∀ x : Int, 0 ≤ x → 0 ≤ Int.tmod x n ∧ Int.tmod x n < n := fun x hx => ⟨Int.tmod_nonneg _ hx, Int.tmod_lt_of_pos _ (by omega)⟩
        simp only [spec_l20Rd_pick.j0, hf, hp2, if_false, Bool.false_eq_true]
        rw [if_pos (show 0 ≤ p from hp)]
        by_cases hlt : p < (l.length : Int)
        · have hr := hrd p
          have hm := hmod (rd l p) hr.1
          refine ⟨Int.tmod (rd l p) n, ?_, hm.1, fun _ => hm.2⟩
          rw [if_pos hlt, if_neg (by omega), w64 (x := rd l p) (by omega) (by omega)]
        · have hL : (0 : Int) < l.length := by omega
          rw [if_neg hlt, if_neg (by omega)]
          have e1 : Int.tmod p l.length = p % l.length := Int.tmod_eq_emod_of_nonneg hp
          have e2 : wrap64 (wrap64 (p * 7) + 3) = p * 7 + 3 := by rw [w64 (x := p * 7) (by omega) (by omega), w64 (by omega) (by omega)]
          have e3 : Int.tmod (p * 7 + 3) l.length = (p * 7 + 3) % l.length := Int.tmod_eq_emod_of_nonneg (by omega)
          have b1 := Int.emod_nonneg p (show (l.length : Int) ≠ 0 by omega)
          have b2 := Int.emod_lt_of_pos p hL
          have b3 := Int.emod_nonneg (p * 7 + 3) (show (l.length : Int) ≠ 0 by omega)
          have b4 := Int.emod_lt_of_pos (p * 7 + 3) hL
          rw [e1, e2, e3, if_pos b1, if_pos b2, if_pos b3, if_pos b4, if_neg (by omega)]
          have r1 := hrd (p % l.length)
          have r2 := hrd ((p * 7 + 3) % l.length)
          have e4 : Int.tdiv p l.length = p / l.length := Int.tdiv_eq_ediv_of_nonneg hp
          have d1 : 0 ≤ p / (l.length : Int) := Int.ediv_nonneg hp (by omega)
          have d2 : p / (l.length : Int) ≤ p := Int.ediv_le_self _ hp
          rw [e4]
          generalize rd l (p % l.length) = a at *
          generalize rd l ((p * 7 + 3) % l.length) = b at *
          generalize p / (l.length : Int) = c at *
          have s : wrap64 (wrap64 (wrap64 (wrap64 (wrap64 a * 131) + wrap64 (wrap64 b * 1117)) + wrap64 (p * 29)) + wrap64 (wrap64 c * 53)) = a * 131 + b * 1117 + p * 29 + c * 53 := by
            rw [w64 (x := a) (by omega) (by omega), w64 (x := b) (by omega) (by omega), w64 (x := c) (by omega) (by omega), w64 (x := a * 131) (by omega) (by omega), w64 (x := b * 1117) (by omega) (by omega),
              w64 (x := a * 131 + b * 1117) (by omega) (by omega), w64 (x := p * 29) (by omega) (by omega), w64 (x := a * 131 + b * 1117 + p * 29) (by omega) (by omega), w64 (x := c * 53) (by omega) (by omega), w64 (by omega) (by omega)]
          rw [s]
          have t0 : 0 ≤ a * 131 + b * 1117 + p * 29 + c * 53 := by omega
          have t1 : a * 131 + b * 1117 + p * 29 + c * 53 < 4611686018427387904 := by omega
          generalize a * 131 + b * 1117 + p * 29 + c * 53 = x at *
          rw [show Int.tdiv x 64 = x / 64 from Int.tdiv_eq_ediv_of_nonneg t0, w64 (x := x / 64) (by omega) (by omega)]
          have hx := bxor_ge (a := x) (b := x / 64) t0 (by omega) t1 (by omega)
          have hm := hmod _ hx.1
          exact ⟨_, rfl, hm.1, fun _ => hm.2⟩
  obtain ⟨x, hx, h0, h1⟩ := key
  exact ⟨x, fun k hk => at_rounds (spec_l20Rd_pick.mono l p n) hk hx, h0, h1⟩

theorem odd_eq {l : List Int} (hl : l.length ≤ 2000) (hb : ∀ x ∈ l, 0 ≤ x ∧ x ≤ 255) (p : Int) (hp : 0 ≤ p) (hp' : p ≤ 900000) (n : Int) (hn : 1 ≤ n) (hn' : n ≤ 1000) :
    ∃ b, (∀ k, 1 ≤ k → spec_l20Rd_odd.f k l p n = some (b, p + 1)) := by
  obtain ⟨A, h1, a0, a1⟩ := pick hl hb p hp (by omega) n
  refine ⟨A == n - 1, fun k hk => ?_⟩
  unfold spec_l20Rd_odd.f
  rw [if_pos (show n > 0 by omega), h1 k hk, Option.bind_some]; dsimp only
  rw [w1s (by omega) (by omega)]

theorem house_loop {l : List Int} (hl : l.length ≤ 2000) (hb : ∀ x ∈ l, 0 ≤ x ∧ x ≤ 255) (n np : Int) (hn : 1 ≤ n) (hn' : n ≤ 1000) (h1 : 1 ≤ np) (h6 : np ≤ 6) (d : Nat) : ∀ (k : Nat) (c p : Int) (bs : List Int), 0 ≤ c → c.toNat = d → 0 ≤ p → p + 10 * c ≤ 800000 → bs.length + d ≤ 10 → d + 3 ≤ k →
    (∀ b ∈ bs, 1 ≤ b ∧ b ≤ full np) →
    ∃ hp hbs p', spec_l20House.l0 k n c l p np bs = some (hp, hbs, p') ∧ 0 ≤ p' ∧ p' ≤ p + c + 20 ∧ hbs.length ≤ bs.length + d + 1 ∧ 0 ≤ hp ∧ hp ≤ 7 ∧ (∀ b ∈ hbs, 0 ≤ b ∧ b ≤ 63) := by
  have hfu := full_le h1 h6
  induction d with
  | zero =>
    intro k c p bs c0 hc p0 hp hbl hk hall
    obtain ⟨k, rfl⟩ : ∃ m, k = m + 1 := ⟨k - 1, by omega⟩
    have hall' : ∀ b ∈ bs, 0 ≤ b ∧ b ≤ 63 := fun b hb' => by have := hall b hb'; omega
    simp only [spec_l20House.l0]
    rw [if_neg (by omega)]
    obtain ⟨b, h4⟩ := odd_eq hl hb p p0 (by omega) n hn hn'
    rw [h4 k (by omega), Option.bind_some]; dsimp only
    cases b with
    | false => rw [if_neg (by simp)]; exact ⟨_, _, _, rfl, by omega, by omega, by omega, by omega, by omega, hall'⟩
    | true =>
      obtain ⟨C, h5, _, _⟩ := pick hl hb (p + 1) (by omega) (by omega) 3
      obtain ⟨D, h6', d0, d1⟩ := pick hl hb (p + 1 + 1) (by omega) (by omega) 2
      replace d1 := d1 (by omega)
      rw [if_pos rfl, h5 k (by omega), Option.bind_some]; dsimp only
      by_cases e0 : C = 0
      · rw [if_pos e0, Option.bind_some, h6' k (by omega), Option.bind_some]; dsimp only
        rw [if_pos d0, if_pos (by simp; omega)]
        have hr : rd [0, 7] D = 0 ∨ rd [0, 7] D = 7 := by
          have : D = 0 ∨ D = 1 := by omega
          rcases this with rfl | rfl
          · left; rfl
          · right; rfl
        exact ⟨_, _, _, rfl, by omega, by omega, by omega, by omega, by omega, hall'⟩
      · rw [if_neg e0]
        by_cases e1 : C = 1
        · rw [if_pos e1, if_pos (by omega)]
          exact ⟨_, _, _, rfl, by omega, by omega, by simp <;> omega, by omega, by omega, fun b hb' => by
            rcases List.mem_append.1 hb' with hb' | hb'
            · exact hall' b hb'
            · have := List.mem_singleton.1 hb'; omega⟩
        · rw [if_neg e1]
          exact ⟨_, _, _, rfl, by omega, by omega, by simp, by omega, by omega, by simp⟩
  | succ d ih =>
    intro k c p bs c0 hc p0 hp hbl hk hall
    obtain ⟨k, rfl⟩ : ∃ m, k = m + 1 := ⟨k - 1, by omega⟩
    simp only [spec_l20House.l0]
    obtain ⟨M, h2, m0, m1⟩ := pick hl hb p (by omega) (by omega) (full np)
    replace m1 := m1 (by omega)
    rw [if_pos (by omega), if_pos (by omega), fullw h1 h6, h2 k (by omega), Option.bind_some]; dsimp only
    rw [if_pos (by omega), w1s (by omega) (by omega), w1 m0 (by omega)]
    obtain ⟨hp', hbs, p', he, q0, q1, q2, q3, q4, q5⟩ := ih k (c - 1) (p + 1) (bs ++ [1 + M]) (by omega) (by omega) (by omega) (by omega) (by simp; omega) (by omega) (fun b hb' => by
      rcases List.mem_append.1 hb' with hb' | hb'
      · exact hall b hb'
      · have := List.mem_singleton.1 hb'; omega)
    exact ⟨hp', hbs, p', he, q0, by omega, by simp at q2; omega, q3, q4, q5⟩
theorem drawHouse {l : List Int} (hl : l.length ≤ 2000) (hb : ∀ x ∈ l, 0 ≤ x ∧ x ≤ 255) (p : Int) (hp : 0 ≤ p) (hp' : p ≤ 700000) (n : Int) (hn : 1 ≤ n) (hn' : n ≤ 1000) :
    ∃ hp hbs p', (∀ k, 10 ≤ k → spec_l20House.f k l p n = some (hp, hbs, p')) ∧ 0 ≤ p' ∧ p' ≤ p + 40 ∧ hbs.length ≤ 10 ∧ 0 ≤ hp ∧ hp ≤ 7 ∧ (∀ b ∈ hbs, 0 ≤ b ∧ b ≤ 63) := by
  suffices h : ∃ hp hbs p', spec_l20House.f 10 l p n = some (hp, hbs, p') ∧ 0 ≤ p' ∧ p' ≤ p + 40 ∧ hbs.length ≤ 10 ∧ 0 ≤ hp ∧ hp ≤ 7 ∧ (∀ b ∈ hbs, 0 ≤ b ∧ b ≤ 63) by
    obtain ⟨hp, hbs, p', h, r⟩ := h
    exact ⟨hp, hbs, p', fun k hk => at_rounds (spec_l20House.mono l p n) hk h, r⟩
  obtain ⟨A, h1, a0, a1⟩ := pick hl hb p (by omega) (by omega) 5
  replace a1 := a1 (by omega)
  obtain ⟨B, h2, b0, b1⟩ := pick hl hb (p + 1) (by omega) (by omega) 9
  replace b1 := b1 (by omega)
  obtain ⟨C, h3, c0, c1⟩ := pick hl hb (p + 1 + 1) (by omega) (by omega) 3
  replace c1 := c1 (by omega)
  unfold spec_l20House.f
  rw [h1 10 (by omega), Option.bind_some]; dsimp only
  rw [h2 10 (by omega), Option.bind_some]; dsimp only
  rw [h3 10 (by omega), Option.bind_some]; dsimp only
  have e : wrap64 (wrap64 (1 + A) + wrap64 (Int.tdiv B 8)) = 1 + A + B / 8 := by
    rw [Int.tdiv_eq_ediv_of_nonneg b0, w1 a0 (by omega), w64 (x := B / 8) (by omega) (by omega), w64 (by omega) (by omega)]
  rw [e, w1 c0 (by omega)]
  clear e
  obtain ⟨q1, q2, q3, he, r0, r1, r2, r3, r4, r5⟩ := house_loop hl hb n (1 + A + B / 8) hn hn' (by omega) (by omega) (1 + C).toNat 10 (1 + C) (p + 1 + 1 + 1) [] (by omega) rfl (by omega) (by omega) (by simp; omega) (by omega) (by simp)
  exact ⟨q1, q2, q3, he, by omega, by omega, by simp at r2; omega, r3, r4, r5⟩

theorem main : laws_FnHouseOk.Pure := by
  intro l _ _ h
  refine ⟨30, ?_⟩
  unfold laws_FnHouseOk.f
  by_cases hl : (l.length : Int) > 1048576
  · rw [if_pos hl]
  rw [if_neg hl]
  obtain ⟨p, bs, p', hdr, _, _, hbl, _⟩ := drawHouse (open_len l) (open_wf h) 0 (by omega) (by omega) 2 (by omega) (by omega)
  rw [show spec_DrawHouseOk.f 30 l = some (p, bs) from by unfold spec_DrawHouseOk.f; rw [open_eq, Option.bind_some, hdr 30 (by omega), Option.bind_some], Option.bind_some]; dsimp only
  rw [iHouseOk_eq p (by omega) 30 (by omega), sHouseOk_eq p (by omega) 30 (by omega), iHouseOk_eq 1 (by simp) 30 (by simp), iHouseOk_eq 0 (by simp) 30 (by simp), alive_eq]
  simp only [Option.bind_some]
  rw [if_neg (by simp), show houseB 1 [] = true from by decide, show houseB 0 [] = false from by decide, if_pos rfl, if_neg (by simp)]
  by_cases hh : houseB p bs = true
  · rw [if_pos hh]
    by_cases hz : bs.length = 0
    · rw [if_pos (by rw [w1s (by omega) (by omega)]; omega)]
    · rw [w1s (by omega) (by omega), if_neg (by omega), if_pos (by omega), if_pos (by omega), iHouseOk_eq p (by have := List.length_take_le' ((bs.length : Int) - 1).toNat bs; omega) 30 (by have := List.length_take_le' ((bs.length : Int) - 1).toNat bs; omega), houseB_take hh]
      rfl
  · rw [if_neg hh]

end Go.Proofs.Ytcphhlkonheadaa.Pure.fnHouseOk
namespace Go.Proofs.Ytcphhlkonheadaa.Pure
open Go.Proofs.Ytcphhlkonheadaa.PFnHouseOk
theorem FnHouseOk : laws_FnHouseOk.Pure := fnHouseOk.main
end Go.Proofs.Ytcphhlkonheadaa.Pure
