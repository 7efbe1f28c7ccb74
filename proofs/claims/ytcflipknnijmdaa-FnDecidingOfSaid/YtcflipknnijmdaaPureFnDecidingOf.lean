/- The least deciding crowds have just the quota, decide, and meet each least deciding crowd of the dual body, for every drawn input. No condition. -/
import Derived.Test.YtcflipknnijmdaaPFnDecidingOfx5
import Derived.Test.YtcflipknnijmdaaBase
import Derived.Test.YtcflipknnijmdaaBaseHouse
set_option linter.unusedVariables false
set_option linter.unusedSimpArgs false
namespace Go.Proofs.Ytcflipknnijmdaa.Pure.fnDecidingOf
open Go.RowKit Go.Proofs.Ytcflipknnijmdaa.PFnDecidingOf Go.Proofs.YtcflipknnijmdaaW.PrintWords Go.Proofs.YtcflipknnijmdaaW.PrintLast Go.Proofs.YtcflipknnijmdaaW.PrintMore Go.Proofs.Ytcflipknnijmdaa.Base

theorem sameInts_loop {l : List Int} (hm : l.length ≤ 1048576) (d : Nat) : ∀ (k i : Nat), i ≤ l.length → l.length - i = d → d < k → laws_sameInts.l0 k l l (i : Int) = some true := by
  induction d with
  | zero =>
    intro k i hi hd hk
    obtain ⟨k, rfl⟩ : ∃ m, k = m + 1 := ⟨k - 1, by omega⟩
    rw [laws_sameInts.l0, if_neg (by omega)]
  | succ d ih =>
    intro k i hi hd hk
    obtain ⟨k, rfl⟩ : ∃ m, k = m + 1 := ⟨k - 1, by omega⟩
    rw [laws_sameInts.l0, if_pos (by omega), if_pos (by omega), if_pos (by omega), if_pos rfl, wr (by omega) (by omega), show (i : Int) + 1 = ((i + 1 : Nat) : Int) from by omega]
    exact ih k (i + 1) (by omega) (by omega) (by omega)
theorem sameInts_eq {l : List Int} (hm : l.length ≤ 1048576) (k : Nat) (hk : l.length < k) : laws_sameInts.f k l l = some true := by
  unfold laws_sameInts.f
  rw [if_pos rfl]
  exact sameInts_loop hm l.length k 0 (by omega) (by omega) (by omega)

theorem ascend_loop {l : List Int} (hm : l.length ≤ 1048576) (hp : l.Pairwise (· < ·)) (d : Nat) : ∀ (k i : Nat), 1 ≤ i → l.length - i = d → i ≤ l.length + 1 → d < k → laws_ascend.l0 k l (i : Int) = some true := by
  induction d with
  | zero =>
    intro k i hi hd hn hk
    obtain ⟨k, rfl⟩ : ∃ m, k = m + 1 := ⟨k - 1, by omega⟩
    rw [laws_ascend.l0, if_neg (by omega)]
  | succ d ih =>
    intro k i hi hd hn hk
    obtain ⟨k, rfl⟩ : ∃ m, k = m + 1 := ⟨k - 1, by omega⟩
    obtain ⟨i, rfl⟩ : ∃ j, i = j + 1 := ⟨i - 1, by omega⟩
    have hi' : i + 1 < l.length := by omega
    have e : wrap64 (((i + 1 : Nat) : Int) - 1) = (i : Int) := by rw [w64 (by omega) (by omega)]; omega
    have hlt := List.pairwise_iff_getElem.1 hp i (i + 1) (by omega) hi' (by omega)
    rw [laws_ascend.l0, if_pos (by omega), e, if_pos (by omega), if_pos (by omega), if_pos (by omega), rd_at (show i < l.length by omega), rd_at hi', if_neg (by omega), wr (by omega) (by omega), show ((i + 1 : Nat) : Int) + 1 = ((i + 1 + 1 : Nat) : Int) from by omega]
    exact ih k (i + 1 + 1) (by omega) (by omega) (by omega) (by omega)
theorem ascend_eq {l : List Int} (hm : l.length ≤ 1048576) (hp : l.Pairwise (· < ·)) (k : Nat) (hk : l.length < k) : laws_ascend.f k l = some true := by
  unfold laws_ascend.f
  exact ascend_loop hm hp (l.length - 1) k 1 (by omega) (by omega) (by omega) (by omega)

theorem l1In_eq (n a b : Int) : spec_l1In.f n a b = some (decide (a ≤ n ∧ n ≤ b)) := by
  unfold spec_l1In.f
  by_cases h : n ≥ a
  · rw [if_pos h]; congr 1; simp [show a ≤ n from h]
  · rw [if_neg h]; congr 1; simp; omega
theorem sCrowdOk_eq (p c : Int) : spec_CrowdOk.f p c = some (okC p c) := by
  unfold spec_CrowdOk.f
  rw [l1In_eq]
  simp only [Option.bind_some]
  by_cases h : 1 ≤ p ∧ p ≤ 6
  · have hf := full_le h.1 h.2
    rw [if_pos (by simpa using h), if_pos (by omega), shl1 (by omega) h.2, l1In_eq, w64 (by omega) (by omega)]
    simp only [Option.bind_some]
    congr 1
    rw [Bool.eq_iff_iff, okC_iff]; simp; omega
  · rw [if_neg (by simpa using h)]; congr 1
    symm; rw [Bool.eq_false_iff]; intro hc; rw [okC_iff] at hc; omega

theorem l1Heads_all : ∀ c : Fin 64, spec_l1Heads.f 7 c.val = some (hd c.val) := by decide +kernel
theorem sHeads_eq {c : Int} (k : Nat) (hk : 7 ≤ k) (h0 : 0 ≤ c) (h1 : c < 64) : spec_l1Heads.f k c = some (hd c) :=
  at_rounds (spec_l1Heads.mono c) hk (all64 (P := fun c => spec_l1Heads.f 7 c = some (hd c)) l1Heads_all c h0 h1)

theorem sBodyOk_eq (k : Nat) (hk : 7 ≤ k) (p m q : Int) : spec_BodyOk.f k p m q = some (okB p m q) := by
  unfold spec_BodyOk.f okB
  rw [sCrowdOk_eq]
  simp only [Option.bind_some]
  by_cases h : okC p m = true
  · have h' := okC_lt h
    rw [if_pos h, h, sHeads_eq k hk h'.2.2.1 h'.2.2.2.1]
    simp only [Option.bind_some, l1In_eq, Bool.true_and]
  · rw [if_neg h]; simp [h]

theorem arePeople_eq (p : Int) : impl_arePeople.f p = some (decide (1 ≤ p ∧ p ≤ 6)) := by
  unfold impl_arePeople.f
  by_cases h : p ≥ 1
  · rw [if_pos h]; congr 1; simp [show 1 ≤ p from h]
  · rw [if_neg h]; congr 1; simp; omega
theorem isCrowd_eq (p c : Int) : impl_isCrowd.f p c = some (okC p c) := by
  unfold impl_isCrowd.f
  rw [arePeople_eq]
  simp only [Option.bind_some]
  by_cases h : 1 ≤ p ∧ p ≤ 6
  · rw [if_pos (by simpa using h)]
    by_cases h0 : c ≥ 0
    · rw [if_pos h0, if_pos (by omega), shl1 (by omega) h.2]
      congr 1
      rw [Bool.eq_iff_iff, okC_iff]; simp; omega
    · rw [if_neg h0]; congr 1
      symm; rw [Bool.eq_false_iff]; intro hc; rw [okC_iff] at hc; omega
  · rw [if_neg (by simpa using h)]; congr 1
    symm; rw [Bool.eq_false_iff]; intro hc; rw [okC_iff] at hc; omega

theorem heads_all : ∀ c : Fin 64, impl_headsOf.f c.val = some (hd c.val) := by decide +kernel
theorem iHeads_eq {c : Int} (h0 : 0 ≤ c) (h1 : c < 64) : impl_headsOf.f c = some (hd c) := all64 (P := fun c => impl_headsOf.f c = some (hd c)) heads_all c h0 h1

theorem isBody_eq (p m q : Int) : impl_isBody.f p m q = some (okB p m q) := by
  unfold impl_isBody.f okB
  rw [isCrowd_eq]
  simp only [Option.bind_some]
  by_cases h : okC p m = true
  · have h' := okC_lt h
    rw [if_pos h, h]
    by_cases hq : q ≥ 1
    · rw [if_pos hq, iHeads_eq h'.2.2.1 h'.2.2.2.1]
      simp [show 1 ≤ q from hq]
    · rw [if_neg hq]; congr 1; simp; omega
  · rw [if_neg h]; simp [h]

theorem iDualBody_eq (p m q : Int) : impl_DualBody.f p m q = some (if okB p m q = true then (m, hd m + 1 - q) else (0, 0)) := by
  unfold impl_DualBody.f
  rw [isBody_eq]
  simp only [Option.bind_some]
  by_cases h : okB p m q = true
  · have hb := okB_iff.1 h
    have h' := okC_lt hb.1
    have hh := hd_le h'.2.2.1 h'.2.2.2.1
    rw [if_pos h, if_pos h, iHeads_eq h'.2.2.1 h'.2.2.2.1]
    simp only [Option.bind_some]
    rw [w64 (x := hd m + 1) (by omega) (by omega), w64 (by omega) (by omega)]
  · rw [if_neg h, if_neg h]

theorem iHeadsOf_eq (p c : Int) : impl_HeadsOf.f p c = some (if okC p c = true then hd c else -1) := by
  unfold impl_HeadsOf.f
  rw [isCrowd_eq]
  simp only [Option.bind_some]
  by_cases h : okC p c = true
  · have h' := okC_lt h
    simp only [h, iHeads_eq h'.2.2.1 h'.2.2.2.1, Option.bind_some, Bool.not_true, if_true, if_false, Bool.false_eq_true]
  · simp only [h, Bool.not_false, if_true, if_false, Bool.false_eq_true]

theorem decides_eq {m c : Int} (q : Int) (h0 : 0 ≤ m) (h1 : m < 64) (h2 : 0 ≤ c) (h3 : c < 64) : impl_decides.f m q c = some (decide (hd (band m c) ≥ q)) := by
  have := band_lt h0 h1 h2 h3
  unfold impl_decides.f
  rw [iHeads_eq this.1 this.2.2.2]; rfl

theorem iDecidesOk_eq (p m q c : Int) : impl_DecidesOk.f p m q c = some (okB p m q && okC p c && decide (hd (band m c) ≥ q)) := by
  unfold impl_DecidesOk.f
  rw [isBody_eq, isCrowd_eq]
  simp only [Option.bind_some]
  by_cases h : okB p m q = true
  · have hb := okB_iff.1 h
    have h' := okC_lt hb.1
    by_cases hc : okC p c = true
    · have h2 := okC_lt hc
      rw [if_pos h, if_pos hc, decides_eq q h'.2.2.1 h'.2.2.2.1 h2.2.2.1 h2.2.2.2.1, h, hc]
      simp
    · rw [if_pos h, if_neg hc]; simp [hc]
  · rw [if_neg h]; simp [h]

/-- What a draw gives. -/
theorem pick {l : List Int} (hl : l.length ≤ 2000) (hb : ∀ x ∈ l, 0 ≤ x ∧ x ≤ 255) (p : Int) (hp : 0 ≤ p) (hp' : p ≤ 1000000) (n : Int) :
    ∃ x, (∀ k, 1 ≤ k → spec_l20Rd_pick.f k l p n = some (x, p + 1)) ∧ 0 ≤ x ∧ (1 ≤ n → x < n) := by
  have key : ∃ x, spec_l20Rd_pick.f 1 l p n = some (x, p + 1) ∧ 0 ≤ x ∧ (1 ≤ n → x < n) := by
    have hp1 : wrap64 (p + 1) = p + 1 := w64 (by omega) (by omega)
    have hp2 : wrap64 (p + 1 - 1) = p := by rw [w64 (by omega) (by omega)]; omega
    unfold spec_l20Rd_pick.f
    rw [hp1]
    by_cases hn : n < 1
    · rw [if_pos hn]
      exact ⟨0, by simp [spec_l20Rd_pick.j0], by omega, by omega⟩
    · rw [if_neg hn]
      by_cases h0 : l.length = 0
      · exact ⟨0, by simp [spec_l20Rd_pick.j0, h0], by omega, by omega⟩
      · have hf : ((l.length : Int) == 0) = false := beq_eq_false_iff_ne.mpr (by omega)
        have hrd : ∀ i : Int, 0 ≤ rd l i ∧ rd l i ≤ 255 := by
          intro i
          unfold rd
          by_cases hi : i.toNat < l.length
          · rw [List.getD_eq_getElem?_getD, List.getElem?_eq_getElem hi, Option.getD_some]; exact hb _ (List.getElem_mem hi)
          · rw [List.getD_eq_getElem?_getD, List.getElem?_eq_none (by omega), Option.getD_none]; omega
        have hmod : ∀ x : Int, 0 ≤ x → 0 ≤ Int.tmod x n ∧ Int.tmod x n < n := fun x hx => ⟨Int.tmod_nonneg _ hx, Int.tmod_lt_of_pos _ (by omega)⟩
        simp only [spec_l20Rd_pick.j0, hf, hp2, if_false, Bool.false_eq_true]
        rw [if_pos (show 0 ≤ p from hp)]
        by_cases hlt : p < (l.length : Int)
        · have hr := hrd p
          have hm := hmod (rd l p) hr.1
          refine ⟨Int.tmod (rd l p) n, ?_, hm.1, fun _ => hm.2⟩
          rw [if_pos hlt, if_neg (by omega), w64 (x := rd l p) (by omega) (by omega)]
        · have hL : (0 : Int) < l.length := by omega
          rw [if_neg hlt, if_neg (by omega)]
          have e1 : Int.tmod p l.length = p % l.length := Int.tmod_eq_emod_of_nonneg hp
          have e2 : wrap64 (wrap64 (p * 7) + 3) = p * 7 + 3 := by rw [w64 (x := p * 7) (by omega) (by omega), w64 (by omega) (by omega)]
          have e3 : Int.tmod (p * 7 + 3) l.length = (p * 7 + 3) % l.length := Int.tmod_eq_emod_of_nonneg (by omega)
          have b1 := Int.emod_nonneg p (show (l.length : Int) ≠ 0 by omega)
          have b2 := Int.emod_lt_of_pos p hL
          have b3 := Int.emod_nonneg (p * 7 + 3) (show (l.length : Int) ≠ 0 by omega)
          have b4 := Int.emod_lt_of_pos (p * 7 + 3) hL
          rw [e1, e2, e3, if_pos b1, if_pos b2, if_pos b3, if_pos b4, if_neg (by omega)]
          have r1 := hrd (p % l.length)
          have r2 := hrd ((p * 7 + 3) % l.length)
          have e4 : Int.tdiv p l.length = p / l.length := Int.tdiv_eq_ediv_of_nonneg hp
          have d1 : 0 ≤ p / (l.length : Int) := Int.ediv_nonneg hp (by omega)
          have d2 : p / (l.length : Int) ≤ p := Int.ediv_le_self _ hp
          rw [e4]
          generalize rd l (p % l.length) = a at *
          generalize rd l ((p * 7 + 3) % l.length) = b at *
          generalize p / (l.length : Int) = c at *
          have s : wrap64 (wrap64 (wrap64 (wrap64 (wrap64 a * 131) + wrap64 (wrap64 b * 1117)) + wrap64 (p * 29)) + wrap64 (wrap64 c * 53)) = a * 131 + b * 1117 + p * 29 + c * 53 := by
            rw [w64 (x := a) (by omega) (by omega), w64 (x := b) (by omega) (by omega), w64 (x := c) (by omega) (by omega), w64 (x := a * 131) (by omega) (by omega), w64 (x := b * 1117) (by omega) (by omega),
              w64 (x := a * 131 + b * 1117) (by omega) (by omega), w64 (x := p * 29) (by omega) (by omega), w64 (x := a * 131 + b * 1117 + p * 29) (by omega) (by omega), w64 (x := c * 53) (by omega) (by omega), w64 (by omega) (by omega)]
          rw [s]
          have t0 : 0 ≤ a * 131 + b * 1117 + p * 29 + c * 53 := by omega
          have t1 : a * 131 + b * 1117 + p * 29 + c * 53 < 4611686018427387904 := by omega
          generalize a * 131 + b * 1117 + p * 29 + c * 53 = x at *
          rw [show Int.tdiv x 64 = x / 64 from Int.tdiv_eq_ediv_of_nonneg t0, w64 (x := x / 64) (by omega) (by omega)]
          have hx := bxor_ge (a := x) (b := x / 64) t0 (by omega) t1 (by omega)
          have hm := hmod _ hx.1
          exact ⟨_, rfl, hm.1, fun _ => hm.2⟩
  obtain ⟨x, hx, h0, h1⟩ := key
  exact ⟨x, fun k hk => at_rounds (spec_l20Rd_pick.mono l p n) hk hx, h0, h1⟩

theorem odd_eq {l : List Int} (hl : l.length ≤ 2000) (hb : ∀ x ∈ l, 0 ≤ x ∧ x ≤ 255) (p : Int) (hp : 0 ≤ p) (hp' : p ≤ 900000) (n : Int) (hn : 1 ≤ n) (hn' : n ≤ 1000) :
    ∃ b, (∀ k, 1 ≤ k → spec_l20Rd_odd.f k l p n = some (b, p + 1)) := by
  obtain ⟨A, h1, a0, a1⟩ := pick hl hb p hp (by omega) n
  refine ⟨A == n - 1, fun k hk => ?_⟩
  unfold spec_l20Rd_odd.f
  rw [if_pos (show n > 0 by omega), h1 k hk, Option.bind_some]; dsimp only
  rw [w1s (by omega) (by omega)]

theorem drawBody {l : List Int} (hl : l.length ≤ 2000) (hb : ∀ x ∈ l, 0 ≤ x ∧ x ≤ 255) (p : Int) (hp : 0 ≤ p) (hp' : p ≤ 800000) (n : Int) (hn : 1 ≤ n) (hn' : n ≤ 1000) :
    ∃ np m q p', (∀ k, 8 ≤ k → spec_l20Body.f k l p n = some (np, m, q, p')) ∧ 0 ≤ p' ∧ p' ≤ p + 10 := by
  suffices h : ∃ np m q p', spec_l20Body.f 8 l p n = some (np, m, q, p') ∧ 0 ≤ p' ∧ p' ≤ p + 10 by
    obtain ⟨np, m, q, p', h, h0, h1⟩ := h
    exact ⟨np, m, q, p', fun k hk => at_rounds (spec_l20Body.mono l p n) hk h, h0, h1⟩
  obtain ⟨A, h1, a0, a1⟩ := pick hl hb p (by omega) (by omega) 6
  replace a1 := a1 (by omega)
  have hfu := full_le (p := 1 + A) (by omega) (by omega)
  obtain ⟨M, h2, m0, m1⟩ := pick hl hb (p + 1) (by omega) (by omega) (full (1 + A))
  replace m1 := m1 (by omega)
  obtain ⟨Q, h3, q0, q1⟩ := pick hl hb (p + 1 + 1) (by omega) (by omega) (hd (1 + M))
  obtain ⟨b, h4⟩ := odd_eq hl hb (p + 1 + 1 + 1) (by omega) (by omega) n hn hn'
  obtain ⟨C, h5, c0, c1⟩ := pick hl hb (p + 1 + 1 + 1 + 1) (by omega) (by omega) 3
  obtain ⟨D, h6, d0, d1⟩ := pick hl hb (p + 1 + 1 + 1 + 1 + 1) (by omega) (by omega) 2
  replace d1 := d1 (by omega)
  unfold spec_l20Body.f
  rw [h1 8 (by omega), Option.bind_some]; dsimp only
  rw [w1 a0 (by omega), if_pos (by omega), fullw (by omega) (by omega), h2 8 (by omega), Option.bind_some]; dsimp only
  rw [w1 m0 (by omega), sHeads_eq 8 (by omega) (by omega) (by omega), Option.bind_some, h3 8 (by omega), Option.bind_some]; dsimp only
  rw [h4 8 (by omega), Option.bind_some]; dsimp only
  cases b with
  | false => rw [if_neg (by simp)]; exact ⟨_, _, _, _, rfl, by omega, by omega⟩
  | true =>
    rw [if_pos rfl, h5 8 (by omega), Option.bind_some]; dsimp only
    by_cases e0 : C = 0
    · rw [if_pos e0, Option.bind_some, Option.bind_some, h6 8 (by omega), Option.bind_some]; dsimp only
      rw [if_pos d0, if_pos (by simp; omega)]; exact ⟨_, _, _, _, rfl, by omega, by omega⟩
    · rw [if_neg e0]
      by_cases e1 : C = 1
      · rw [if_pos e1]; exact ⟨_, _, _, _, rfl, by omega, by omega⟩
      · rw [if_neg e1, Option.bind_some, h6 8 (by omega), Option.bind_some]; dsimp only
        rw [if_pos d0, if_pos (by simp; omega)]; exact ⟨_, _, _, _, rfl, by omega, by omega⟩

/-- The bytes of a draw: at most 2000. -/
theorem open_eq (l : List Int) : spec_l20Open.f l = some (l.take 2000, 0) := by
  unfold spec_l20Open.f
  by_cases h : (l.length : Int) > 2000
  · rw [if_pos h, if_pos (by omega)]
  · rw [if_neg h, List.take_of_length_le (by omega)]
theorem open_len (l : List Int) : (l.take 2000).length ≤ 2000 := by simp; omega
theorem open_wf {l : List Int} (h : ∀ x ∈ l, (Lit.int .u8 x).wf = true) : ∀ x ∈ l.take 2000, 0 ≤ x ∧ x ≤ 255 := fun x hx => wf_u8 (h x (List.mem_of_mem_take hx))

theorem iCrowdOk_eq (p c : Int) : impl_CrowdOk.f p c = some (okC p c) := by
  unfold impl_CrowdOk.f; rw [isCrowd_eq]; rfl

theorem alive_eq : laws_alive.f = some true := by
  unfold laws_alive.f
  rw [iCrowdOk_eq, iCrowdOk_eq]; decide

theorem l1_eq {p m q : Int} {L D : List Int} {i : Nat} (hi : i < L.length) (hL : L.length ≤ 64) (hD : D.length ≤ 64) (hap : ∀ j (h : j < D.length), band L[i] D[j] ≠ 0) {K : Nat} (H : ∀ k', K ≤ k' → laws_FnDecidingOf.l0 k' p L D ((i + 1 : Nat) : Int) m q = some true) (d : Nat) : ∀ (j k : Nat), j + d = D.length → K + d + 1 ≤ k → laws_FnDecidingOf.l1 k p L D (i : Int) (j : Int) m q = some true := by
  have ew : ∀ n : Nat, n ≤ 64 → wrap64 ((n : Int) + 1) = ((n + 1 : Nat) : Int) := fun n hn => by rw [wr (by omega) (by omega)]; omega
  induction d with
  | zero =>
    intro j k hj hk
    obtain ⟨k, rfl⟩ : ∃ n, k = n + 1 := ⟨k - 1, by omega⟩
    rw [laws_FnDecidingOf.l1, if_neg (by omega), ew i (by omega)]
    exact H k (by omega)
  | succ d ih =>
    intro j k hj hk
    obtain ⟨k, rfl⟩ : ∃ n, k = n + 1 := ⟨k - 1, by omega⟩
    have hj' : j < D.length := by omega
    rw [laws_FnDecidingOf.l1, if_pos (by omega), if_pos (by omega), if_pos (by omega), if_pos (by omega), rd_at hi, rd_at hj', if_neg (hap j hj'), ew j (by omega)]
    exact ih (j + 1) k (by omega) (by omega)
theorem l0_eq {p m q : Int} {L D : List Int} (hL : L.length ≤ 64) (hD : D.length ≤ 64) (h0 : L ≠ []) (h1 : D ≠ []) (hB : okB p m q = true) (hp : L.Pairwise (· < ·)) (hin : ∀ x ∈ L, okC p x = true ∧ band x m = x ∧ hd x = q) (hap : ∀ x ∈ L, ∀ y ∈ D, band x y ≠ 0) (d : Nat) : ∀ (i k : Nat), i + d = L.length → 100 * d + 100 ≤ k → laws_FnDecidingOf.l0 k p L D (i : Int) m q = some true := by
  induction d with
  | zero =>
    intro i k hi hk
    obtain ⟨k, rfl⟩ : ∃ n, k = n + 1 := ⟨k - 1, by omega⟩
    have a0 := List.length_pos_iff.2 h0
    have a1 := List.length_pos_iff.2 h1
    rw [laws_FnDecidingOf.l0, if_neg (by omega), ascend_eq (by omega) hp k (by omega), Option.bind_some, if_pos rfl, if_pos (by omega), decide_eq_true (by omega)]
  | succ d ih =>
    intro i k hi hk
    obtain ⟨k, rfl⟩ : ∃ n, k = n + 2 := ⟨k - 2, by omega⟩
    have hi' : i < L.length := by omega
    obtain ⟨g1, g2, g3⟩ := hin _ (List.getElem_mem hi')
    rw [laws_FnDecidingOf.l0, if_pos (by omega), if_pos (by omega), rd_at hi', iHeadsOf_eq, if_pos g1, Option.bind_some, if_pos g3, iDecidesOk_eq, Option.bind_some, hB, g1, band_comm m, g2, g3, decide_eq_true (show q ≥ q by omega), laws_FnDecidingOf.j1, if_neg (by simp)]
    exact l1_eq hi' hL hD (fun j h => hap _ (List.getElem_mem hi') _ (List.getElem_mem h)) (K := 100 * d + 100) (fun k' hk' => ih (i + 1) k' (by omega) hk') D.length 0 k (by omega) (by omega)
theorem main : laws_FnDecidingOf.Pure := by
  intro l _ _ h
  refine ⟨8000, ?_⟩
  unfold laws_FnDecidingOf.f
  by_cases hl : (l.length : Int) > 1048576
  · rw [if_pos hl]
  rw [if_neg hl]
  obtain ⟨p, m, q, p', hdr, _, _⟩ := drawBody (open_len l) (open_wf h) 0 (by omega) (by omega) 9 (by omega) (by omega)
  rw [show spec_DrawDecidingOf.f 8000 l = some (p, m, q) from by unfold spec_DrawDecidingOf.f; rw [open_eq, Option.bind_some]; dsimp only; rw [hdr 8000 (by omega), Option.bind_some], Option.bind_some]; dsimp only
  have hr := Crowds.dec_len p m q
  rw [impl_DecidingOf_eq p m q 8000 (by omega), Option.bind_some, spec_DecidingOf_eq p m q 8000 (by omega), Option.bind_some, sameInts_eq (by omega) 8000 (by omega), Option.bind_some, if_pos rfl, sBodyOk_eq 8000 (by omega), Option.bind_some]
  by_cases hB : okB p m q = true
  · obtain ⟨hm, q1, qm⟩ := okB_iff.1 hB
    obtain ⟨h1, h6, m0, m64, mf⟩ := okC_lt hm
    have hf := full_le h1 h6
    have hB2 : okB p m (hd m + 1 - q) = true := okB_iff.2 ⟨hm, by omega, by omega⟩
    have hr2 := Crowds.dec_len p m (hd m + 1 - q)
    rw [if_pos hB, iDualBody_eq, if_pos hB, Option.bind_some]; dsimp only
    rw [impl_DecidingOf_eq p m (hd m + 1 - q) 8000 (by omega), Option.bind_some]
    refine l0_eq hr hr2 (Crowds.dec_some hB) (Crowds.dec_some hB2) hB (Crowds.dec_lt p m q) (fun x hx => ?_) (fun x hx y hy => ?_) (Crowds.decC p m q).length 0 8000 (by omega) (by omega)
    · obtain ⟨a, b, c⟩ := (Crowds.dec_mem hB x).1 hx
      exact ⟨okC_of h1 h6 a.1 a.2, b, c⟩
    · obtain ⟨a, b, c⟩ := (Crowds.dec_mem hB x).1 hx
      obtain ⟨a', b', c'⟩ := (Crowds.dec_mem hB2 y).1 hy
      exact Crowds.meet m0 m64 a.1 (by omega) a'.1 (by omega) b b' (by omega)
  · have e : Crowds.decC p m q = [] := by rw [Crowds.dec_eq, if_neg hB]
    rw [if_neg hB, e, if_pos (by simp), alive_eq, Option.bind_some]

end Go.Proofs.Ytcflipknnijmdaa.Pure.fnDecidingOf
namespace Go.Proofs.Ytcflipknnijmdaa.Pure
open Go.Proofs.Ytcflipknnijmdaa.PFnDecidingOf
theorem FnDecidingOf : laws_FnDecidingOf.Pure := fnDecidingOf.main
end Go.Proofs.Ytcflipknnijmdaa.Pure
