/- The least deciding crowds of all quotas are together one fewer than 2 to the power of the number of members, and of a quota as many as of what lacks from it; for every drawn input. No condition. -/
import Derived.Test.YtcflipknnijmdaaPFnQuotaCountx4
import Derived.Test.YtcflipknnijmdaaBase
import Derived.Test.YtcflipknnijmdaaBaseHouse
set_option linter.unusedVariables false
set_option linter.unusedSimpArgs false
namespace Go.Proofs.Ytcflipknnijmdaa.Pure.fnQuotaCount
open Go.RowKit Go.Proofs.Ytcflipknnijmdaa.PFnQuotaCount Go.Proofs.YtcflipknnijmdaaW.PrintWords Go.Proofs.YtcflipknnijmdaaW.PrintLast Go.Proofs.YtcflipknnijmdaaW.PrintMore Go.Proofs.Ytcflipknnijmdaa.Base

theorem l1In_eq (n a b : Int) : spec_l1In.f n a b = some (decide (a ≤ n ∧ n ≤ b)) := by
  unfold spec_l1In.f
  by_cases h : n ≥ a
  · rw [if_pos h]; congr 1; simp [show a ≤ n from h]
  · rw [if_neg h]; congr 1; simp; omega
theorem sCrowdOk_eq (p c : Int) : spec_CrowdOk.f p c = some (okC p c) := by
  unfold spec_CrowdOk.f
  rw [l1In_eq]
  simp only [Option.bind_some]
  by_cases h : 1 ≤ p ∧ p ≤ 6
  · have hf := full_le h.1 h.2
    rw [if_pos (by simpa using h), if_pos (by omega), shl1 (by omega) h.2, l1In_eq, w64 (by omega) (by omega)]
    simp only [Option.bind_some]
    congr 1
    rw [Bool.eq_iff_iff, okC_iff]; simp; omega
  · rw [if_neg (by simpa using h)]; congr 1
    symm; rw [Bool.eq_false_iff]; intro hc; rw [okC_iff] at hc; omega

theorem l1Heads_all : ∀ c : Fin 64, spec_l1Heads.f 7 c.val = some (hd c.val) := by decide +kernel
theorem sHeads_eq {c : Int} (k : Nat) (hk : 7 ≤ k) (h0 : 0 ≤ c) (h1 : c < 64) : spec_l1Heads.f k c = some (hd c) :=
  at_rounds (spec_l1Heads.mono c) hk (all64 (P := fun c => spec_l1Heads.f 7 c = some (hd c)) l1Heads_all c h0 h1)

theorem sBodyOk_eq (k : Nat) (hk : 7 ≤ k) (p m q : Int) : spec_BodyOk.f k p m q = some (okB p m q) := by
  unfold spec_BodyOk.f okB
  rw [sCrowdOk_eq]
  simp only [Option.bind_some]
  by_cases h : okC p m = true
  · have h' := okC_lt h
    rw [if_pos h, h, sHeads_eq k hk h'.2.2.1 h'.2.2.2.1]
    simp only [Option.bind_some, l1In_eq, Bool.true_and]
  · rw [if_neg h]; simp [h]

theorem arePeople_eq (p : Int) : impl_arePeople.f p = some (decide (1 ≤ p ∧ p ≤ 6)) := by
  unfold impl_arePeople.f
  by_cases h : p ≥ 1
  · rw [if_pos h]; congr 1; simp [show 1 ≤ p from h]
  · rw [if_neg h]; congr 1; simp; omega
theorem isCrowd_eq (p c : Int) : impl_isCrowd.f p c = some (okC p c) := by
  unfold impl_isCrowd.f
  rw [arePeople_eq]
  simp only [Option.bind_some]
  by_cases h : 1 ≤ p ∧ p ≤ 6
  · rw [if_pos (by simpa using h)]
    by_cases h0 : c ≥ 0
    · rw [if_pos h0, if_pos (by omega), shl1 (by omega) h.2]
      congr 1
      rw [Bool.eq_iff_iff, okC_iff]; simp; omega
    · rw [if_neg h0]; congr 1
      symm; rw [Bool.eq_false_iff]; intro hc; rw [okC_iff] at hc; omega
  · rw [if_neg (by simpa using h)]; congr 1
    symm; rw [Bool.eq_false_iff]; intro hc; rw [okC_iff] at hc; omega

theorem heads_all : ∀ c : Fin 64, impl_headsOf.f c.val = some (hd c.val) := by decide +kernel
theorem iHeads_eq {c : Int} (h0 : 0 ≤ c) (h1 : c < 64) : impl_headsOf.f c = some (hd c) := all64 (P := fun c => impl_headsOf.f c = some (hd c)) heads_all c h0 h1

theorem isBody_eq (p m q : Int) : impl_isBody.f p m q = some (okB p m q) := by
  unfold impl_isBody.f okB
  rw [isCrowd_eq]
  simp only [Option.bind_some]
  by_cases h : okC p m = true
  · have h' := okC_lt h
    rw [if_pos h, h]
    by_cases hq : q ≥ 1
    · rw [if_pos hq, iHeads_eq h'.2.2.1 h'.2.2.2.1]
      simp [show 1 ≤ q from hq]
    · rw [if_neg hq]; congr 1; simp; omega
  · rw [if_neg h]; simp [h]

theorem iBodyOk_eq (p m q : Int) : impl_BodyOk.f p m q = some (okB p m q) := by
  unfold impl_BodyOk.f; rw [isBody_eq]; rfl

theorem iHeadsOf_eq (p c : Int) : impl_HeadsOf.f p c = some (if okC p c = true then hd c else -1) := by
  unfold impl_HeadsOf.f
  rw [isCrowd_eq]
  simp only [Option.bind_some]
  by_cases h : okC p c = true
  · have h' := okC_lt h
    simp only [h, iHeads_eq h'.2.2.1 h'.2.2.2.1, Option.bind_some, Bool.not_true, if_true, if_false, Bool.false_eq_true]
  · simp only [h, Bool.not_false, if_true, if_false, Bool.false_eq_true]

/-- What a draw gives. -/
theorem pick {l : List Int} (hl : l.length ≤ 2000) (hb : ∀ x ∈ l, 0 ≤ x ∧ x ≤ 255) (p : Int) (hp : 0 ≤ p) (hp' : p ≤ 1000000) (n : Int) :
    ∃ x, (∀ k, 1 ≤ k → spec_l20Rd_pick.f k l p n = some (x, p + 1)) ∧ 0 ≤ x ∧ (1 ≤ n → x < n) := by
  have key : ∃ x, spec_l20Rd_pick.f 1 l p n = some (x, p + 1) ∧ 0 ≤ x ∧ (1 ≤ n → x < n) := by
    have hp1 : wrap64 (p + 1) = p + 1 := w64 (by omega) (by omega)
    have hp2 : wrap64 (p + 1 - 1) = p := by rw [w64 (by omega) (by omega)]; omega
    unfold spec_l20Rd_pick.f
    rw [hp1]
    by_cases hn : n < 1
    · rw [if_pos hn]
      exact ⟨0, by simp [spec_l20Rd_pick.j0], by omega, by omega⟩
    · rw [if_neg hn]
      by_cases h0 : l.length = 0
      · exact ⟨0, by simp [spec_l20Rd_pick.j0, h0], by omega, by omega⟩
      · have hf : ((l.length : Int) == 0) = false := beq_eq_false_iff_ne.mpr (by omega)
        have hrd : ∀ i : Int, 0 ≤ rd l i ∧ rd l i ≤ 255 := by
          intro i
          unfold rd
          by_cases hi : i.toNat < l.length
          · rw [List.getD_eq_getElem?_getD, List.getElem?_eq_getElem hi, Option.getD_some]; exact hb _ (List.getElem_mem hi)
          · rw [List.getD_eq_getElem?_getD, List.getElem?_eq_none (by omega), Option.getD_none]; omega
        have hmod : ∀ x : Int, 0 ≤ x → 0 ≤ Int.tmod x n ∧ Int.tmod x n < n := fun x hx => ⟨Int.tmod_nonneg _ hx, Int.tmod_lt_of_pos _ (by omega)⟩
        simp only [spec_l20Rd_pick.j0, hf, hp2, if_false, Bool.false_eq_true]
        rw [if_pos (show 0 ≤ p from hp)]
        by_cases hlt : p < (l.length : Int)
        · have hr := hrd p
          have hm := hmod (rd l p) hr.1
          refine ⟨Int.tmod (rd l p) n, ?_, hm.1, fun _ => hm.2⟩
          rw [if_pos hlt, if_neg (by omega), w64 (x := rd l p) (by omega) (by omega)]
        · have hL : (0 : Int) < l.length := by omega
          rw [if_neg hlt, if_neg (by omega)]
          have e1 : Int.tmod p l.length = p % l.length := Int.tmod_eq_emod_of_nonneg hp
          have e2 : wrap64 (wrap64 (p * 7) + 3) = p * 7 + 3 := by rw [w64 (x := p * 7) (by omega) (by omega), w64 (by omega) (by omega)]
          have e3 : Int.tmod (p * 7 + 3) l.length = (p * 7 + 3) % l.length := Int.tmod_eq_emod_of_nonneg (by omega)
          have b1 := Int.emod_nonneg p (show (l.length : Int) ≠ 0 by omega)
          have b2 := Int.emod_lt_of_pos p hL
          have b3 := Int.emod_nonneg (p * 7 + 3) (show (l.length : Int) ≠ 0 by omega)
          have b4 := Int.emod_lt_of_pos (p * 7 + 3) hL
          rw [e1, e2, e3, if_pos b1, if_pos b2, if_pos b3, if_pos b4, if_neg (by omega)]
          have r1 := hrd (p % l.length)
          have r2 := hrd ((p * 7 + 3) % l.length)
          have e4 : Int.tdiv p l.length = p / l.length := Int.tdiv_eq_ediv_of_nonneg hp
          have d1 : 0 ≤ p / (l.length : Int) := Int.ediv_nonneg hp (by omega)
          have d2 : p / (l.length : Int) ≤ p := Int.ediv_le_self _ hp
          rw [e4]
          generalize rd l (p % l.length) = a at *
          generalize rd l ((p * 7 + 3) % l.length) = b at *
          generalize p / (l.length : Int) = c at *
          have s : wrap64 (wrap64 (wrap64 (wrap64 (wrap64 a * 131) + wrap64 (wrap64 b * 1117)) + wrap64 (p * 29)) + wrap64 (wrap64 c * 53)) = a * 131 + b * 1117 + p * 29 + c * 53 := by
            rw [w64 (x := a) (by omega) (by omega), w64 (x := b) (by omega) (by omega), w64 (x := c) (by omega) (by omega), w64 (x := a * 131) (by omega) (by omega), w64 (x := b * 1117) (by omega) (by omega),
              w64 (x := a * 131 + b * 1117) (by omega) (by omega), w64 (x := p * 29) (by omega) (by omega), w64 (x := a * 131 + b * 1117 + p * 29) (by omega) (by omega), w64 (x := c * 53) (by omega) (by omega), w64 (by omega) (by omega)]
          rw [s]
          have t0 : 0 ≤ a * 131 + b * 1117 + p * 29 + c * 53 := by omega
          have t1 : a * 131 + b * 1117 + p * 29 + c * 53 < 4611686018427387904 := by omega
          generalize a * 131 + b * 1117 + p * 29 + c * 53 = x at *
          rw [show Int.tdiv x 64 = x / 64 from Int.tdiv_eq_ediv_of_nonneg t0, w64 (x := x / 64) (by omega) (by omega)]
          have hx := bxor_ge (a := x) (b := x / 64) t0 (by omega) t1 (by omega)
          have hm := hmod _ hx.1
          exact ⟨_, rfl, hm.1, fun _ => hm.2⟩
  obtain ⟨x, hx, h0, h1⟩ := key
  exact ⟨x, fun k hk => at_rounds (spec_l20Rd_pick.mono l p n) hk hx, h0, h1⟩

theorem odd_eq {l : List Int} (hl : l.length ≤ 2000) (hb : ∀ x ∈ l, 0 ≤ x ∧ x ≤ 255) (p : Int) (hp : 0 ≤ p) (hp' : p ≤ 900000) (n : Int) (hn : 1 ≤ n) (hn' : n ≤ 1000) :
    ∃ b, (∀ k, 1 ≤ k → spec_l20Rd_odd.f k l p n = some (b, p + 1)) := by
  obtain ⟨A, h1, a0, a1⟩ := pick hl hb p hp (by omega) n
  refine ⟨A == n - 1, fun k hk => ?_⟩
  unfold spec_l20Rd_odd.f
  rw [if_pos (show n > 0 by omega), h1 k hk, Option.bind_some]; dsimp only
  rw [w1s (by omega) (by omega)]

theorem drawBody {l : List Int} (hl : l.length ≤ 2000) (hb : ∀ x ∈ l, 0 ≤ x ∧ x ≤ 255) (p : Int) (hp : 0 ≤ p) (hp' : p ≤ 800000) (n : Int) (hn : 1 ≤ n) (hn' : n ≤ 1000) :
    ∃ np m q p', (∀ k, 8 ≤ k → spec_l20Body.f k l p n = some (np, m, q, p')) ∧ 0 ≤ p' ∧ p' ≤ p + 10 := by
  suffices h : ∃ np m q p', spec_l20Body.f 8 l p n = some (np, m, q, p') ∧ 0 ≤ p' ∧ p' ≤ p + 10 by
    obtain ⟨np, m, q, p', h, h0, h1⟩ := h
    exact ⟨np, m, q, p', fun k hk => at_rounds (spec_l20Body.mono l p n) hk h, h0, h1⟩
  obtain ⟨A, h1, a0, a1⟩ := pick hl hb p (by omega) (by omega) 6
  replace a1 := a1 (by omega)
  have hfu := full_le (p := 1 + A) (by omega) (by omega)
  obtain ⟨M, h2, m0, m1⟩ := pick hl hb (p + 1) (by omega) (by omega) (full (1 + A))
  replace m1 := m1 (by omega)
  obtain ⟨Q, h3, q0, q1⟩ := pick hl hb (p + 1 + 1) (by omega) (by omega) (hd (1 + M))
  obtain ⟨b, h4⟩ := odd_eq hl hb (p + 1 + 1 + 1) (by omega) (by omega) n hn hn'
  obtain ⟨C, h5, c0, c1⟩ := pick hl hb (p + 1 + 1 + 1 + 1) (by omega) (by omega) 3
  obtain ⟨D, h6, d0, d1⟩ := pick hl hb (p + 1 + 1 + 1 + 1 + 1) (by omega) (by omega) 2
  replace d1 := d1 (by omega)
  unfold spec_l20Body.f
  rw [h1 8 (by omega), Option.bind_some]; dsimp only
  rw [w1 a0 (by omega), if_pos (by omega), fullw (by omega) (by omega), h2 8 (by omega), Option.bind_some]; dsimp only
  rw [w1 m0 (by omega), sHeads_eq 8 (by omega) (by omega) (by omega), Option.bind_some, h3 8 (by omega), Option.bind_some]; dsimp only
  rw [h4 8 (by omega), Option.bind_some]; dsimp only
  cases b with
  | false => rw [if_neg (by simp)]; exact ⟨_, _, _, _, rfl, by omega, by omega⟩
  | true =>
    rw [if_pos rfl, h5 8 (by omega), Option.bind_some]; dsimp only
    by_cases e0 : C = 0
    · rw [if_pos e0, Option.bind_some, Option.bind_some, h6 8 (by omega), Option.bind_some]; dsimp only
      rw [if_pos d0, if_pos (by simp; omega)]; exact ⟨_, _, _, _, rfl, by omega, by omega⟩
    · rw [if_neg e0]
      by_cases e1 : C = 1
      · rw [if_pos e1]; exact ⟨_, _, _, _, rfl, by omega, by omega⟩
      · rw [if_neg e1, Option.bind_some, h6 8 (by omega), Option.bind_some]; dsimp only
        rw [if_pos d0, if_pos (by simp; omega)]; exact ⟨_, _, _, _, rfl, by omega, by omega⟩

/-- The bytes of a draw: at most 2000. -/
theorem open_eq (l : List Int) : spec_l20Open.f l = some (l.take 2000, 0) := by
  unfold spec_l20Open.f
  by_cases h : (l.length : Int) > 2000
  · rw [if_pos h, if_pos (by omega)]
  · rw [if_neg h, List.take_of_length_le (by omega)]
theorem open_len (l : List Int) : (l.take 2000).length ≤ 2000 := by simp; omega
theorem open_wf {l : List Int} (h : ∀ x ∈ l, (Lit.int .u8 x).wf = true) : ∀ x ∈ l.take 2000, 0 ≤ x ∧ x ≤ 255 := fun x hx => wf_u8 (h x (List.mem_of_mem_take hx))

theorem iCrowdOk_eq (p c : Int) : impl_CrowdOk.f p c = some (okC p c) := by
  unfold impl_CrowdOk.f; rw [isCrowd_eq]; rfl

theorem alive_eq : laws_alive.f = some true := by
  unfold laws_alive.f
  rw [iCrowdOk_eq, iCrowdOk_eq]; decide

theorem fin {p m q : Int} (hB : okB p m q = true) (k : Nat) (hk : 250 ≤ k) (i : Int) (hi : hd m < i) : laws_FnQuotaCount.l0 (k + 1) p (hd m) ((Crowds.chooses (hd m).toNat (hd m).toNat : Nat) : Int) i m q = some true := by
  obtain ⟨hm, q1, qm⟩ := okB_iff.1 hB
  obtain ⟨h1, h6, m0, m64, mf⟩ := okC_lt hm
  have h7 := hd_le m0 m64
  have hf := full_le (p := hd m) (by omega) (by omega)
  have s := Crowds.chooses_all ⟨(hd m).toNat, by omega⟩
  simp only at s
  have hsum : ((Crowds.chooses (hd m).toNat (hd m).toNat : Nat) : Int) = wrap64 (shl .i64 1 (hd m) - 1) := by
    rw [fullw (by omega) (by omega)]
    unfold full
    have : ((2 ^ (hd m).toNat : Nat) : Int) = 2 ^ (hd m).toNat := by simp
    omega
  have own := Crowds.dec_many hB
  rw [laws_FnQuotaCount.l0, if_neg (by omega), impl_DecidingOf_eq p m q k (by omega), Option.bind_some]
  by_cases hlt : q < hd m
  · have hB2 : okB p m (hd m - q) = true := okB_iff.2 ⟨hm, by omega, by omega⟩
    have other := Crowds.dec_many hB2
    have sy := Crowds.choose_sym ⟨(hd m).toNat, by omega⟩ ⟨q.toNat, by omega⟩ (by simp only; omega)
    simp only at sy
    rw [show (hd m).toNat - q.toNat = (hd m - q).toNat from by omega] at sy
    rw [if_pos hlt, w64 (x := hd m - q) (by omega) (by omega), impl_DecidingOf_eq p m (hd m - q) k (by omega), Option.bind_some, alive_eq, Option.bind_some, if_pos rfl, if_pos (by omega), if_pos hsum, own, other, sy]
    simp
  · have e : q = hd m := by omega
    have sf := Crowds.choose_self ⟨(hd m).toNat, by omega⟩
    simp only at sf
    rw [if_neg hlt, alive_eq, Option.bind_some, if_pos rfl, if_pos (by omega), if_pos hsum, own, e, sf]
    simp
theorem l0_eq {p m q : Int} (hB : okB p m q = true) (d : Nat) : ∀ (i k : Nat), i + d = (hd m).toNat → d + 300 ≤ k → laws_FnQuotaCount.l0 k p (hd m) ((Crowds.chooses (hd m).toNat i : Nat) : Int) ((i + 1 : Nat) : Int) m q = some true := by
  obtain ⟨hm, q1, qm⟩ := okB_iff.1 hB
  obtain ⟨h1, h6, m0, m64, mf⟩ := okC_lt hm
  have h7 := hd_le m0 m64
  induction d with
  | zero =>
    intro i k hi hk
    obtain ⟨k, rfl⟩ : ∃ n, k = n + 1 := ⟨k - 1, by omega⟩
    have e : i = (hd m).toNat := by omega
    rw [e]
    exact fin hB k (by omega) _ (by omega)
  | succ d ih =>
    intro i k hi hk
    obtain ⟨k, rfl⟩ : ∃ n, k = n + 1 := ⟨k - 1, by omega⟩
    have hB2 : okB p m ((i + 1 : Nat) : Int) = true := okB_iff.2 ⟨hm, by omega, by omega⟩
    have n := Crowds.dec_many hB2
    have l1 := Crowds.chooses_le ⟨(hd m).toNat, by omega⟩ ⟨i, by omega⟩
    have l2 := Crowds.dec_len p m ((i + 1 : Nat) : Int)
    simp only at l1
    rw [Int.toNat_natCast] at n
    rw [laws_FnQuotaCount.l0, if_pos (by omega), impl_DecidingOf_eq p m _ k (by omega), Option.bind_some, w64 (x := ((Crowds.chooses (hd m).toNat i : Nat) : Int) + _) (by omega) (by omega), w64 (x := ((i + 1 : Nat) : Int) + 1) (by omega) (by omega), n,
      show ((Crowds.chooses (hd m).toNat i : Nat) : Int) + ((Crowds.choose (hd m).toNat (i + 1) : Nat) : Int) = ((Crowds.chooses (hd m).toNat (i + 1) : Nat) : Int) from by rw [Crowds.chooses]; omega,
      show ((i + 1 : Nat) : Int) + 1 = ((i + 1 + 1 : Nat) : Int) from by omega]
    exact ih (i + 1) k (by omega) (by omega)
theorem main : laws_FnQuotaCount.Pure := by
  intro l _ _ h
  refine ⟨8000, ?_⟩
  unfold laws_FnQuotaCount.f
  by_cases hl : (l.length : Int) > 1048576
  · rw [if_pos hl]
  rw [if_neg hl]
  obtain ⟨p, m, q, p', hdr, _, _⟩ := drawBody (open_len l) (open_wf h) 0 (by omega) (by omega) 9 (by omega) (by omega)
  rw [show spec_DrawCountDeciding.f 8000 l = some (p, m, q) from by unfold spec_DrawCountDeciding.f; rw [open_eq, Option.bind_some]; dsimp only; rw [hdr 8000 (by omega), Option.bind_some], Option.bind_some]; dsimp only
  rw [sBodyOk_eq 8000 (by omega), Option.bind_some]
  by_cases hB : okB p m q = true
  · rw [if_pos hB, iHeadsOf_eq, if_pos (okB_iff.1 hB).1, Option.bind_some]
    exact l0_eq hB (hd m).toNat 0 8000 (by omega) (by have := okC_lt (okB_iff.1 hB).1; have := hd_le this.2.2.1 this.2.2.2.1; omega)
  · rw [if_neg hB, iBodyOk_eq, Option.bind_some]; simp [hB]

end Go.Proofs.Ytcflipknnijmdaa.Pure.fnQuotaCount
namespace Go.Proofs.Ytcflipknnijmdaa.Pure
open Go.Proofs.Ytcflipknnijmdaa.PFnQuotaCount
theorem FnQuotaCount : laws_FnQuotaCount.Pure := fnQuotaCount.main
end Go.Proofs.Ytcflipknnijmdaa.Pure
