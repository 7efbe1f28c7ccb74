/- A body splits exactly if some two of the least deciding crowds have nobody in common, for every drawn input. No condition. -/
import Derived.Test.YtcflipknnijmdaaPFnSplitOkx5
import Derived.Test.YtcflipknnijmdaaBase
import Derived.Test.YtcflipknnijmdaaBaseHouse
set_option linter.unusedVariables false
set_option linter.unusedSimpArgs false
namespace Go.Proofs.Ytcflipknnijmdaa.Pure.fnSplitOk
open Go.RowKit Go.Proofs.Ytcflipknnijmdaa.PFnSplitOk Go.Proofs.YtcflipknnijmdaaW.PrintWords Go.Proofs.YtcflipknnijmdaaW.PrintLast Go.Proofs.YtcflipknnijmdaaW.PrintMore Go.Proofs.Ytcflipknnijmdaa.Base

theorem l1In_eq (n a b : Int) : spec_l1In.f n a b = some (decide (a ≤ n ∧ n ≤ b)) := by
  unfold spec_l1In.f
  by_cases h : n ≥ a
  · rw [if_pos h]; congr 1; simp [show a ≤ n from h]
  · rw [if_neg h]; congr 1; simp; omega
theorem sCrowdOk_eq (p c : Int) : spec_CrowdOk.f p c = some (okC p c) := by
  unfold spec_CrowdOk.f
  rw [l1In_eq]
  simp only [Option.bind_some]
  by_cases h : 1 ≤ p ∧ p ≤ 6
  · have hf := full_le h.1 h.2
    rw [if_pos (by simpa using h), if_pos (by omega), shl1 (by omega) h.2, l1In_eq, w64 (by omega) (by omega)]
    simp only [Option.bind_some]
    congr 1
    rw [Bool.eq_iff_iff, okC_iff]; simp; omega
  · rw [if_neg (by simpa using h)]; congr 1
    symm; rw [Bool.eq_false_iff]; intro hc; rw [okC_iff] at hc; omega

theorem l1Heads_all : ∀ c : Fin 64, spec_l1Heads.f 7 c.val = some (hd c.val) := by decide +kernel
theorem sHeads_eq {c : Int} (k : Nat) (hk : 7 ≤ k) (h0 : 0 ≤ c) (h1 : c < 64) : spec_l1Heads.f k c = some (hd c) :=
  at_rounds (spec_l1Heads.mono c) hk (all64 (P := fun c => spec_l1Heads.f 7 c = some (hd c)) l1Heads_all c h0 h1)

theorem sBodyOk_eq (k : Nat) (hk : 7 ≤ k) (p m q : Int) : spec_BodyOk.f k p m q = some (okB p m q) := by
  unfold spec_BodyOk.f okB
  rw [sCrowdOk_eq]
  simp only [Option.bind_some]
  by_cases h : okC p m = true
  · have h' := okC_lt h
    rw [if_pos h, h, sHeads_eq k hk h'.2.2.1 h'.2.2.2.1]
    simp only [Option.bind_some, l1In_eq, Bool.true_and]
  · rw [if_neg h]; simp [h]

theorem sSplitOk_eq (k : Nat) (hk : 7 ≤ k) (p m q : Int) : spec_SplitOk.f k p m q = some (okB p m q && decide (2 * q ≤ hd m)) := by
  unfold spec_SplitOk.f
  rw [sBodyOk_eq k hk]
  simp only [Option.bind_some]
  by_cases h : okB p m q = true
  · have hb := okB_iff.1 h
    have h' := okC_lt hb.1
    have hh := hd_le h'.2.2.1 h'.2.2.2.1
    rw [if_pos h, sHeads_eq k hk h'.2.2.1 h'.2.2.2.1]
    simp only [Option.bind_some]
    rw [w64 (by omega) (by omega), h, Bool.true_and]
  · rw [if_neg h]; simp [h]

theorem arePeople_eq (p : Int) : impl_arePeople.f p = some (decide (1 ≤ p ∧ p ≤ 6)) := by
  unfold impl_arePeople.f
  by_cases h : p ≥ 1
  · rw [if_pos h]; congr 1; simp [show 1 ≤ p from h]
  · rw [if_neg h]; congr 1; simp; omega
theorem isCrowd_eq (p c : Int) : impl_isCrowd.f p c = some (okC p c) := by
  unfold impl_isCrowd.f
  rw [arePeople_eq]
  simp only [Option.bind_some]
  by_cases h : 1 ≤ p ∧ p ≤ 6
  · rw [if_pos (by simpa using h)]
    by_cases h0 : c ≥ 0
    · rw [if_pos h0, if_pos (by omega), shl1 (by omega) h.2]
      congr 1
      rw [Bool.eq_iff_iff, okC_iff]; simp; omega
    · rw [if_neg h0]; congr 1
      symm; rw [Bool.eq_false_iff]; intro hc; rw [okC_iff] at hc; omega
  · rw [if_neg (by simpa using h)]; congr 1
    symm; rw [Bool.eq_false_iff]; intro hc; rw [okC_iff] at hc; omega

theorem heads_all : ∀ c : Fin 64, impl_headsOf.f c.val = some (hd c.val) := by decide +kernel
theorem iHeads_eq {c : Int} (h0 : 0 ≤ c) (h1 : c < 64) : impl_headsOf.f c = some (hd c) := all64 (P := fun c => impl_headsOf.f c = some (hd c)) heads_all c h0 h1

theorem isBody_eq (p m q : Int) : impl_isBody.f p m q = some (okB p m q) := by
  unfold impl_isBody.f okB
  rw [isCrowd_eq]
  simp only [Option.bind_some]
  by_cases h : okC p m = true
  · have h' := okC_lt h
    rw [if_pos h, h]
    by_cases hq : q ≥ 1
    · rw [if_pos hq, iHeads_eq h'.2.2.1 h'.2.2.2.1]
      simp [show 1 ≤ q from hq]
    · rw [if_neg hq]; congr 1; simp; omega
  · rw [if_neg h]; simp [h]

theorem iSplitOk_eq (p m q : Int) : impl_SplitOk.f p m q = some (okB p m q && decide (2 * q ≤ hd m)) := by
  unfold impl_SplitOk.f
  rw [isBody_eq]
  simp only [Option.bind_some]
  by_cases h : okB p m q = true
  · have hb := okB_iff.1 h
    have h' := okC_lt hb.1
    have hh := hd_le h'.2.2.1 h'.2.2.2.1
    rw [if_pos h, iHeads_eq h'.2.2.1 h'.2.2.2.1]
    simp only [Option.bind_some]
    rw [w64 (by omega) (by omega), h, Bool.true_and]
  · rw [if_neg h]; simp [h]

/-- What a draw gives. -/
theorem pick {l : List Int} (hl : l.length ≤ 2000) (hb : ∀ x ∈ l, 0 ≤ x ∧ x ≤ 255) (p : Int) (hp : 0 ≤ p) (hp' : p ≤ 1000000) (n : Int) :
    ∃ x, (∀ k, 1 ≤ k → spec_l20Rd_pick.f k l p n = some (x, p + 1)) ∧ 0 ≤ x ∧ (1 ≤ n → x < n) := by
  have key : ∃ x, spec_l20Rd_pick.f 1 l p n = some (x, p + 1) ∧ 0 ≤ x ∧ (1 ≤ n → x < n) := by
    have hp1 : wrap64 (p + 1) = p + 1 := w64 (by omega) (by omega)
    have hp2 : wrap64 (p + 1 - 1) = p := by rw [w64 (by omega) (by omega)]; omega
    unfold spec_l20Rd_pick.f
    rw [hp1]
    by_cases hn : n < 1
    · rw [if_pos hn]
      exact ⟨0, by simp [spec_l20Rd_pick.j0], by omega, by omega⟩
    · rw [if_neg hn]
      by_cases h0 : l.length = 0
      · exact ⟨0, by simp [spec_l20Rd_pick.j0, h0], by omega, by omega⟩
      · have hf : ((l.length : Int) == 0) = false := beq_eq_false_iff_ne.mpr (by omega)
        have hrd : ∀ i : Int, 0 ≤ rd l i ∧ rd l i ≤ 255 := by
          intro i
          unfold rd
          by_cases hi : i.toNat < l.length
          · rw [List.getD_eq_getElem?_getD, List.getElem?_eq_getElem hi, Option.getD_some]; exact hb _ (List.getElem_mem hi)
          · rw [List.getD_eq_getElem?_getD, List.getElem?_eq_none (by omega), Option.getD_none]; omega
        have hmod : ∀ x : Int, 0 ≤ x → 0 ≤ Int.tmod x n ∧ Int.tmod x n < n := fun x hx => ⟨Int.tmod_nonneg _ hx, Int.tmod_lt_of_pos _ (by omega)⟩
        simp only [spec_l20Rd_pick.j0, hf, hp2, if_false, Bool.false_eq_true]
        rw [if_pos (show 0 ≤ p from hp)]
        by_cases hlt : p < (l.length : Int)
        · have hr := hrd p
          have hm := hmod (rd l p) hr.1
          refine ⟨Int.tmod (rd l p) n, ?_, hm.1, fun _ => hm.2⟩
          rw [if_pos hlt, if_neg (by omega), w64 (x := rd l p) (by omega) (by omega)]
        · have hL : (0 : Int) < l.length := by omega
          rw [if_neg hlt, if_neg (by omega)]
          have e1 : Int.tmod p l.length = p % l.length := Int.tmod_eq_emod_of_nonneg hp
          have e2 : wrap64 (wrap64 (p * 7) + 3) = p * 7 + 3 := by rw [w64 (x := p * 7) (by omega) (by omega), w64 (by omega) (by omega)]
          have e3 : Int.tmod (p * 7 + 3) l.length = (p * 7 + 3) % l.length := Int.tmod_eq_emod_of_nonneg (by omega)
          have b1 := Int.emod_nonneg p (show (l.length : Int) ≠ 0 by omega)
          have b2 := Int.emod_lt_of_pos p hL
          have b3 := Int.emod_nonneg (p * 7 + 3) (show (l.length : Int) ≠ 0 by omega)
          have b4 := Int.emod_lt_of_pos (p * 7 + 3) hL
          rw [e1, e2, e3, if_pos b1, if_pos b2, if_pos b3, if_pos b4, if_neg (by omega)]
          have r1 := hrd (p % l.length)
          have r2 := hrd ((p * 7 + 3) % l.length)
          have e4 : Int.tdiv p l.length = p / l.length := Int.tdiv_eq_ediv_of_nonneg hp
          have d1 : 0 ≤ p / (l.length : Int) := Int.ediv_nonneg hp (by omega)
          have d2 : p / (l.length : Int) ≤ p := Int.ediv_le_self _ hp
          rw [e4]
          generalize rd l (p % l.length) = a at *
          generalize rd l ((p * 7 + 3) % l.length) = b at *
          generalize p / (l.length : Int) = c at *
          have s : wrap64 (wrap64 (wrap64 (wrap64 (wrap64 a * 131) + wrap64 (wrap64 b * 1117)) + wrap64 (p * 29)) + wrap64 (wrap64 c * 53)) = a * 131 + b * 1117 + p * 29 + c * 53 := by
            rw [w64 (x := a) (by omega) (by omega), w64 (x := b) (by omega) (by omega), w64 (x := c) (by omega) (by omega), w64 (x := a * 131) (by omega) (by omega), w64 (x := b * 1117) (by omega) (by omega),
              w64 (x := a * 131 + b * 1117) (by omega) (by omega), w64 (x := p * 29) (by omega) (by omega), w64 (x := a * 131 + b * 1117 + p * 29) (by omega) (by omega), w64 (x := c * 53) (by omega) (by omega), w64 (by omega) (by omega)]
          rw [s]
          have t0 : 0 ≤ a * 131 + b * 1117 + p * 29 + c * 53 := by omega
          have t1 : a * 131 + b * 1117 + p * 29 + c * 53 < 4611686018427387904 := by omega
          generalize a * 131 + b * 1117 + p * 29 + c * 53 = x at *
          rw [show Int.tdiv x 64 = x / 64 from Int.tdiv_eq_ediv_of_nonneg t0, w64 (x := x / 64) (by omega) (by omega)]
          have hx := bxor_ge (a := x) (b := x / 64) t0 (by omega) t1 (by omega)
          have hm := hmod _ hx.1
          exact ⟨_, rfl, hm.1, fun _ => hm.2⟩
  obtain ⟨x, hx, h0, h1⟩ := key
  exact ⟨x, fun k hk => at_rounds (spec_l20Rd_pick.mono l p n) hk hx, h0, h1⟩

theorem odd_eq {l : List Int} (hl : l.length ≤ 2000) (hb : ∀ x ∈ l, 0 ≤ x ∧ x ≤ 255) (p : Int) (hp : 0 ≤ p) (hp' : p ≤ 900000) (n : Int) (hn : 1 ≤ n) (hn' : n ≤ 1000) :
    ∃ b, (∀ k, 1 ≤ k → spec_l20Rd_odd.f k l p n = some (b, p + 1)) := by
  obtain ⟨A, h1, a0, a1⟩ := pick hl hb p hp (by omega) n
  refine ⟨A == n - 1, fun k hk => ?_⟩
  unfold spec_l20Rd_odd.f
  rw [if_pos (show n > 0 by omega), h1 k hk, Option.bind_some]; dsimp only
  rw [w1s (by omega) (by omega)]

theorem drawBody {l : List Int} (hl : l.length ≤ 2000) (hb : ∀ x ∈ l, 0 ≤ x ∧ x ≤ 255) (p : Int) (hp : 0 ≤ p) (hp' : p ≤ 800000) (n : Int) (hn : 1 ≤ n) (hn' : n ≤ 1000) :
    ∃ np m q p', (∀ k, 8 ≤ k → spec_l20Body.f k l p n = some (np, m, q, p')) ∧ 0 ≤ p' ∧ p' ≤ p + 10 := by
  suffices h : ∃ np m q p', spec_l20Body.f 8 l p n = some (np, m, q, p') ∧ 0 ≤ p' ∧ p' ≤ p + 10 by
    obtain ⟨np, m, q, p', h, h0, h1⟩ := h
    exact ⟨np, m, q, p', fun k hk => at_rounds (spec_l20Body.mono l p n) hk h, h0, h1⟩
  obtain ⟨A, h1, a0, a1⟩ := pick hl hb p (by omega) (by omega) 6
  replace a1 := a1 (by omega)
  have hfu := full_le (p := 1 + A) (by omega) (by omega)
  obtain ⟨M, h2, m0, m1⟩ := pick hl hb (p + 1) (by omega) (by omega) (full (1 + A))
  replace m1 := m1 (by omega)
  obtain ⟨Q, h3, q0, q1⟩ := pick hl hb (p + 1 + 1) (by omega) (by omega) (hd (1 + M))
  obtain ⟨b, h4⟩ := odd_eq hl hb (p + 1 + 1 + 1) (by omega) (by omega) n hn hn'
  obtain ⟨C, h5, c0, c1⟩ := pick hl hb (p + 1 + 1 + 1 + 1) (by omega) (by omega) 3
  obtain ⟨D, h6, d0, d1⟩ := pick hl hb (p + 1 + 1 + 1 + 1 + 1) (by omega) (by omega) 2
  replace d1 := d1 (by omega)
  unfold spec_l20Body.f
  rw [h1 8 (by omega), Option.bind_some]; dsimp only
  rw [w1 a0 (by omega), if_pos (by omega), fullw (by omega) (by omega), h2 8 (by omega), Option.bind_some]; dsimp only
  rw [w1 m0 (by omega), sHeads_eq 8 (by omega) (by omega) (by omega), Option.bind_some, h3 8 (by omega), Option.bind_some]; dsimp only
  rw [h4 8 (by omega), Option.bind_some]; dsimp only
  cases b with
  | false => rw [if_neg (by simp)]; exact ⟨_, _, _, _, rfl, by omega, by omega⟩
  | true =>
    rw [if_pos rfl, h5 8 (by omega), Option.bind_some]; dsimp only
    by_cases e0 : C = 0
    · rw [if_pos e0, Option.bind_some, Option.bind_some, h6 8 (by omega), Option.bind_some]; dsimp only
      rw [if_pos d0, if_pos (by simp; omega)]; exact ⟨_, _, _, _, rfl, by omega, by omega⟩
    · rw [if_neg e0]
      by_cases e1 : C = 1
      · rw [if_pos e1]; exact ⟨_, _, _, _, rfl, by omega, by omega⟩
      · rw [if_neg e1, Option.bind_some, h6 8 (by omega), Option.bind_some]; dsimp only
        rw [if_pos d0, if_pos (by simp; omega)]; exact ⟨_, _, _, _, rfl, by omega, by omega⟩

/-- The bytes of a draw: at most 2000. -/
theorem open_eq (l : List Int) : spec_l20Open.f l = some (l.take 2000, 0) := by
  unfold spec_l20Open.f
  by_cases h : (l.length : Int) > 2000
  · rw [if_pos h, if_pos (by omega)]
  · rw [if_neg h, List.take_of_length_le (by omega)]
theorem open_len (l : List Int) : (l.take 2000).length ≤ 2000 := by simp; omega
theorem open_wf {l : List Int} (h : ∀ x ∈ l, (Lit.int .u8 x).wf = true) : ∀ x ∈ l.take 2000, 0 ≤ x ∧ x ≤ 255 := fun x hx => wf_u8 (h x (List.mem_of_mem_take hx))

theorem iCrowdOk_eq (p c : Int) : impl_CrowdOk.f p c = some (okC p c) := by
  unfold impl_CrowdOk.f; rw [isCrowd_eq]; rfl

theorem alive_eq : laws_alive.f = some true := by
  unfold laws_alive.f
  rw [iCrowdOk_eq, iCrowdOk_eq]; decide

theorem l1_eq {ok : Bool} {L : List Int} {i : Nat} (hi : i < L.length) (hL : L.length ≤ 64) {R : Bool} {K : Nat} (H : ∀ (a : Bool) k', K ≤ k' → (a = true ∨ (∃ x y : Nat, ∃ hx : x < L.length, ∃ hy : y < L.length, i + 1 ≤ x ∧ y < x ∧ band L[x] L[y] = 0) ↔ R = true) → laws_FnSplitOk.l0 k' ok L a ((i + 1 : Nat) : Int) = some true) (d : Nat) : ∀ (j : Nat) (a : Bool) (k : Nat), j + d = i → K + d + 1 ≤ k → (a = true ∨ (∃ y : Nat, ∃ hy : y < L.length, j ≤ y ∧ y < i ∧ band L[i] L[y] = 0) ∨ (∃ x y : Nat, ∃ hx : x < L.length, ∃ hy : y < L.length, i + 1 ≤ x ∧ y < x ∧ band L[x] L[y] = 0) ↔ R = true) → laws_FnSplitOk.l1 k ok L a (i : Int) (j : Int) = some true := by
  have ew : ∀ n : Nat, n ≤ 64 → wrap64 ((n : Int) + 1) = ((n + 1 : Nat) : Int) := fun n hn => by rw [wr (by omega) (by omega)]; omega
  induction d with
  | zero =>
    intro j a k hj hk hR
    obtain ⟨k, rfl⟩ : ∃ n, k = n + 1 := ⟨k - 1, by omega⟩
    rw [laws_FnSplitOk.l1, if_neg (by omega), ew i (by omega)]
    refine H a k (by omega) ?_
    rw [← hR]
    constructor
    · rintro (h | h)
      · exact .inl h
      · exact .inr (.inr h)
    · rintro (h | ⟨y, hy, a1, a2, _⟩ | h)
      · exact .inl h
      · omega
      · exact .inr h
  | succ d ih =>
    intro j a k hj hk hR
    obtain ⟨k, rfl⟩ : ∃ n, k = n + 1 := ⟨k - 1, by omega⟩
    have hj' : j < L.length := by omega
    rw [laws_FnSplitOk.l1, if_pos (by omega), ew j (by omega)]
    cases a with
    | true =>
      rw [if_pos rfl]
      refine ih (j + 1) true k (by omega) (by omega) ?_
      rw [← hR]
      simp
    | false =>
      rw [if_neg (by simp), if_pos (by omega), if_pos (by omega), if_pos (by omega), if_pos (by omega), rd_at hi, rd_at hj']
      refine ih (j + 1) _ k (by omega) (by omega) ?_
      rw [← hR, beq_iff_eq]
      constructor
      · rintro (h | ⟨y, hy, a1, a2, h⟩ | h)
        · exact .inr (.inl ⟨j, hj', by omega, by omega, h⟩)
        · exact .inr (.inl ⟨y, hy, by omega, a2, h⟩)
        · exact .inr (.inr h)
      · rintro (h | ⟨y, hy, a1, a2, h⟩ | h)
        · simp at h
        · by_cases e : y = j
          · subst e; exact .inl h
          · exact .inr (.inl ⟨y, hy, by omega, a2, h⟩)
        · exact .inr (.inr h)
theorem l0_eq {ok : Bool} {L : List Int} (hL : L.length ≤ 64) (d : Nat) : ∀ (i : Nat) (a : Bool) (k : Nat), i + d = L.length → 100 * d + 100 ≤ k → (a = true ∨ (∃ x y : Nat, ∃ hx : x < L.length, ∃ hy : y < L.length, i ≤ x ∧ y < x ∧ band L[x] L[y] = 0) ↔ ok = true) → laws_FnSplitOk.l0 k ok L a (i : Int) = some true := by
  induction d with
  | zero =>
    intro i a k hi hk hR
    obtain ⟨k, rfl⟩ : ∃ n, k = n + 1 := ⟨k - 1, by omega⟩
    have e : ok = a := by
      rw [Bool.eq_iff_iff, ← hR]
      constructor
      · rintro (h | ⟨x, y, hx, hy, a1, _⟩)
        · exact h
        · omega
      · exact fun h => .inl h
    rw [laws_FnSplitOk.l0, if_neg (by omega), e, if_pos (by simp), alive_eq, Option.bind_some]
  | succ d ih =>
    intro i a k hi hk hR
    obtain ⟨k, rfl⟩ : ∃ n, k = n + 1 := ⟨k - 1, by omega⟩
    have hi' : i < L.length := by omega
    rw [laws_FnSplitOk.l0, if_pos (by omega)]
    refine l1_eq hi' hL (R := ok) (K := 100 * d + 100) (fun b k' hk' hb => ih (i + 1) b k' (by omega) hk' hb) i 0 a k (by omega) (by omega) ?_
    rw [← hR]
    constructor
    · rintro (h | ⟨y, hy, a1, a2, h⟩ | ⟨x, y, hx, hy, a1, a2, h⟩)
      · exact .inl h
      · exact .inr ⟨i, y, hi', hy, by omega, a2, h⟩
      · exact .inr ⟨x, y, hx, hy, by omega, a2, h⟩
    · rintro (h | ⟨x, y, hx, hy, a1, a2, h⟩)
      · exact .inl h
      · by_cases e : x = i
        · subst e; exact .inr (.inl ⟨y, hy, by omega, a2, h⟩)
        · exact .inr (.inr ⟨x, y, hx, hy, by omega, a2, h⟩)
/-- Two of the least deciding crowds have nobody in common just if twice the quota is at most the members. -/
theorem apart_iff {p m q : Int} (hB : okB p m q = true) : (∃ x y : Nat, ∃ hx : x < (Crowds.decC p m q).length, ∃ hy : y < (Crowds.decC p m q).length, 0 ≤ x ∧ y < x ∧ band (Crowds.decC p m q)[x] (Crowds.decC p m q)[y] = 0) ↔ 2 * q ≤ hd m := by
  obtain ⟨hm, q1, qm⟩ := okB_iff.1 hB
  obtain ⟨h1, h6, m0, m64, mf⟩ := okC_lt hm
  have hf := full_le h1 h6
  constructor
  · rintro ⟨x, y, hx, hy, _, _, h⟩
    obtain ⟨a, b, c⟩ := (Crowds.dec_mem hB _).1 (List.getElem_mem hx)
    obtain ⟨a', b', c'⟩ := (Crowds.dec_mem hB _).1 (List.getElem_mem hy)
    refine Int.not_lt.1 (fun hlt => ?_)
    exact Crowds.meet m0 m64 a.1 (by omega) a'.1 (by omega) b b' (by omega) h
  · intro h2
    obtain ⟨u, v, hu, hv, huv, hne⟩ := Crowds.two_apart hm q1 h2
    have mu := (Crowds.dec_mem hB u).2 hu
    have mv := (Crowds.dec_mem hB v).2 hv
    obtain ⟨x, hx, ex⟩ := List.mem_iff_getElem.1 mu
    obtain ⟨y, hy, ey⟩ := List.mem_iff_getElem.1 mv
    rcases Nat.lt_trichotomy x y with h | h | h
    · exact ⟨y, x, hy, hx, by omega, h, by rw [ex, ey, band_comm]; exact huv⟩
    · subst h; exact absurd (ex.symm.trans ey) hne
    · exact ⟨x, y, hx, hy, by omega, h, by rw [ex, ey]; exact huv⟩
theorem main : laws_FnSplitOk.Pure := by
  intro l _ _ h
  refine ⟨8000, ?_⟩
  unfold laws_FnSplitOk.f
  by_cases hl : (l.length : Int) > 1048576
  · rw [if_pos hl]
  rw [if_neg hl]
  obtain ⟨p, m, q, p', hdr, _, _⟩ := drawBody (open_len l) (open_wf h) 0 (by omega) (by omega) 9 (by omega) (by omega)
  rw [show spec_DrawSplitOk.f 8000 l = some (p, m, q) from by unfold spec_DrawSplitOk.f; rw [open_eq, Option.bind_some]; dsimp only; rw [hdr 8000 (by omega), Option.bind_some], Option.bind_some]; dsimp only
  have hr := Crowds.dec_len p m q
  rw [iSplitOk_eq, Option.bind_some, sSplitOk_eq 8000 (by omega), Option.bind_some, if_neg (by simp), impl_DecidingOf_eq p m q 8000 (by omega), Option.bind_some]
  refine l0_eq hr (Crowds.decC p m q).length 0 false 8000 (by omega) (by omega) ?_
  by_cases hB : okB p m q = true
  · rw [hB, Bool.true_and, decide_eq_true_eq, ← apart_iff hB]
    simp
  · have e : Crowds.decC p m q = [] := by rw [Crowds.dec_eq, if_neg hB]
    rw [show okB p m q = false from by simpa using hB, Bool.false_and, e]
    simp

end Go.Proofs.Ytcflipknnijmdaa.Pure.fnSplitOk
namespace Go.Proofs.Ytcflipknnijmdaa.Pure
open Go.Proofs.Ytcflipknnijmdaa.PFnSplitOk
theorem FnSplitOk : laws_FnSplitOk.Pure := fnSplitOk.main
end Go.Proofs.Ytcflipknnijmdaa.Pure
