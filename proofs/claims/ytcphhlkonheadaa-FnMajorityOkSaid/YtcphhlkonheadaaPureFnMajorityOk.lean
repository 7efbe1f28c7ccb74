/- Two majorities have somebody in common, for every drawn input. No condition. -/
import Derived.Test.YtcphhlkonheadaaPFnMajorityOkx3
import Derived.Test.YtcphhlkonheadaaBase
set_option linter.unusedVariables false
set_option linter.unusedSimpArgs false
namespace Go.Proofs.Ytcphhlkonheadaa.Pure.fnMajorityOk
open Go.RowKit Go.Proofs.Ytcphhlkonheadaa.PFnMajorityOk Go.Proofs.YtcphhlkonheadaaW.PrintWords Go.Proofs.YtcphhlkonheadaaW.PrintLast Go.Proofs.YtcphhlkonheadaaW.PrintMore Go.Proofs.Ytcphhlkonheadaa.Base

theorem arePeople_eq (p : Int) : impl_arePeople.f p = some (decide (1 ≤ p ∧ p ≤ 6)) := by
  unfold impl_arePeople.f
  by_cases h : p ≥ 1
  · rw [if_pos h]; congr 1; simp [show 1 ≤ p from h]
  · rw [if_neg h]; congr 1; simp; omega
theorem isCrowd_eq (p c : Int) : impl_isCrowd.f p c = some (okC p c) := by
  unfold impl_isCrowd.f
  rw [arePeople_eq]
  simp only [Option.bind_some]
  by_cases h : 1 ≤ p ∧ p ≤ 6
  · rw [if_pos (by simpa using h)]
    by_cases h0 : c ≥ 0
    · rw [if_pos h0, if_pos (by omega), shl1 (by omega) h.2]
      congr 1
      rw [Bool.eq_iff_iff, okC_iff]; simp; omega
    · rw [if_neg h0]; congr 1
      symm; rw [Bool.eq_false_iff]; intro hc; rw [okC_iff] at hc; omega
  · rw [if_neg (by simpa using h)]; congr 1
    symm; rw [Bool.eq_false_iff]; intro hc; rw [okC_iff] at hc; omega

theorem iCrowdOk_eq (p c : Int) : impl_CrowdOk.f p c = some (okC p c) := by
  unfold impl_CrowdOk.f; rw [isCrowd_eq]; rfl

theorem l1In_eq (n a b : Int) : spec_l1In.f n a b = some (decide (a ≤ n ∧ n ≤ b)) := by
  unfold spec_l1In.f
  by_cases h : n ≥ a
  · rw [if_pos h]; congr 1; simp [show a ≤ n from h]
  · rw [if_neg h]; congr 1; simp; omega
theorem sCrowdOk_eq (p c : Int) : spec_CrowdOk.f p c = some (okC p c) := by
  unfold spec_CrowdOk.f
  rw [l1In_eq]
  simp only [Option.bind_some]
  by_cases h : 1 ≤ p ∧ p ≤ 6
  · have hf := full_le h.1 h.2
    rw [if_pos (by simpa using h), if_pos (by omega), shl1 (by omega) h.2, l1In_eq, w64 (by omega) (by omega)]
    simp only [Option.bind_some]
    congr 1
    rw [Bool.eq_iff_iff, okC_iff]; simp; omega
  · rw [if_neg (by simpa using h)]; congr 1
    symm; rw [Bool.eq_false_iff]; intro hc; rw [okC_iff] at hc; omega

theorem heads_all : ∀ c : Fin 64, impl_headsOf.f c.val = some (hd c.val) := by decide +kernel
theorem iHeads_eq {c : Int} (h0 : 0 ≤ c) (h1 : c < 64) : impl_headsOf.f c = some (hd c) := all64 (P := fun c => impl_headsOf.f c = some (hd c)) heads_all c h0 h1

theorem iMajorityOk_eq (p c : Int) : impl_MajorityOk.f p c = some (okC p c && decide (2 * hd c > p)) := by
  unfold impl_MajorityOk.f
  rw [isCrowd_eq]
  simp only [Option.bind_some]
  by_cases h : okC p c = true
  · have h' := okC_lt h
    have hh := hd_le h'.2.2.1 h'.2.2.2.1
    rw [if_pos h, iHeads_eq h'.2.2.1 h'.2.2.2.1]
    simp only [Option.bind_some]
    rw [w64 (by omega) (by omega), h, Bool.true_and]
  · rw [if_neg h]; simp [h]

theorem l1Heads_all : ∀ c : Fin 64, spec_l1Heads.f 7 c.val = some (hd c.val) := by decide +kernel
theorem sHeads_eq {c : Int} (k : Nat) (hk : 7 ≤ k) (h0 : 0 ≤ c) (h1 : c < 64) : spec_l1Heads.f k c = some (hd c) :=
  at_rounds (spec_l1Heads.mono c) hk (all64 (P := fun c => spec_l1Heads.f 7 c = some (hd c)) l1Heads_all c h0 h1)

theorem sMajorityOk_eq (k : Nat) (hk : 7 ≤ k) (p c : Int) : spec_MajorityOk.f k p c = some (okC p c && decide (2 * hd c > p)) := by
  unfold spec_MajorityOk.f
  rw [sCrowdOk_eq]
  simp only [Option.bind_some]
  by_cases h : okC p c = true
  · have h' := okC_lt h
    have hh := hd_le h'.2.2.1 h'.2.2.2.1
    rw [if_pos h, sHeads_eq k hk h'.2.2.1 h'.2.2.2.1]
    simp only [Option.bind_some]
    rw [w64 (by omega) (by omega), h, Bool.true_and]
  · rw [if_neg h]; simp [h]

theorem everybody_eq {p : Int} (h1 : 1 ≤ p) (h6 : p ≤ 6) : impl_everybody.f p = some (full p) := by
  have hf := full_le h1 h6
  unfold impl_everybody.f
  rw [if_pos (by omega), shl1 (by omega) h6, w64 (by omega) (by omega)]
  congr 1; omega

theorem iLackOf_eq (p c : Int) : impl_LackOf.f p c = some (if okC p c = true then full p - c else -1) := by
  unfold impl_LackOf.f
  rw [isCrowd_eq]
  simp only [Option.bind_some]
  by_cases h : okC p c = true
  · have h' := okC_lt h
    rw [if_pos h, if_pos h, everybody_eq h'.1 h'.2.1]
    simp only [Option.bind_some]
    rw [show Go.bits .xor .i64 (full p) c = full p - c from xor_full h]
  · rw [if_neg h, if_neg h]

theorem alive_eq : laws_alive.f = some true := by
  unfold laws_alive.f
  rw [iCrowdOk_eq, iCrowdOk_eq]; decide

/-- The bytes of a draw: at most 2000. -/
theorem open_eq (l : List Int) : spec_l20Open.f l = some (l.take 2000, 0) := by
  unfold spec_l20Open.f
  by_cases h : (l.length : Int) > 2000
  · rw [if_pos h, if_pos (by omega)]
  · rw [if_neg h, List.take_of_length_le (by omega)]
theorem open_len (l : List Int) : (l.take 2000).length ≤ 2000 := by simp; omega
theorem open_wf {l : List Int} (h : ∀ x ∈ l, (Lit.int .u8 x).wf = true) : ∀ x ∈ l.take 2000, 0 ≤ x ∧ x ≤ 255 := fun x hx => wf_u8 (h x (List.mem_of_mem_take hx))

/-- What a draw gives. -/
theorem pick {l : List Int} (hl : l.length ≤ 2000) (hb : ∀ x ∈ l, 0 ≤ x ∧ x ≤ 255) (p : Int) (hp : 0 ≤ p) (hp' : p ≤ 1000000) (n : Int) :
    ∃ x, (∀ k, 1 ≤ k → spec_l20Rd_pick.f k l p n = some (x, p + 1)) ∧ 0 ≤ x ∧ (1 ≤ n → x < n) := by
  have key : ∃ x, spec_l20Rd_pick.f 1 l p n = some (x, p + 1) ∧ 0 ≤ x ∧ (1 ≤ n → x < n) := by
    have hp1 : wrap64 (p + 1) = p + 1 := w64 (by omega) (by omega)
    have hp2 : wrap64 (p + 1 - 1) = p := by rw [w64 (by omega) (by omega)]; omega
    unfold spec_l20Rd_pick.f
    rw [hp1]
    by_cases hn : n < 1
    · rw [if_pos hn]
      exact ⟨0, by simp [spec_l20Rd_pick.j0], by omega, by omega⟩
    · rw [if_neg hn]
      by_cases h0 : l.length = 0
      · exact ⟨0, by simp [spec_l20Rd_pick.j0, h0], by omega, by omega⟩
      · have hf : ((l.length : Int) == 0) = false := beq_eq_false_iff_ne.mpr (by omega)
        have hrd : ∀ i : Int, 0 ≤ rd l i ∧ rd l i ≤ 255 := by
          intro i
          unfold rd
          by_cases hi : i.toNat < l.length
          · rw [List.getD_eq_getElem?_getD, List.getElem?_eq_getElem hi, Option.getD_some]; exact hb _ (List.getElem_mem hi)
          · rw [List.getD_eq_getElem?_getD, List.getElem?_eq_none (by omega), Option.getD_none]; omega
        have hmod : ∀ x : Int, 0 ≤ x → 0 ≤ Int.tmod x n ∧ Int.tmod x n < n := fun x hx => ⟨Int.tmod_nonneg _ hx, Int.tmod_lt_of_pos _ (by omega)⟩
        simp only [spec_l20Rd_pick.j0, hf, hp2, if_false, Bool.false_eq_true]
        rw [if_pos (show 0 ≤ p from hp)]
        by_cases hlt : p < (l.length : Int)
        · have hr := hrd p
          have hm := hmod (rd l p) hr.1
          refine ⟨Int.tmod (rd l p) n, ?_, hm.1, fun _ => hm.2⟩
          rw [if_pos hlt, if_neg (by omega), w64 (x := rd l p) (by omega) (by omega)]
        · have hL : (0 : Int) < l.length := by omega
          rw [if_neg hlt, if_neg (by omega)]
          have e1 : Int.tmod p l.length = p % l.length := Int.tmod_eq_emod_of_nonneg hp
          have e2 : wrap64 (wrap64 (p * 7) + 3) = p * 7 + 3 := by rw [w64 (x := p * 7) (by omega) (by omega), w64 (by omega) (by omega)]
          have e3 : Int.tmod (p * 7 + 3) l.length = (p * 7 + 3) % l.length := Int.tmod_eq_emod_of_nonneg (by omega)
          have b1 := Int.emod_nonneg p (show (l.length : Int) ≠ 0 by omega)
          have b2 := Int.emod_lt_of_pos p hL
          have b3 := Int.emod_nonneg (p * 7 + 3) (show (l.length : Int) ≠ 0 by omega)
          have b4 := Int.emod_lt_of_pos (p * 7 + 3) hL
          rw [e1, e2, e3, if_pos b1, if_pos b2, if_pos b3, if_pos b4, if_neg (by omega)]
          have r1 := hrd (p % l.length)
          have r2 := hrd ((p * 7 + 3) % l.length)
          have e4 : Int.tdiv p l.length = p / l.length := Int.tdiv_eq_ediv_of_nonneg hp
          have d1 : 0 ≤ p / (l.length : Int) := Int.ediv_nonneg hp (by omega)
          have d2 : p / (l.length : Int) ≤ p := Int.ediv_le_self _ hp
          rw [e4]
          generalize rd l (p % l.length) = a at *
          generalize rd l ((p * 7 + 3) % l.length) = b at *
          generalize p / (l.length : Int) = c at *
          have s : wrap64 (wrap64 (wrap64 (wrap64 (wrap64 a * 131) + wrap64 (wrap64 b * 1117)) + wrap64 (p * 29)) + wrap64 (wrap64 c * 53)) = a * 131 + b * 1117 + p * 29 + c * 53 := by
            rw [w64 (x := a) (by omega) (by omega), w64 (x := b) (by omega) (by omega), w64 (x := c) (by omega) (by omega), w64 (x := a * 131) (by omega) (by omega), w64 (x := b * 1117) (by omega) (by omega),
              w64 (x := a * 131 + b * 1117) (by omega) (by omega), w64 (x := p * 29) (by omega) (by omega), w64 (x := a * 131 + b * 1117 + p * 29) (by omega) (by omega), w64 (x := c * 53) (by omega) (by omega), w64 (by omega) (by omega)]
          rw [s]
          have t0 : 0 ≤ a * 131 + b * 1117 + p * 29 + c * 53 := by omega
          have t1 : a * 131 + b * 1117 + p * 29 + c * 53 < 4611686018427387904 := by omega
          generalize a * 131 + b * 1117 + p * 29 + c * 53 = x at *
          rw [show Int.tdiv x 64 = x / 64 from Int.tdiv_eq_ediv_of_nonneg t0, w64 (x := x / 64) (by omega) (by omega)]
          have hx := bxor_ge (a := x) (b := x / 64) t0 (by omega) t1 (by omega)
          have hm := hmod _ hx.1
          exact ⟨_, rfl, hm.1, fun _ => hm.2⟩
  obtain ⟨x, hx, h0, h1⟩ := key
  exact ⟨x, fun k hk => at_rounds (spec_l20Rd_pick.mono l p n) hk hx, h0, h1⟩

theorem drawPeople {l : List Int} (hl : l.length ≤ 2000) (hb : ∀ x ∈ l, 0 ≤ x ∧ x ≤ 255) (p : Int) (hp : 0 ≤ p) (hp' : p ≤ 900000) :
    ∃ n c, (∀ k, 1 ≤ k → spec_l20People.f k l p = some (n, c, p + 1 + 1 + 1 + 1 + 1 + 1)) ∧ 0 ≤ n ∧ n ≤ 7 ∧ -1000 ≤ c ∧ c ≤ 1000 := by
  obtain ⟨A, h1, a0, a1⟩ := pick hl hb p (by omega) (by omega) 6
  obtain ⟨B, h2, b0, b1⟩ := pick hl hb (p + 1) (by omega) (by omega) 40
  obtain ⟨C, h3, c0, c1⟩ := pick hl hb (p + 1 + 1) (by omega) (by omega) 40
  obtain ⟨E, h5, e0, e1⟩ := pick hl hb (p + 1 + 1 + 1 + 1) (by omega) (by omega) 40
  obtain ⟨F, h6, f0, f1⟩ := pick hl hb (p + 1 + 1 + 1 + 1 + 1) (by omega) (by omega) 40
  replace a1 := a1 (by omega)
  replace b1 := b1 (by omega)
  replace c1 := c1 (by omega)
  replace e1 := e1 (by omega)
  replace f1 := f1 (by omega)
  have hm := mnmx (1 + A + B / 39 - C / 39)
  have hfu := full_le hm.1 hm.2
  obtain ⟨D, h4, d0, d1⟩ := pick hl hb (p + 1 + 1 + 1) (by omega) (by omega) (full (mn (mx (1 + A + B / 39 - C / 39) 1) 6) + 1)
  replace d1 := d1 (by omega)
  refine ⟨1 + A + B / 39 - C / 39, D + E / 39 * 64 - F / 39 * 65, fun k hk => ?_, by omega, by omega, by omega, by omega⟩
  have hd : D < 64 := by omega
  unfold spec_l20People.f
  rw [h1 k hk, Option.bind_some]; dsimp only
  rw [h2 k hk, Option.bind_some]; dsimp only
  rw [h3 k hk, Option.bind_some]; dsimp only
  rw [wrap_people a0 a1 b0 b1 c0 c1, pow_full hm.1 hm.2, h4 k hk, Option.bind_some]; dsimp only
  rw [h5 k hk, Option.bind_some]; dsimp only
  rw [h6 k hk, Option.bind_some]; dsimp only
  rw [wrap_crowd d0 hd e0 e1 f0 f1]

theorem drawMajority {l : List Int} (h : ∀ x ∈ l, (Lit.int .u8 x).wf = true) : ∃ p c, (∀ k, 1 ≤ k → spec_DrawMajorityOk.f k l = some (p, c)) ∧ 0 ≤ p ∧ p ≤ 7 := by
  obtain ⟨p, c, hdr, p0, p7, _, _⟩ := drawPeople (open_len l) (open_wf h) 0 (by omega) (by omega)
  exact ⟨p, c, fun k hk => by unfold spec_DrawMajorityOk.f; rw [open_eq, Option.bind_some, hdr k hk, Option.bind_some], p0, p7⟩

theorem more {p c k : Int} (hc : okC p c = true) (hm : 2 * hd c > p) (h0 : 0 ≤ k) (hk : k < p) : okC p (bor c (bit k)) = true ∧ 2 * hd (bor c (bit k)) > p := by
  obtain ⟨h1, h6, c0, c64, _⟩ := okC_lt hc
  have hb := bit_lt h1 h6 h0 hk
  obtain ⟨_, _, b0, b64, _⟩ := okC_lt hb
  have s := hd_sum c0 c64 b0 b64
  have s2 := hd_band c0 c64 b0 b64
  exact ⟨okC_bor hc hb, by omega⟩
theorem meets {p a b : Int} (ha : okC p a = true) (hb : okC p b = true) (h1 : 2 * hd a > p) (h2 : 2 * hd b > p) : band a b ≠ 0 := by
  obtain ⟨_, _, a0, a64, _⟩ := okC_lt ha
  obtain ⟨_, _, b0, b64, _⟩ := okC_lt hb
  have s := hd_sum a0 a64 b0 b64
  have o := hd_okC (okC_bor ha hb)
  intro e
  rw [e, hd_zero] at s
  omega
/-- What stands behind the loop. -/
theorem foot {p c o : Int} (ok : Bool) (hc : okC p c = true) (hok : ok = decide (2 * hd c > p)) (k : Nat) (x9 : Int) : laws_FnMajorityOk.j3 (k + 1) p c ok o x9 false = some true := by
  obtain ⟨h1, h6, c0, c64, _⟩ := okC_lt hc
  have hall : okC p (full p) = true := okC_full h1 h6
  have hs := hd_lack hc
  unfold laws_FnMajorityOk.j3
  rw [if_neg (by simp), fullw h1 h6, iLackOf_eq, iMajorityOk_eq, iMajorityOk_eq, if_pos hc, hall, hd_full h1 h6, Option.bind_some, Option.bind_some, iMajorityOk_eq, Option.bind_some, okC_lack, hc, Option.bind_some]
  have h0p : 0 ≤ p := by omega
  have hbig : decide (2 * p > p) = true := decide_eq_true (by omega)
  subst hok
  by_cases hm : 2 * hd c > p
  · have hn : decide (2 * hd (full p - c) > p) = false := decide_eq_false (by omega)
    rw [if_pos (decide_eq_true hm), hn, if_neg (by simp), hbig, if_pos h0p]
    by_cases ho : (okC p o && decide (2 * hd o > p)) = true
    · rw [if_pos ho]
      simp only [Bool.and_eq_true, decide_eq_true_eq] at ho
      rw [if_neg (meets ho.1 hc ho.2 hm)]; rfl
    · rw [if_neg ho]; rfl
  · rw [if_neg (by simpa using hm), if_pos h0p, hbig]; rfl
theorem loop {p c o : Int} (ok : Bool) (hc : okC p c = true) (hok : ok = decide (2 * hd c > p)) (d : Nat) : ∀ (k : Nat) (i : Int), 0 ≤ i → i ≤ p → p - i = d → 2 * d + 2 ≤ k → laws_FnMajorityOk.l0 k p c ok o i = some true := by
  obtain ⟨h1, h6, _, _, _⟩ := okC_lt hc
  induction d with
  | zero =>
    intro k i h0 hi hd hk
    obtain ⟨k, rfl⟩ : ∃ m, k = m + 2 := ⟨k - 2, by omega⟩
    unfold laws_FnMajorityOk.l0
    rw [if_neg (by omega), foot ok hc hok]
  | succ d ih =>
    intro k i h0 hi hd hk
    obtain ⟨k, rfl⟩ : ∃ m, k = m + 2 := ⟨k - 2, by omega⟩
    unfold laws_FnMajorityOk.l0
    rw [if_pos (by omega)]
    by_cases hm : 2 * Base.hd c > p
    · have hok' : ok = true := by rw [hok]; exact decide_eq_true hm
      subst hok'
      have hmo := more hc hm h0 (show i < p by omega)
      unfold laws_FnMajorityOk.j3
      rw [if_pos rfl, if_pos h0, shl_bit h0 (by omega), iMajorityOk_eq, Option.bind_some, hmo.1, decide_eq_true hmo.2, if_pos (show (true && true) = true from rfl), w64 (by omega) (by omega)]
      exact ih k (i + 1) (by omega) (by omega) (by omega) (by omega)
    · have hok' : ok = false := by rw [hok]; exact decide_eq_false hm
      subst hok'
      exact foot false hc hok k i
theorem main : laws_FnMajorityOk.Pure := by
  intro l l1 _ _ h _ _ hw1
  refine ⟨30, ?_⟩
  unfold laws_FnMajorityOk.f
  have key : ∀ b : Bool, laws_FnMajorityOk.j0 (29 + 1) l l1 b = some true := by
    intro b
    rw [laws_FnMajorityOk.j0]
    by_cases hb : b = true
    · rw [if_pos hb]
    rw [if_neg hb]
    obtain ⟨p, c, hdr, p0, p7⟩ := drawMajority h
    rw [hdr 29 (by omega), Option.bind_some]; dsimp only
    rw [iMajorityOk_eq, sMajorityOk_eq 29 (by omega), Option.bind_some, Option.bind_some, if_neg (by simp), sCrowdOk_eq, Option.bind_some]
    by_cases hc : okC p c = true
    · obtain ⟨h1, h6, h0, h64, hf⟩ := okC_lt hc
      have fin : ∀ o, laws_FnMajorityOk.j1 (28 + 1) p c (okC p c && decide (2 * hd c > p)) o = some true := by
        intro o
        rw [laws_FnMajorityOk.j1]
        exact loop _ hc (by rw [hc, Bool.true_and]) p.toNat 28 0 (by omega) (by omega) (by omega) (by omega)
      have hfl := full_le h1 h6
      rw [if_pos hc]
      by_cases hl1 : (l1.length : Int) > 0
      · rw [if_pos hl1, if_pos (by omega), if_pos p0, shl1 p0 h6, if_neg (by omega)]; exact fin _
      · rw [if_neg hl1]; exact fin _
    · rw [if_neg hc, alive_eq]; simp [hc]
  split <;> exact key _

end Go.Proofs.Ytcphhlkonheadaa.Pure.fnMajorityOk
namespace Go.Proofs.Ytcphhlkonheadaa.Pure
open Go.Proofs.Ytcphhlkonheadaa.PFnMajorityOk
theorem FnMajorityOk : laws_FnMajorityOk.Pure := fnMajorityOk.main
end Go.Proofs.Ytcphhlkonheadaa.Pure
