/- Each least crowd is one of the crowds, none is within another one, within each of the crowds is one of them, and of these the same are these, for every drawn input. No condition. -/
import Derived.Test.YtcflipknnijmdaaPFnLeastCrowdsx4
import Derived.Test.YtcflipknnijmdaaBase
import Derived.Test.YtcflipknnijmdaaBaseHouse
set_option linter.unusedVariables false
set_option linter.unusedSimpArgs false
namespace Go.Proofs.Ytcflipknnijmdaa.Pure.fnLeastCrowds
open Go.RowKit Go.Proofs.Ytcflipknnijmdaa.PFnLeastCrowds Go.Proofs.YtcflipknnijmdaaW.PrintWords Go.Proofs.YtcflipknnijmdaaW.PrintLast Go.Proofs.YtcflipknnijmdaaW.PrintMore Go.Proofs.Ytcflipknnijmdaa.Base

theorem lc_good {p : Int} {l : List Int} (h : Crowds.leastC p l ≠ []) : (1 ≤ p ∧ p ≤ 6) ∧ l.length ≤ 64 ∧ (∀ d ∈ l, Crowds.isC p d = true) := by
  unfold Crowds.leastC at h
  split at h
  · rename_i g
    refine ⟨?_, g.2.1, List.all_eq_true.1 g.2.2⟩
    have := g.1
    unfold Crowds.areB at this
    simpa using this
  · exact absurd rfl h
theorem isC_lt {p d : Int} (h : Crowds.isC p d = true) : 0 ≤ d ∧ d < 64 := by
  unfold Crowds.isC at h
  simp only [Bool.and_eq_true, decide_eq_true_eq] at h
  obtain ⟨⟨⟨h1, h6⟩, h0⟩, h2⟩ := h
  refine ⟨h0, ?_⟩
  have : p = 1 ∨ p = 2 ∨ p = 3 ∨ p = 4 ∨ p = 5 ∨ p = 6 := by omega
  rcases this with rfl | rfl | rfl | rfl | rfl | rfl <;> simp at h2 <;> omega
theorem lc_mem {p : Int} {l : List Int} (h1 : 1 ≤ p ∧ p ≤ 6) (h64 : l.length ≤ 64) (hl : ∀ d ∈ l, Crowds.isC p d = true) (x : Int) : x ∈ Crowds.leastC p l ↔ x ∈ l ∧ Crowds.least l x = true := by
  unfold Crowds.leastC
  rw [if_pos ⟨by unfold Crowds.areB; simp [h1], h64, List.all_eq_true.2 hl⟩, Crowds.compact_mem, List.mem_mergeSort, List.mem_filter]
theorem lc_lt (p : Int) (l : List Int) : (Crowds.leastC p l).Pairwise (· < ·) := by
  unfold Crowds.leastC
  split
  · exact Crowds.compact_lt (Crowds.sort_le _)
  · exact List.Pairwise.nil
/-- The least crowds of the least crowds are they themselves. -/
theorem lc_again {p : Int} {l : List Int} (h : Crowds.leastC p l ≠ []) (hle : (Crowds.leastC p l).length ≤ l.length) : Crowds.leastC p (Crowds.leastC p l) = Crowds.leastC p l := by
  obtain ⟨h1, h64, hl⟩ := lc_good h
  have hm := lc_mem h1 h64 hl
  refine Crowds.uniq _ _ (lc_lt _ _) (lc_lt _ _) (fun x => ?_)
  rw [lc_mem h1 (by omega) (fun d hd => hl d ((hm d).1 hd).1)]
  constructor
  · exact fun h => h.1
  · intro hx
    refine ⟨hx, ?_⟩
    have := ((hm x).1 hx).2
    unfold Crowds.least at this ⊢
    simp only [Bool.not_eq_true', List.any_eq_false] at this ⊢
    exact fun d hd => this d ((hm d).1 hd).1

theorem band_self_all : ∀ c : Fin 64, band c.val c.val = c.val := by decide +kernel
theorem band_self {c : Int} (h0 : 0 ≤ c) (h1 : c < 64) : band c c = c := all64 (P := fun c => band c c = c) band_self_all c h0 h1
theorem not_all : ∀ d c : Fin 64, (Go.bits .andNot .i64 (d.val : Int) c.val == 0) = (band d.val c.val == d.val) := by decide +kernel
theorem within {d c : Int} (d0 : 0 ≤ d) (d1 : d < 64) (c0 : 0 ≤ c) (c1 : c < 64) : (Go.bits .andNot .i64 d c == 0) = (band d c == d) :=
  lift64 (P := fun d c => (Go.bits .andNot .i64 d c == 0) = (band d c == d)) not_all d0 d1 c0 c1
theorem band_trans {y d x : Int} (y0 : 0 ≤ y) (y1 : y < 64) (d0 : 0 ≤ d) (d1 : d < 64) (x0 : 0 ≤ x) (x1 : x < 64) (h1 : band y d = y) (h2 : band d x = d) : band y x = y := by
  obtain ⟨a, rfl⟩ := Int.eq_ofNat_of_zero_le y0
  obtain ⟨b, rfl⟩ := Int.eq_ofNat_of_zero_le d0
  obtain ⟨c, rfl⟩ := Int.eq_ofNat_of_zero_le x0
  rw [band_nat a b (by omega) (by omega)] at h1
  rw [band_nat b c (by omega) (by omega)] at h2
  rw [band_nat a c (by omega) (by omega)]
  have h1 : a &&& b = a := by exact_mod_cast h1
  have h2 : b &&& c = b := by exact_mod_cast h2
  rw [show a &&& c = a from by rw [← h1, Nat.and_assoc, h2]]
/-- Within each crowd is a least one. -/
theorem lc_within {p : Int} {l : List Int} (h1 : 1 ≤ p ∧ p ≤ 6) (h64 : l.length ≤ 64) (hl : ∀ d ∈ l, Crowds.isC p d = true) : ∀ (n : Nat) (x : Int), x ∈ l → x.toNat ≤ n → ∃ y ∈ Crowds.leastC p l, band y x = y := by
  intro n
  induction n with
  | zero =>
    intro x hx hn
    have b := isC_lt (hl x hx)
    refine ⟨x, (lc_mem h1 h64 hl x).2 ⟨hx, ?_⟩, band_self b.1 b.2⟩
    unfold Crowds.least
    rw [Bool.not_eq_true', List.any_eq_false]
    intro d hd' h
    have b' := isC_lt (hl d hd')
    rw [Bool.and_eq_true, within b'.1 b'.2 b.1 b.2, beq_iff_eq] at h
    have := band_lt b'.1 b'.2 b.1 b.2
    have : d = x := by omega
    simp [this] at h
  | succ n ih =>
    intro x hx hn
    have b := isC_lt (hl x hx)
    by_cases hL : Crowds.least l x = true
    · exact ⟨x, (lc_mem h1 h64 hl x).2 ⟨hx, hL⟩, band_self b.1 b.2⟩
    · unfold Crowds.least at hL
      rw [Bool.not_eq_true', Bool.not_eq_false, List.any_eq_true] at hL
      obtain ⟨d, hd', h⟩ := hL
      have b' := isC_lt (hl d hd')
      rw [Bool.and_eq_true, within b'.1 b'.2 b.1 b.2, beq_iff_eq, bne_iff_ne] at h
      have := band_lt b'.1 b'.2 b.1 b.2
      obtain ⟨y, hy, hb⟩ := ih d hd' (by omega)
      have b2 := isC_lt (hl y ((lc_mem h1 h64 hl y).1 hy).1)
      exact ⟨y, hy, band_trans b2.1 b2.2 b'.1 b'.2 b.1 b.2 hb h.2⟩
/-- No least one is within another. -/
theorem lc_apart {p : Int} {l : List Int} (h1 : 1 ≤ p ∧ p ≤ 6) (h64 : l.length ≤ 64) (hl : ∀ d ∈ l, Crowds.isC p d = true) {x y : Int} (hx : x ∈ Crowds.leastC p l) (hy : y ∈ Crowds.leastC p l) (h : band y x = y) : y = x := by
  obtain ⟨hxl, hL⟩ := (lc_mem h1 h64 hl x).1 hx
  obtain ⟨hyl, _⟩ := (lc_mem h1 h64 hl y).1 hy
  have b := isC_lt (hl x hxl)
  have b' := isC_lt (hl y hyl)
  unfold Crowds.least at hL
  rw [Bool.not_eq_true', List.any_eq_false] at hL
  have := hL y hyl
  rw [Bool.and_eq_true, within b'.1 b'.2 b.1 b.2, beq_iff_eq, bne_iff_ne] at this
  exact Classical.byContradiction fun hne => this ⟨hne, h⟩

theorem sameInts_loop {l : List Int} (hm : l.length ≤ 1048576) (d : Nat) : ∀ (k i : Nat), i ≤ l.length → l.length - i = d → d < k → laws_sameInts.l0 k l l (i : Int) = some true := by
  induction d with
  | zero =>
    intro k i hi hd hk
    obtain ⟨k, rfl⟩ : ∃ m, k = m + 1 := ⟨k - 1, by omega⟩
    rw [laws_sameInts.l0, if_neg (by omega)]
  | succ d ih =>
    intro k i hi hd hk
    obtain ⟨k, rfl⟩ : ∃ m, k = m + 1 := ⟨k - 1, by omega⟩
    rw [laws_sameInts.l0, if_pos (by omega), if_pos (by omega), if_pos (by omega), if_pos rfl, wr (by omega) (by omega), show (i : Int) + 1 = ((i + 1 : Nat) : Int) from by omega]
    exact ih k (i + 1) (by omega) (by omega) (by omega)
theorem sameInts_eq {l : List Int} (hm : l.length ≤ 1048576) (k : Nat) (hk : l.length < k) : laws_sameInts.f k l l = some true := by
  unfold laws_sameInts.f
  rw [if_pos rfl]
  exact sameInts_loop hm l.length k 0 (by omega) (by omega) (by omega)

theorem hasInt_loop {l : List Int} {x : Int} (hm : l.length ≤ 1048576) (d : Nat) : ∀ (k i : Nat), i ≤ l.length → l.length - i = d → d < k → (∃ j, i ≤ j ∧ ∃ h : j < l.length, l[j] = x) → laws_hasInt.l0 k l x (i : Int) = some true := by
  induction d with
  | zero =>
    rintro k i hi hd hk ⟨j, hj, h, _⟩
    omega
  | succ d ih =>
    rintro k i hi hd hk ⟨j, hj, h, e⟩
    obtain ⟨k, rfl⟩ : ∃ m, k = m + 1 := ⟨k - 1, by omega⟩
    have hi' : i < l.length := by omega
    rw [laws_hasInt.l0, if_pos (by omega), if_pos (by omega), rd_at hi']
    by_cases h2 : l[i] = x
    · rw [if_pos h2]
    · rw [if_neg h2, wr (by omega) (by omega), show (i : Int) + 1 = ((i + 1 : Nat) : Int) from by omega]
      refine ih k (i + 1) (by omega) (by omega) (by omega) ⟨j, ?_, h, e⟩
      rcases Nat.lt_or_ge i j with h3 | h3
      · omega
      · have : i = j := by omega
        subst this; exact absurd e h2
theorem hasInt_eq {l : List Int} {x : Int} (hm : l.length ≤ 1048576) (k : Nat) (hk : l.length < k) (hx : x ∈ l) : laws_hasInt.f k l x = some true := by
  unfold laws_hasInt.f
  obtain ⟨j, h, e⟩ := List.mem_iff_getElem.1 hx
  exact hasInt_loop hm l.length k 0 (by omega) (by omega) (by omega) ⟨j, by omega, h, e⟩

theorem ascend_loop {l : List Int} (hm : l.length ≤ 1048576) (hp : l.Pairwise (· < ·)) (d : Nat) : ∀ (k i : Nat), 1 ≤ i → l.length - i = d → i ≤ l.length + 1 → d < k → laws_ascend.l0 k l (i : Int) = some true := by
  induction d with
  | zero =>
    intro k i hi hd hn hk
    obtain ⟨k, rfl⟩ : ∃ m, k = m + 1 := ⟨k - 1, by omega⟩
    rw [laws_ascend.l0, if_neg (by omega)]
  | succ d ih =>
    intro k i hi hd hn hk
    obtain ⟨k, rfl⟩ : ∃ m, k = m + 1 := ⟨k - 1, by omega⟩
    obtain ⟨i, rfl⟩ : ∃ j, i = j + 1 := ⟨i - 1, by omega⟩
    have hi' : i + 1 < l.length := by omega
    have e : wrap64 (((i + 1 : Nat) : Int) - 1) = (i : Int) := by rw [w64 (by omega) (by omega)]; omega
    have hlt := List.pairwise_iff_getElem.1 hp i (i + 1) (by omega) hi' (by omega)
    rw [laws_ascend.l0, if_pos (by omega), e, if_pos (by omega), if_pos (by omega), if_pos (by omega), rd_at (show i < l.length by omega), rd_at hi', if_neg (by omega), wr (by omega) (by omega), show ((i + 1 : Nat) : Int) + 1 = ((i + 1 + 1 : Nat) : Int) from by omega]
    exact ih k (i + 1 + 1) (by omega) (by omega) (by omega) (by omega)
theorem ascend_eq {l : List Int} (hm : l.length ≤ 1048576) (hp : l.Pairwise (· < ·)) (k : Nat) (hk : l.length < k) : laws_ascend.f k l = some true := by
  unfold laws_ascend.f
  exact ascend_loop hm hp (l.length - 1) k 1 (by omega) (by omega) (by omega) (by omega)

/-- What a draw gives. -/
theorem pick {l : List Int} (hl : l.length ≤ 2000) (hb : ∀ x ∈ l, 0 ≤ x ∧ x ≤ 255) (p : Int) (hp : 0 ≤ p) (hp' : p ≤ 1000000) (n : Int) :
    ∃ x, (∀ k, 1 ≤ k → spec_l20Rd_pick.f k l p n = some (x, p + 1)) ∧ 0 ≤ x ∧ (1 ≤ n → x < n) := by
  have key : ∃ x, spec_l20Rd_pick.f 1 l p n = some (x, p + 1) ∧ 0 ≤ x ∧ (1 ≤ n → x < n) := by
    have hp1 : wrap64 (p + 1) = p + 1 := w64 (by omega) (by omega)
    have hp2 : wrap64 (p + 1 - 1) = p := by rw [w64 (by omega) (by omega)]; omega
    unfold spec_l20Rd_pick.f
    rw [hp1]
    by_cases hn : n < 1
    · rw [if_pos hn]
      exact ⟨0, by simp [spec_l20Rd_pick.j0], by omega, by omega⟩
    · rw [if_neg hn]
      by_cases h0 : l.length = 0
      · exact ⟨0, by simp [spec_l20Rd_pick.j0, h0], by omega, by omega⟩
      · have hf : ((l.length : Int) == 0) = false := beq_eq_false_iff_ne.mpr (by omega)
        have hrd : ∀ i : Int, 0 ≤ rd l i ∧ rd l i ≤ 255 := by
          intro i
          unfold rd
          by_cases hi : i.toNat < l.length
          · rw [List.getD_eq_getElem?_getD, List.getElem?_eq_getElem hi, Option.getD_some]; exact hb _ (List.getElem_mem hi)
          · rw [List.getD_eq_getElem?_getD, List.getElem?_eq_none (by omega), Option.getD_none]; omega
        have hmod : ∀ x : Int, 0 ≤ x → 0 ≤ Int.tmod x n ∧ Int.tmod x n < n := fun x hx => ⟨Int.tmod_nonneg _ hx, Int.tmod_lt_of_pos _ (by omega)⟩
        simp only [spec_l20Rd_pick.j0, hf, hp2, if_false, Bool.false_eq_true]
        rw [if_pos (show 0 ≤ p from hp)]
        by_cases hlt : p < (l.length : Int)
        · have hr := hrd p
          have hm := hmod (rd l p) hr.1
          refine ⟨Int.tmod (rd l p) n, ?_, hm.1, fun _ => hm.2⟩
          rw [if_pos hlt, if_neg (by omega), w64 (x := rd l p) (by omega) (by omega)]
        · have hL : (0 : Int) < l.length := by omega
          rw [if_neg hlt, if_neg (by omega)]
          have e1 : Int.tmod p l.length = p % l.length := Int.tmod_eq_emod_of_nonneg hp
          have e2 : wrap64 (wrap64 (p * 7) + 3) = p * 7 + 3 := by rw [w64 (x := p * 7) (by omega) (by omega), w64 (by omega) (by omega)]
          have e3 : Int.tmod (p * 7 + 3) l.length = (p * 7 + 3) % l.length := Int.tmod_eq_emod_of_nonneg (by omega)
          have b1 := Int.emod_nonneg p (show (l.length : Int) ≠ 0 by omega)
          have b2 := Int.emod_lt_of_pos p hL
          have b3 := Int.emod_nonneg (p * 7 + 3) (show (l.length : Int) ≠ 0 by omega)
          have b4 := Int.emod_lt_of_pos (p * 7 + 3) hL
          rw [e1, e2, e3, if_pos b1, if_pos b2, if_pos b3, if_pos b4, if_neg (by omega)]
          have r1 := hrd (p % l.length)
          have r2 := hrd ((p * 7 + 3) % l.length)
          have e4 : Int.tdiv p l.length = p / l.length := Int.tdiv_eq_ediv_of_nonneg hp
          have d1 : 0 ≤ p / (l.length : Int) := Int.ediv_nonneg hp (by omega)
          have d2 : p / (l.length : Int) ≤ p := Int.ediv_le_self _ hp
          rw [e4]
          generalize rd l (p % l.length) = a at *
          generalize rd l ((p * 7 + 3) % l.length) = b at *
          generalize p / (l.length : Int) = c at *
          have s : wrap64 (wrap64 (wrap64 (wrap64 (wrap64 a * 131) + wrap64 (wrap64 b * 1117)) + wrap64 (p * 29)) + wrap64 (wrap64 c * 53)) = a * 131 + b * 1117 + p * 29 + c * 53 := by
            rw [w64 (x := a) (by omega) (by omega), w64 (x := b) (by omega) (by omega), w64 (x := c) (by omega) (by omega), w64 (x := a * 131) (by omega) (by omega), w64 (x := b * 1117) (by omega) (by omega),
              w64 (x := a * 131 + b * 1117) (by omega) (by omega), w64 (x := p * 29) (by omega) (by omega), w64 (x := a * 131 + b * 1117 + p * 29) (by omega) (by omega), w64 (x := c * 53) (by omega) (by omega), w64 (by omega) (by omega)]
          rw [s]
          have t0 : 0 ≤ a * 131 + b * 1117 + p * 29 + c * 53 := by omega
          have t1 : a * 131 + b * 1117 + p * 29 + c * 53 < 4611686018427387904 := by omega
          generalize a * 131 + b * 1117 + p * 29 + c * 53 = x at *
          rw [show Int.tdiv x 64 = x / 64 from Int.tdiv_eq_ediv_of_nonneg t0, w64 (x := x / 64) (by omega) (by omega)]
          have hx := bxor_ge (a := x) (b := x / 64) t0 (by omega) t1 (by omega)
          have hm := hmod _ hx.1
          exact ⟨_, rfl, hm.1, fun _ => hm.2⟩
  obtain ⟨x, hx, h0, h1⟩ := key
  exact ⟨x, fun k hk => at_rounds (spec_l20Rd_pick.mono l p n) hk hx, h0, h1⟩

theorem odd_eq {l : List Int} (hl : l.length ≤ 2000) (hb : ∀ x ∈ l, 0 ≤ x ∧ x ≤ 255) (p : Int) (hp : 0 ≤ p) (hp' : p ≤ 900000) (n : Int) (hn : 1 ≤ n) (hn' : n ≤ 1000) :
    ∃ b, (∀ k, 1 ≤ k → spec_l20Rd_odd.f k l p n = some (b, p + 1)) := by
  obtain ⟨A, h1, a0, a1⟩ := pick hl hb p hp (by omega) n
  refine ⟨A == n - 1, fun k hk => ?_⟩
  unfold spec_l20Rd_odd.f
  rw [if_pos (show n > 0 by omega), h1 k hk, Option.bind_some]; dsimp only
  rw [w1s (by omega) (by omega)]

/-- The bytes of a draw: at most 2000. -/
theorem open_eq (l : List Int) : spec_l20Open.f l = some (l.take 2000, 0) := by
  unfold spec_l20Open.f
  by_cases h : (l.length : Int) > 2000
  · rw [if_pos h, if_pos (by omega)]
  · rw [if_neg h, List.take_of_length_le (by omega)]
theorem open_len (l : List Int) : (l.take 2000).length ≤ 2000 := by simp; omega
theorem open_wf {l : List Int} (h : ∀ x ∈ l, (Lit.int .u8 x).wf = true) : ∀ x ∈ l.take 2000, 0 ≤ x ∧ x ≤ 255 := fun x hx => wf_u8 (h x (List.mem_of_mem_take hx))

theorem drawPeople {l : List Int} (hl : l.length ≤ 2000) (hb : ∀ x ∈ l, 0 ≤ x ∧ x ≤ 255) (p : Int) (hp : 0 ≤ p) (hp' : p ≤ 900000) :
    ∃ n c, (∀ k, 1 ≤ k → spec_l20People.f k l p = some (n, c, p + 1 + 1 + 1 + 1 + 1 + 1)) ∧ 0 ≤ n ∧ n ≤ 7 ∧ -1000 ≤ c ∧ c ≤ 1000 := by
  obtain ⟨A, h1, a0, a1⟩ := pick hl hb p (by omega) (by omega) 6
  obtain ⟨B, h2, b0, b1⟩ := pick hl hb (p + 1) (by omega) (by omega) 40
  obtain ⟨C, h3, c0, c1⟩ := pick hl hb (p + 1 + 1) (by omega) (by omega) 40
  obtain ⟨E, h5, e0, e1⟩ := pick hl hb (p + 1 + 1 + 1 + 1) (by omega) (by omega) 40
  obtain ⟨F, h6, f0, f1⟩ := pick hl hb (p + 1 + 1 + 1 + 1 + 1) (by omega) (by omega) 40
  replace a1 := a1 (by omega)
  replace b1 := b1 (by omega)
  replace c1 := c1 (by omega)
  replace e1 := e1 (by omega)
  replace f1 := f1 (by omega)
  have hm := mnmx (1 + A + B / 39 - C / 39)
  have hfu := full_le hm.1 hm.2
  obtain ⟨D, h4, d0, d1⟩ := pick hl hb (p + 1 + 1 + 1) (by omega) (by omega) (full (mn (mx (1 + A + B / 39 - C / 39) 1) 6) + 1)
  replace d1 := d1 (by omega)
  refine ⟨1 + A + B / 39 - C / 39, D + E / 39 * 64 - F / 39 * 65, fun k hk => ?_, by omega, by omega, by omega, by omega⟩
  have hd : D < 64 := by omega
  unfold spec_l20People.f
  rw [h1 k hk, Option.bind_some]; dsimp only
  rw [h2 k hk, Option.bind_some]; dsimp only
  rw [h3 k hk, Option.bind_some]; dsimp only
  rw [wrap_people a0 a1 b0 b1 c0 c1, pow_full hm.1 hm.2, h4 k hk, Option.bind_some]; dsimp only
  rw [h5 k hk, Option.bind_some]; dsimp only
  rw [h6 k hk, Option.bind_some]; dsimp only
  rw [wrap_crowd d0 hd e0 e1 f0 f1]

theorem arePeople_eq (p : Int) : impl_arePeople.f p = some (decide (1 ≤ p ∧ p ≤ 6)) := by
  unfold impl_arePeople.f
  by_cases h : p ≥ 1
  · rw [if_pos h]; congr 1; simp [show 1 ≤ p from h]
  · rw [if_neg h]; congr 1; simp; omega
theorem isCrowd_eq (p c : Int) : impl_isCrowd.f p c = some (okC p c) := by
  unfold impl_isCrowd.f
  rw [arePeople_eq]
  simp only [Option.bind_some]
  by_cases h : 1 ≤ p ∧ p ≤ 6
  · rw [if_pos (by simpa using h)]
    by_cases h0 : c ≥ 0
    · rw [if_pos h0, if_pos (by omega), shl1 (by omega) h.2]
      congr 1
      rw [Bool.eq_iff_iff, okC_iff]; simp; omega
    · rw [if_neg h0]; congr 1
      symm; rw [Bool.eq_false_iff]; intro hc; rw [okC_iff] at hc; omega
  · rw [if_neg (by simpa using h)]; congr 1
    symm; rw [Bool.eq_false_iff]; intro hc; rw [okC_iff] at hc; omega

theorem iCrowdOk_eq (p c : Int) : impl_CrowdOk.f p c = some (okC p c) := by
  unfold impl_CrowdOk.f; rw [isCrowd_eq]; rfl

theorem alive_eq : laws_alive.f = some true := by
  unfold laws_alive.f
  rw [iCrowdOk_eq, iCrowdOk_eq]; decide

theorem draw_l0 {l : List Int} (hl : l.length ≤ 2000) (hb : ∀ x ∈ l, 0 ≤ x ∧ x ≤ 255) (np : Int) (d : Nat) : ∀ (k : Nat) (out : List Int) (c p : Int), 0 ≤ c → c.toNat = d → 0 ≤ p → p + d ≤ 800000 → out.length + d ≤ 100 → d + 5 ≤ k → ∃ out', spec_DrawLeastCrowds.l0 k np out c l p = some (np, out') ∧ out'.length ≤ out.length + d + 1 := by
  induction d with
  | zero =>
    intro k out c p c0 hc p0 p1 ho hk
    obtain ⟨k, rfl⟩ : ∃ m, k = m + 1 := ⟨k - 1, by omega⟩
    obtain ⟨b, h4⟩ := odd_eq hl hb p p0 (by omega) 20 (by omega) (by omega)
    rw [spec_DrawLeastCrowds.l0, if_neg (by omega), h4 k (by omega), Option.bind_some]; dsimp only
    cases b with
    | true => rw [if_pos rfl, if_pos (by omega)]; exact ⟨_, rfl, by simp⟩
    | false => rw [if_neg (by simp)]; exact ⟨_, rfl, by omega⟩
  | succ d ih =>
    intro k out c p c0 hc p0 p1 ho hk
    obtain ⟨k, rfl⟩ : ∃ m, k = m + 1 := ⟨k - 1, by omega⟩
    obtain ⟨A, h1, a0, _⟩ := pick hl hb p (by omega) (by omega) (wrap64 (2 ^ (mn (mx np 1) 6).toNat))
    rw [spec_DrawLeastCrowds.l0, if_pos (by omega), h1 k (by omega), Option.bind_some]; dsimp only
    rw [if_pos (by omega), w1s (by omega) (by omega)]
    obtain ⟨o, he, hlen⟩ := ih k (out ++ [A]) (c - 1) (p + 1) (by omega) (by omega) (by omega) (by omega) (by rw [List.length_append, List.length_singleton]; omega) (by omega)
    rw [List.length_append, List.length_singleton] at hlen
    exact ⟨o, he, by omega⟩
theorem draw {l : List Int} (h : ∀ x ∈ l, (Lit.int .u8 x).wf = true) (k : Nat) (hk : 50 ≤ k) : ∃ p list, spec_DrawLeastCrowds.f k l = some (p, list) ∧ list.length ≤ 10 := by
  have hl := open_len l
  have hb := open_wf h
  obtain ⟨n, c, h1, n0, n7, _, _⟩ := drawPeople hl hb 0 (by omega) (by omega)
  obtain ⟨A, h2, a0, a1⟩ := pick hl hb (0 + 1 + 1 + 1 + 1 + 1 + 1) (by omega) (by omega) 9
  replace a1 := a1 (by omega)
  obtain ⟨o, he, ho⟩ := draw_l0 hl hb n A.toNat k [] A (0 + 1 + 1 + 1 + 1 + 1 + 1 + 1) a0 rfl (by omega) (by omega) (by simp; omega) (by omega)
  refine ⟨n, o, ?_, by simp at ho; omega⟩
  unfold spec_DrawLeastCrowds.f
  rw [open_eq, Option.bind_some]; dsimp only
  rw [h1 k (by omega), Option.bind_some]; dsimp only
  rw [h2 k (by omega), Option.bind_some]; dsimp only
  exact he
theorem l3_eq {p : Int} {l L : List Int} {i : Nat} (hi : i < l.length) (hl64 : l.length ≤ 64) (hL : L.length ≤ 64) {K : Nat} (H : ∀ k', K ≤ k' → laws_FnLeastCrowds.l2 k' p l L ((i + 1 : Nat) : Int) = some true) (d : Nat) : ∀ (j : Nat) (f : Bool) (k : Nat), j + d = L.length → K + d + 1 ≤ k → (f = true ∨ ∃ m, j ≤ m ∧ ∃ h : m < L.length, band L[m] l[i] = L[m]) → laws_FnLeastCrowds.l3 k p l L (i : Int) f (j : Int) = some true := by
  have ew : ∀ n : Nat, n ≤ 64 → wrap64 ((n : Int) + 1) = ((n + 1 : Nat) : Int) := fun n hn => by rw [wr (by omega) (by omega)]; omega
  induction d with
  | zero =>
    intro j f k hj hk hf
    obtain ⟨k, rfl⟩ : ∃ m, k = m + 1 := ⟨k - 1, by omega⟩
    have : f = true := hf.resolve_right (by rintro ⟨m, a, b, _⟩; omega)
    subst this
    rw [laws_FnLeastCrowds.l3, if_neg (by omega), if_pos rfl, ew i (by omega)]
    exact H k (by omega)
  | succ d ih =>
    intro j f k hj hk hf
    obtain ⟨k, rfl⟩ : ∃ m, k = m + 1 := ⟨k - 1, by omega⟩
    have hj' : j < L.length := by omega
    rw [laws_FnLeastCrowds.l3, if_pos (by omega)]
    cases f with
    | true =>
      rw [if_pos rfl, ew j (by omega)]
      exact ih (j + 1) true k (by omega) (by omega) (.inl rfl)
    | false =>
      rw [if_neg (by simp), if_pos (by omega), if_pos (by omega), if_pos (by omega), rd_at hj', rd_at hi, ew j (by omega)]
      refine ih (j + 1) _ k (by omega) (by omega) ?_
      by_cases h : band L[j] l[i] = L[j]
      · exact .inl (beq_iff_eq.2 h)
      · obtain ⟨m, a, b, c⟩ := hf.resolve_left (by simp)
        refine .inr ⟨m, ?_, b, c⟩
        rcases Nat.lt_or_ge j m with h3 | h3
        · omega
        · have : j = m := by omega
          subst this; exact absurd c h
theorem l2_eq {p : Int} {l L : List Int} (hl64 : l.length ≤ 64) (hL : L.length ≤ 64) (hw : ∀ x ∈ l, ∃ y ∈ L, band y x = y) (hp : L.Pairwise (· < ·)) (hag : Crowds.leastC p L = L) (d : Nat) : ∀ (i : Nat) (k : Nat), i + d = l.length → 100 * d + 8000 ≤ k → laws_FnLeastCrowds.l2 k p l L (i : Int) = some true := by
  induction d with
  | zero =>
    intro i k hi hk
    obtain ⟨k, rfl⟩ : ∃ m, k = m + 1 := ⟨k - 1, by omega⟩
    rw [laws_FnLeastCrowds.l2, if_neg (by omega), ascend_eq (by omega) hp k (by omega), Option.bind_some, if_pos rfl, impl_LeastCrowds_eq p L k (by omega), Option.bind_some, hag, sameInts_eq (by omega) k (by omega), Option.bind_some]
  | succ d ih =>
    intro i k hi hk
    obtain ⟨k, rfl⟩ : ∃ m, k = m + 1 := ⟨k - 1, by omega⟩
    have hi' : i < l.length := by omega
    rw [laws_FnLeastCrowds.l2, if_pos (by omega)]
    obtain ⟨y, hy, hb⟩ := hw l[i] (List.getElem_mem hi')
    obtain ⟨m, hm, e⟩ := List.mem_iff_getElem.1 hy
    exact l3_eq hi' hl64 hL (K := 100 * d + 8000) (fun k' hk' => ih (i + 1) k' (by omega) hk') L.length 0 false k (by omega) (by omega) (.inr ⟨m, by omega, hm, by rw [e]; exact hb⟩)
theorem l1_eq {p : Int} {l L : List Int} {i : Nat} (hi : i < L.length) (hl64 : l.length ≤ 64) (hL : L.length ≤ 64) (hin : L[i] ∈ l) (hap : ∀ m (h : m < L.length), m ≠ i → band L[m] L[i] ≠ L[m]) {K : Nat} (hK : 100 ≤ K) (H : ∀ k', K ≤ k' → laws_FnLeastCrowds.l0 k' p l L ((i + 1 : Nat) : Int) = some true) (d : Nat) : ∀ (j : Nat) (k : Nat), j + d = L.length → K + d + 1 ≤ k → laws_FnLeastCrowds.l1 k p l L (i : Int) (j : Int) = some true := by
  have ew : ∀ n : Nat, n ≤ 64 → wrap64 ((n : Int) + 1) = ((n + 1 : Nat) : Int) := fun n hn => by rw [wr (by omega) (by omega)]; omega
  induction d with
  | zero =>
    intro j k hj hk
    obtain ⟨k, rfl⟩ : ∃ m, k = m + 1 := ⟨k - 1, by omega⟩
    rw [laws_FnLeastCrowds.l1, if_neg (by omega), if_pos (by omega), if_pos (by omega), rd_at hi, hasInt_eq (by omega) k (by omega) hin, Option.bind_some, if_pos rfl, ew i (by omega)]
    exact H k (by omega)
  | succ d ih =>
    intro j k hj hk
    obtain ⟨k, rfl⟩ : ∃ m, k = m + 1 := ⟨k - 1, by omega⟩
    have hj' : j < L.length := by omega
    rw [laws_FnLeastCrowds.l1, if_pos (by omega), ew j (by omega)]
    by_cases h : j = i
    · rw [if_pos (by omega)]; exact ih (j + 1) k (by omega) (by omega)
    · rw [if_neg (by omega), if_pos (by omega), if_pos (by omega), if_pos (by omega), rd_at hj', rd_at hi, if_neg (hap j hj' h)]
      exact ih (j + 1) k (by omega) (by omega)
theorem l0_eq {p : Int} {l L : List Int} (hl64 : l.length ≤ 64) (hL : L.length ≤ 64) (hin : ∀ x ∈ L, x ∈ l) (hap : ∀ i (hi : i < L.length) m (h : m < L.length), m ≠ i → band L[m] L[i] ≠ L[m]) (hw : ∀ x ∈ l, ∃ y ∈ L, band y x = y) (hp : L.Pairwise (· < ·)) (hag : Crowds.leastC p L = L) (d : Nat) : ∀ (i : Nat) (k : Nat), i + d = L.length → 100 * d + 15000 ≤ k → laws_FnLeastCrowds.l0 k p l L (i : Int) = some true := by
  induction d with
  | zero =>
    intro i k hi hk
    obtain ⟨k, rfl⟩ : ∃ m, k = m + 1 := ⟨k - 1, by omega⟩
    rw [laws_FnLeastCrowds.l0, if_neg (by omega)]
    exact l2_eq hl64 hL hw hp hag l.length 0 k (by omega) (by omega)
  | succ d ih =>
    intro i k hi hk
    obtain ⟨k, rfl⟩ : ∃ m, k = m + 1 := ⟨k - 1, by omega⟩
    have hi' : i < L.length := by omega
    rw [laws_FnLeastCrowds.l0, if_pos (by omega)]
    exact l1_eq hi' hl64 hL (hin _ (List.getElem_mem hi')) (hap i hi') (K := 100 * d + 15000) (by omega) (fun k' hk' => ih (i + 1) k' (by omega) hk') L.length 0 k (by omega) (by omega)
theorem len (p : Int) (l : List Int) : (Crowds.leastC p l).length ≤ l.length := by
  unfold Crowds.leastC
  split
  · have h1 := Lib.compact_length_le ((l.filter (Crowds.least l)).mergeSort fun x y => decide (x ≤ y))
    rw [List.length_mergeSort] at h1
    have h2 := List.length_filter_le (Crowds.least l) l
    omega
  · simp
theorem main : laws_FnLeastCrowds.Pure := by
  intro l _ _ h
  refine ⟨30000, ?_⟩
  unfold laws_FnLeastCrowds.f
  by_cases hl : (l.length : Int) > 1048576
  · rw [if_pos hl]
  rw [if_neg hl]
  obtain ⟨p, list, hdr, hlen⟩ := draw h 30000 (by omega)
  rw [hdr, Option.bind_some]; dsimp only
  have hr := len p list
  rw [impl_LeastCrowds_eq p list 30000 (by omega), Option.bind_some, spec_LeastCrowds_eq p list 30000 (by omega), Option.bind_some, sameInts_eq (by omega) 30000 (by omega), Option.bind_some, if_pos rfl]
  by_cases h0 : Crowds.leastC p list = []
  · rw [h0, if_pos (by simp), alive_eq, Option.bind_some]
  · obtain ⟨h1, h64, hl⟩ := lc_good h0
    have hm := lc_mem h1 h64 hl
    have hne : ¬ ((Crowds.leastC p list).length : Int) = 0 := by
      intro h; apply h0; exact List.length_eq_zero_iff.1 (by omega)
    rw [if_neg hne]
    refine l0_eq h64 (by omega) (fun x hx => ((hm x).1 hx).1) (fun i hi m hmm hne2 hb => ?_) (fun x hx => lc_within h1 h64 hl x.toNat x hx (by omega)) (lc_lt p list) (lc_again h0 hr) (Crowds.leastC p list).length 0 30000 (by omega) (by omega)
    have e := lc_apart h1 h64 hl (List.getElem_mem hi) (List.getElem_mem hmm) hb
    have hp := lc_lt p list
    rcases Nat.lt_or_gt_of_ne hne2 with h3 | h3
    · have := List.pairwise_iff_getElem.1 hp m i hmm hi h3; omega
    · have := List.pairwise_iff_getElem.1 hp i m hi hmm h3; omega

end Go.Proofs.Ytcflipknnijmdaa.Pure.fnLeastCrowds
namespace Go.Proofs.Ytcflipknnijmdaa.Pure
open Go.Proofs.Ytcflipknnijmdaa.PFnLeastCrowds
theorem FnLeastCrowds : laws_FnLeastCrowds.Pure := fnLeastCrowds.main
end Go.Proofs.Ytcflipknnijmdaa.Pure
