/- The mathematics of the least deciding crowds: just those with as many heads as the quota. No condition. -/
import Derived.Test.YtcflipknnijmdaaCrowdsM
import Derived.Test.YtcflipknnijmdaaBase
set_option linter.unusedVariables false
set_option linter.unusedSimpArgs false
namespace Go.Proofs.Ytcflipknnijmdaa.Crowds
open Go Go.Proofs Go.Lib Go.Proofs.Ytcflipknnijmdaa.Base

/-- Are the crowd's people all members, and do they decide? -/
def so (m q c : Int) : Bool := (Go.bits .andNot .i64 c m == 0) && decide (hd (band m c) ≥ q)
def row (n : Nat) : List Int := (List.range' 0 n).map Int.ofNat
theorem row_mem {n : Nat} {x : Int} : x ∈ row n ↔ 0 ≤ x ∧ x < n := by
  unfold row
  rw [List.mem_map]
  constructor
  · rintro ⟨k, hk, rfl⟩
    simp at hk ⊢; omega
  · rintro ⟨h0, h1⟩
    exact ⟨x.toNat, by simp; omega, by simp; omega⟩
theorem row_lt (n : Nat) : (row n).Pairwise (· < ·) := by
  unfold row
  rw [List.pairwise_map]
  refine List.Pairwise.imp (fun {a b} h => ?_) (List.pairwise_lt_range' (s := 0) (n := n))
  simp only [Int.ofNat_eq_natCast]; omega
/-- The crowds that decide. -/
def decL (p m q : Int) : List Int := (row (full p + 1).toNat).filter (so m q)
def leastL (l : List Int) : List Int := Lib.compact ((l.filter (least l)).mergeSort fun x y => decide (x ≤ y))
/-- The least of them. -/
def decC (p m q : Int) : List Int := if okB p m q = true then leastL (decL p m q) else []
/-- Is it one of the members' crowds with just the quota? -/
def just (m q c : Int) : Bool := (band c m == c) && (hd c == q)
theorem less_all : ∀ x : Fin 64, 1 ≤ hd (x.val : Int) → (band x.val ((x.val : Int) - 1) == x.val) = false ∧ hd (band x.val ((x.val : Int) - 1)) + 1 = hd x.val ∧ (Go.bits .andNot .i64 (band x.val ((x.val : Int) - 1)) x.val == 0) = true ∧ 1 ≤ (x.val : Int) := by decide +kernel
theorem less {x : Int} (h0 : 0 ≤ x) (h1 : x < 64) (h : 1 ≤ hd x) : (band x (x - 1) == x) = false ∧ hd (band x (x - 1)) + 1 = hd x ∧ (Go.bits .andNot .i64 (band x (x - 1)) x == 0) = true ∧ 1 ≤ x :=
  all64 (P := fun x => 1 ≤ hd x → (band x (x - 1) == x) = false ∧ hd (band x (x - 1)) + 1 = hd x ∧ (Go.bits .andNot .i64 (band x (x - 1)) x == 0) = true ∧ 1 ≤ x) less_all x h0 h1 h
theorem in_all : ∀ x m : Fin 64, (band x.val m.val == x.val) = true → (band (band x.val ((x.val : Int) - 1)) m.val == band x.val ((x.val : Int) - 1)) = true := by decide +kernel
theorem in_less {x m : Int} (h0 : 0 ≤ x) (h1 : x < 64) (m0 : 0 ≤ m) (m1 : m < 64) (h : (band x m == x) = true) : (band (band x (x - 1)) m == band x (x - 1)) = true :=
  lift64 (P := fun x m => (band x m == x) = true → (band (band x (x - 1)) m == band x (x - 1)) = true) in_all h0 h1 m0 m1 h
theorem same_all : ∀ d x : Fin 64, (band d.val x.val == d.val) = true → hd x.val ≤ hd d.val → (d.val : Int) = x.val := by decide +kernel
theorem same_heads {d x : Int} (h0 : 0 ≤ d) (h1 : d < 64) (x0 : 0 ≤ x) (x1 : x < 64) (h : (band d x == d) = true) (hh : hd x ≤ hd d) : d = x :=
  lift64 (P := fun d x => (band d x == d) = true → hd x ≤ hd d → d = x) same_all h0 h1 x0 x1 h hh
theorem not_all : ∀ d c : Fin 64, (Go.bits .andNot .i64 (d.val : Int) c.val == 0) = (band d.val c.val == d.val) := by decide +kernel
theorem within {d c : Int} (d0 : 0 ≤ d) (d1 : d < 64) (c0 : 0 ≤ c) (c1 : c < 64) : (Go.bits .andNot .i64 d c == 0) = (band d c == d) :=
  lift64 (P := fun d c => (Go.bits .andNot .i64 d c == 0) = (band d c == d)) not_all d0 d1 c0 c1
theorem so_iff {m q c : Int} (m0 : 0 ≤ m) (m1 : m < 64) (c0 : 0 ≤ c) (c1 : c < 64) : so m q c = true ↔ (band c m == c) = true ∧ q ≤ hd c := by
  unfold so
  rw [within c0 c1 m0 m1, Bool.and_eq_true, decide_eq_true_eq, band_comm m c]
  constructor
  · rintro ⟨h1, h2⟩
    refine ⟨h1, ?_⟩
    rw [eq_of_beq h1] at h2; exact h2
  · rintro ⟨h1, h2⟩
    refine ⟨h1, ?_⟩
    rw [eq_of_beq h1]; exact h2
theorem leastL_mem (l : List Int) (x : Int) : x ∈ leastL l ↔ x ∈ l ∧ least l x = true := by
  unfold leastL
  rw [compact_mem, List.mem_mergeSort, List.mem_filter]
theorem dec_eq (p m q : Int) : decC p m q = if okB p m q = true then (row (full p + 1).toNat).filter (just m q) else [] := by
  unfold decC
  by_cases hB : okB p m q = true
  · rw [if_pos hB, if_pos hB]
    obtain ⟨hm, q1, qm⟩ := okB_iff.1 hB
    obtain ⟨h1, h6, m0, m64, mf⟩ := okC_lt hm
    have hf := full_le h1 h6
    have hN : (((full p + 1).toNat : Nat) : Int) = full p + 1 := by omega
    have L : ∀ x, x ∈ decL p m q ↔ (0 ≤ x ∧ x < full p + 1) ∧ (band x m == x) = true ∧ q ≤ hd x := by
      intro x
      unfold decL
      rw [List.mem_filter, row_mem, hN]
      constructor
      · rintro ⟨h, hs⟩; exact ⟨h, (so_iff m0 m64 h.1 (by omega)).1 hs⟩
      · rintro ⟨h, hs⟩; exact ⟨h, (so_iff m0 m64 h.1 (by omega)).2 hs⟩
    refine uniq _ _ (compact_lt (sort_le _)) ((row_lt _).filter _) (fun x => ?_)
    rw [leastL_mem, L, List.mem_filter, row_mem, hN]
    constructor
    · rintro ⟨⟨hx, hin, hq⟩, hl⟩
      refine ⟨hx, ?_⟩
      unfold just
      rw [hin, Bool.true_and, beq_iff_eq]
      rcases Int.lt_or_le q (hd x) with h | h
      · exfalso
        have hx1 := less hx.1 (by omega) (by omega)
        have hb := band_lt (a := x) (b := x - 1) hx.1 (by omega) (by omega) (by omega)
        have hy : band x (x - 1) ∈ decL p m q := (L _).2 ⟨⟨hb.1, by omega⟩, in_less hx.1 (by omega) m0 m64 hin, by omega⟩
        unfold least at hl
        rw [Bool.not_eq_true', List.any_eq_false] at hl
        have := hl _ hy
        rw [hx1.2.2.1, Bool.and_true] at this
        apply this
        rw [bne, hx1.1]; rfl
      · omega
    · rintro ⟨hx, hj⟩
      unfold just at hj
      rw [Bool.and_eq_true, beq_iff_eq (a := hd x)] at hj
      refine ⟨⟨hx, hj.1, by omega⟩, ?_⟩
      unfold least
      rw [Bool.not_eq_true', List.any_eq_false]
      intro d hd' h
      obtain ⟨hd0, hin, hq⟩ := (L d).1 hd'
      rw [Bool.and_eq_true, within hd0.1 (by omega) hx.1 (by omega)] at h
      have := same_heads hd0.1 (by omega) hx.1 (by omega) h.2 (by omega)
      rw [this] at h
      simp at h
  · rw [if_neg hB, if_neg hB]
theorem decL_len {p m q : Int} (h1 : 1 ≤ p) (h6 : p ≤ 6) : (decL p m q).length ≤ 64 := by
  have hf := full_le h1 h6
  unfold decL row
  refine Nat.le_trans (List.length_filter_le _ _) ?_
  simp; omega

/-! ### What the laws ask -/
theorem dec_mem {p m q : Int} (hB : okB p m q = true) (x : Int) : x ∈ decC p m q ↔ (0 ≤ x ∧ x ≤ full p) ∧ band x m = x ∧ hd x = q := by
  obtain ⟨hm, q1, qm⟩ := okB_iff.1 hB
  obtain ⟨h1, h6, _⟩ := okC_lt hm
  have hf := full_le h1 h6
  rw [dec_eq, if_pos hB, List.mem_filter, row_mem]
  unfold just
  rw [Bool.and_eq_true, beq_iff_eq, beq_iff_eq]
  have : (((full p + 1).toNat : Nat) : Int) = full p + 1 := by omega
  rw [this]
  constructor
  · rintro ⟨a, b⟩; exact ⟨by omega, b⟩
  · rintro ⟨a, b⟩; exact ⟨by omega, b⟩
theorem dec_lt (p m q : Int) : (decC p m q).Pairwise (· < ·) := by
  rw [dec_eq]
  split
  · exact (row_lt _).filter _
  · exact List.Pairwise.nil
theorem dec_len (p m q : Int) : (decC p m q).length ≤ 64 := by
  rw [dec_eq]
  split
  · rename_i hB
    obtain ⟨h1, h6, _⟩ := okC_lt (okB_iff.1 hB).1
    have hf := full_le h1 h6
    refine Nat.le_trans (List.length_filter_le _ _) ?_
    unfold row
    simp; omega
  · simp
theorem some_all : ∀ m : Fin 64, ∀ q : Fin 7, (q.val : Int) ≤ hd m.val → ((List.range 64).any fun c => ((c &&& m.val) == c) && (hd (c : Int) == q.val)) = true := by decide +kernel
/-- Some crowd of members has just so many heads. -/
theorem some_just {p m q : Int} (hm : okC p m = true) (q0 : 0 ≤ q) (hq : q ≤ hd m) : ∃ c, (0 ≤ c ∧ c ≤ full p) ∧ band c m = c ∧ hd c = q := by
  obtain ⟨h1, h6, m0, m64, mf⟩ := okC_lt hm
  have h7 := hd_le m0 m64
  have := some_all ⟨m.toNat, by omega⟩ ⟨q.toNat, by omega⟩ (by simp only [Int.toNat_of_nonneg m0, Int.toNat_of_nonneg q0]; exact hq)
  rw [List.any_eq_true] at this
  obtain ⟨c, hc, h⟩ := this
  rw [List.mem_range] at hc
  rw [Bool.and_eq_true, beq_iff_eq, beq_iff_eq] at h
  have hb : band (c : Int) m = c := by
    have := band_nat c m.toNat (by omega) (by omega)
    rw [Int.toNat_of_nonneg m0] at this
    rw [this, h.1]
  have hl := band_lt (a := (c : Int)) (b := m) (by omega) (by omega) m0 m64
  refine ⟨c, ⟨by omega, by omega⟩, hb, ?_⟩
  rw [h.2]; simp only [Int.toNat_of_nonneg q0]
/-- There is a least deciding crowd. -/
theorem dec_some {p m q : Int} (hB : okB p m q = true) : decC p m q ≠ [] := by
  obtain ⟨hm, q1, qm⟩ := okB_iff.1 hB
  obtain ⟨c, h⟩ := some_just hm (by omega) qm
  intro he
  have := (dec_mem hB c).2 h
  rw [he] at this; simp at this
theorem bor_in_all : ∀ x y : Fin 64, ∀ m : Fin 64, band x.val m.val = x.val → band y.val m.val = y.val → band (bor x.val y.val) m.val = bor x.val y.val := by
  intro x y m hx hy
  have hxy : x.val ||| y.val < 64 := Nat.or_lt_two_pow (n := 6) x.isLt y.isLt
  rw [band_nat _ _ x.isLt m.isLt] at hx
  rw [band_nat _ _ y.isLt m.isLt] at hy
  rw [bor_nat _ _ x.isLt y.isLt, band_nat _ _ hxy m.isLt]
  have hx' : x.val &&& m.val = x.val := by exact_mod_cast hx
  have hy' : y.val &&& m.val = y.val := by exact_mod_cast hy
  congr 1
  rw [Nat.and_or_distrib_right, hx', hy']
/-- Two crowds of members that have more heads together than there are members have somebody in common. -/
theorem meet {m x y : Int} (m0 : 0 ≤ m) (m1 : m < 64) (x0 : 0 ≤ x) (x1 : x < 64) (y0 : 0 ≤ y) (y1 : y < 64) (hx : band x m = x) (hy : band y m = y) (h : hd m < hd x + hd y) : band x y ≠ 0 := by
  intro h0
  have s := hd_sum x0 x1 y0 y1
  rw [h0, hd_zero] at s
  have hb := bor_in_all ⟨x.toNat, by omega⟩ ⟨y.toNat, by omega⟩ ⟨m.toNat, by omega⟩
  simp only [Int.toNat_of_nonneg x0, Int.toNat_of_nonneg y0, Int.toNat_of_nonneg m0] at hb
  have hb := hb hx hy
  have hlt : 0 ≤ bor x y ∧ bor x y < 64 := by
    obtain ⟨a, rfl⟩ := Int.eq_ofNat_of_zero_le x0
    obtain ⟨b, rfl⟩ := Int.eq_ofNat_of_zero_le y0
    have : a ||| b < 64 := Nat.or_lt_two_pow (n := 6) (by omega) (by omega)
    rw [bor_nat a b (by omega) (by omega)]; omega
  have := (hd_band hlt.1 hlt.2 m0 m1).2
  rw [hb] at this
  omega
theorem bor_sub_all : ∀ m x : Fin 64, band x.val m.val = x.val → hd ((m.val : Int) - x.val) = hd m.val - hd x.val ∧ band ((m.val : Int) - x.val) m.val = (m.val : Int) - x.val ∧ 0 ≤ (m.val : Int) - x.val := by decide +kernel
theorem in_rest_all : ∀ y r x : Fin 64, band y.val r.val = y.val → band x.val r.val = 0 → band y.val x.val = 0 := by
  intro y r x h1 h2
  rw [band_nat _ _ y.isLt r.isLt] at h1
  rw [band_nat _ _ x.isLt r.isLt] at h2
  rw [band_nat _ _ y.isLt x.isLt]
  have h1' : y.val &&& r.val = y.val := by exact_mod_cast h1
  have h2' : x.val &&& r.val = 0 := by exact_mod_cast h2
  have : y.val &&& x.val = 0 := by
    rw [← h1', Nat.and_assoc, Nat.and_comm r.val x.val, h2', Nat.and_zero]
  rw [this]; rfl
theorem rest_all : ∀ m x : Fin 64, band x.val m.val = x.val → band x.val ((m.val : Int) - x.val) = 0 := by decide +kernel
theorem in_trans_all : ∀ y r m : Fin 64, band y.val r.val = y.val → band r.val m.val = r.val → band y.val m.val = y.val := by
  intro y r m h1 h2
  rw [band_nat _ _ y.isLt r.isLt] at h1
  rw [band_nat _ _ r.isLt m.isLt] at h2
  rw [band_nat _ _ y.isLt m.isLt]
  have h1' : y.val &&& r.val = y.val := by exact_mod_cast h1
  have h2' : r.val &&& m.val = r.val := by exact_mod_cast h2
  rw [show y.val &&& m.val = y.val from by rw [← h1', Nat.and_assoc, h2']]
/-- Two crowds of members with the quota's heads each that have nobody in common. -/
theorem two_apart {p m q : Int} (hm : okC p m = true) (q1 : 1 ≤ q) (h2 : 2 * q ≤ hd m) : ∃ u v, ((0 ≤ u ∧ u ≤ full p) ∧ band u m = u ∧ hd u = q) ∧ ((0 ≤ v ∧ v ≤ full p) ∧ band v m = v ∧ hd v = q) ∧ band u v = 0 ∧ u ≠ v := by
  obtain ⟨h1, h6, m0, m64, mf⟩ := okC_lt hm
  have hf := full_le h1 h6
  obtain ⟨u, hu, hum, huq⟩ := some_just hm (q := q) (by omega) (by omega)
  have hs := lift64 (P := fun m x => band x m = x → hd (m - x) = hd m - hd x ∧ band (m - x) m = m - x ∧ 0 ≤ m - x) bor_sub_all m0 m64 hu.1 (by omega) hum
  have hr : okC p (m - u) = true := okC_of h1 h6 hs.2.2 (by omega)
  obtain ⟨v, hv, hvm, hvq⟩ := some_just hr (q := q) (by omega) (by omega)
  have hrest := lift64 (P := fun m x => band x m = x → band x (m - x) = 0) rest_all m0 m64 hu.1 (by omega) hum
  have h0 : band v u = 0 := by
    have := in_rest_all ⟨v.toNat, by omega⟩ ⟨(m - u).toNat, by omega⟩ ⟨u.toNat, by omega⟩
    simp only [Int.toNat_of_nonneg hv.1, Int.toNat_of_nonneg hu.1, Int.toNat_of_nonneg hs.2.2] at this
    exact this hvm hrest
  have hvm2 : band v m = v := by
    have := in_trans_all ⟨v.toNat, by omega⟩ ⟨(m - u).toNat, by omega⟩ ⟨m.toNat, by omega⟩
    simp only [Int.toNat_of_nonneg hv.1, Int.toNat_of_nonneg m0, Int.toNat_of_nonneg hs.2.2] at this
    exact this hvm hs.2.1
  refine ⟨u, v, ⟨hu, hum, huq⟩, ⟨hv, hvm2, hvq⟩, by rw [band_comm]; exact h0, ?_⟩
  intro e
  subst e
  have := hd_band (a := u) (b := u) hu.1 (by omega) hu.1 (by omega)
  have hself : band u u = u := by
    obtain ⟨a, rfl⟩ := Int.eq_ofNat_of_zero_le hu.1
    rw [band_nat a a (by omega) (by omega), Nat.and_self]
  rw [hself] at h0
  rw [h0, hd_zero] at huq
  omega

/-! ### How many there are -/
/-- How many of the members' crowds have just so many heads. -/
def cnt (m q : Nat) : Nat := ((List.range 64).filter fun c => ((c &&& m) == c) && (hd (c : Int) == q)).length
/-- How many crowds of so many of n there are. -/
def choose : Nat → Nat → Nat
  | _, 0 => 1
  | 0, _ + 1 => 0
  | n + 1, k + 1 => choose n k + choose n (k + 1)
theorem cnt_all : ∀ m : Fin 64, ∀ q : Fin 7, cnt m.val q.val = choose (hd m.val).toNat q.val := by decide +kernel
theorem row_all (n : Nat) : row n = (List.range n).map Int.ofNat := by unfold row; rw [List.range_eq_range']
theorem dec_many {p m q : Int} (hB : okB p m q = true) : (decC p m q).length = choose (hd m).toNat q.toNat := by
  obtain ⟨hm, q1, qm⟩ := okB_iff.1 hB
  obtain ⟨h1, h6, m0, m64, mf⟩ := okC_lt hm
  have hf := full_le h1 h6
  have h7 := hd_le m0 m64
  have c := cnt_all ⟨m.toNat, by omega⟩ ⟨q.toNat, by omega⟩
  simp only [Int.toNat_of_nonneg m0] at c
  rw [← c, dec_eq, if_pos hB, row_all, List.filter_map, List.length_map]
  unfold cnt
  have e : ∀ n : Nat, n ≤ 64 → m < n → ((List.range n).filter ((just m q) ∘ Int.ofNat)).length = ((List.range 64).filter fun c => ((c &&& m.toNat) == c) && (hd (c : Int) == q.toNat)).length := by
    intro n hn hmn
    have e1 : ∀ c, c < 64 → (just m q ∘ Int.ofNat) c = (((c &&& m.toNat) == c) && (hd (c : Int) == q.toNat)) := by
      intro c hc
      show ((band (c : Int) m == (c : Int)) && (hd (c : Int) == q)) = _
      have := band_nat c m.toNat hc (by omega)
      rw [Int.toNat_of_nonneg m0] at this
      rw [this, Int.toNat_of_nonneg (show 0 ≤ q by omega)]
      congr 1
      rw [Bool.eq_iff_iff, beq_iff_eq, beq_iff_eq]
      omega
    rw [show (64 : Nat) = n + (64 - n) from by omega, List.range_add, List.filter_append, List.length_append]
    rw [List.filter_congr (fun c hc => e1 c (by rw [List.mem_range] at hc; omega))]
    rw [show ((List.map (fun x => n + x) (List.range (64 - n))).filter fun c => ((c &&& m.toNat) == c) && (hd (c : Int) == q.toNat)) = [] from ?_]
    · simp
    · rw [List.filter_eq_nil_iff]
      intro c hc h
      rw [List.mem_map] at hc
      obtain ⟨x, hx, rfl⟩ := hc
      rw [Bool.and_eq_true, beq_iff_eq] at h
      have : (n + x) &&& m.toNat ≤ m.toNat := Nat.and_le_right
      omega
  exact e _ (by omega) (by omega)
theorem choose_sym : ∀ n : Fin 7, ∀ k : Fin 7, k.val ≤ n.val → choose n.val k.val = choose n.val (n.val - k.val) := by decide +kernel
theorem choose_self : ∀ n : Fin 7, choose n.val n.val = 1 := by decide +kernel
/-- The crowds of 1 to k of n. -/
def chooses (n : Nat) : Nat → Nat
  | 0 => 0
  | k + 1 => chooses n k + choose n (k + 1)
theorem chooses_all : ∀ n : Fin 7, chooses n.val n.val + 1 = 2 ^ n.val := by decide +kernel
theorem chooses_le : ∀ n k : Fin 7, chooses n.val k.val ≤ 1000 := by decide +kernel
end Go.Proofs.Ytcflipknnijmdaa.Crowds
