/- Plain facts about crowds as whole numbers below 64: how many bits are 1, what lacks to a crowd, and the like. No condition. -/
import Derived.Test.YtoifikhcnioagaaDoorV
set_option linter.unusedVariables false
set_option linter.unusedSimpArgs false
namespace Go.Proofs.YtoifikhcnioagaaDoor.PrintWords
/-- The bound of a slice that comes in, under the name by which the rows call it. -/
theorem sized_ints {H : Type} {enc : TypeId × Value → H} {P : Program} {W : World} {base len cap B j : Nat} {spare : Nat → Bool} {held : Bool} {t e : TypeId} {k : IntKind} {a : Option Addr}
    {d : DataW H} {ps : List MemPlace} {ts : List TypeId} {ds : List (DataW H)} (hw : (DataW.weightsEach P ts ds).all (· ≤ reachBytes) = true) (h1 : ts[j]? = some t) (h2 : ds[j]? = some d)
    (h3 : P.underlying t = some (.slice e)) (h4 : P.underlying e = some (.int k)) (h5 : P.cellsOf e = 1) (h6 : P.bytesOf e = B) (h : DataW.Trod enc P W base spare held t (.slice a len cap) d ps) : len * B ≤ 140737488351232 :=
  Go.Proofs.YtoifikhcnioagaaDoorW.PrintWords.sized_ints hw h1 h2 h3 h4 h5 h6 h
end Go.Proofs.YtoifikhcnioagaaDoor.PrintWords
namespace Go.Proofs.YtoifikhcnioagaaDoor.Base
open Go.RowKit Go.Proofs.YtoifikhcnioagaaDoorW.PrintWords Go.Proofs.YtoifikhcnioagaaDoorW.PrintMore

theorem all64 {P : Int → Prop} (h : ∀ n : Fin 64, P (n.val : Int)) (c : Int) (h0 : 0 ≤ c) (h1 : c < 64) : P c := by
  have := h ⟨c.toNat, by omega⟩
  simpa [Int.toNat_of_nonneg h0] using this
theorem all7 {P : Int → Prop} (h : ∀ n : Fin 7, P (n.val : Int)) (c : Int) (h0 : 0 ≤ c) (h1 : c ≤ 6) : P c := by
  have := h ⟨c.toNat, by omega⟩
  simpa [Int.toNat_of_nonneg h0] using this

/-- All people, as a crowd. -/
def full (p : Int) : Int := 2 ^ p.toNat - 1
/-- How many bits of a number below 64 are 1. -/
def hd (c : Int) : Int := c % 2 + c / 2 % 2 + c / 4 % 2 + c / 8 % 2 + c / 16 % 2 + c / 32 % 2
/-- p people, c a crowd of them. -/
def okC (p c : Int) : Bool := decide (1 ≤ p ∧ p ≤ 6 ∧ 0 ≤ c ∧ c ≤ full p)
def okB (p m q : Int) : Bool := okC p m && decide (1 ≤ q ∧ q ≤ hd m)
theorem okC_iff {p c : Int} : okC p c = true ↔ 1 ≤ p ∧ p ≤ 6 ∧ 0 ≤ c ∧ c ≤ full p := by simp [okC]
theorem okB_iff {p m q : Int} : okB p m q = true ↔ okC p m = true ∧ 1 ≤ q ∧ q ≤ hd m := by simp [okB]
theorem people {p : Int} (h1 : 1 ≤ p) (h6 : p ≤ 6) : p = 1 ∨ p = 2 ∨ p = 3 ∨ p = 4 ∨ p = 5 ∨ p = 6 := by omega
theorem full_le {p : Int} (h1 : 1 ≤ p) (h6 : p ≤ 6) : 1 ≤ full p ∧ full p ≤ 63 := by
  rcases people h1 h6 with rfl | rfl | rfl | rfl | rfl | rfl <;> decide
theorem okC_lt {p c : Int} (h : okC p c = true) : 1 ≤ p ∧ p ≤ 6 ∧ 0 ≤ c ∧ c < 64 ∧ c ≤ full p := by
  obtain ⟨h1, h6, h0, hc⟩ := okC_iff.1 h
  have := full_le h1 h6
  exact ⟨h1, h6, h0, by omega, hc⟩
theorem okC_of {p c : Int} (h1 : 1 ≤ p) (h6 : p ≤ 6) (h0 : 0 ≤ c) (hc : c ≤ full p) : okC p c = true := okC_iff.2 ⟨h1, h6, h0, hc⟩
theorem shl1 {p : Int} (h0 : 0 ≤ p) (h6 : p ≤ 6) : shl .i64 1 p = full p + 1 := by
  have : p = 0 ∨ p = 1 ∨ p = 2 ∨ p = 3 ∨ p = 4 ∨ p = 5 ∨ p = 6 := by omega
  rcases this with rfl | rfl | rfl | rfl | rfl | rfl | rfl <;> decide
theorem w64 {x : Int} (h0 : -9223372036854775808 ≤ x) (h1 : x ≤ 9223372036854775807) : wrap64 x = x := by unfold wrap64; omega
theorem w64r (x : Int) : -9223372036854775808 ≤ wrap64 x ∧ wrap64 x ≤ 9223372036854775807 := by unfold wrap64; omega
theorem hd_le {c : Int} (h0 : 0 ≤ c) (h1 : c < 64) : 0 ≤ hd c ∧ hd c ≤ 6 := by unfold hd; omega
theorem hd_pos_all : ∀ c : Fin 64, 1 ≤ (c.val : Int) → 1 ≤ hd c.val := by decide +kernel
theorem hd_pos {c : Int} (h0 : 1 ≤ c) (h1 : c < 64) : 1 ≤ hd c := all64 (P := fun c => 1 ≤ c → 1 ≤ hd c) hd_pos_all c (by omega) h1 h0
theorem hd_zero : hd 0 = 0 := rfl

abbrev band (a b : Int) : Int := Go.bits .and .i64 a b
abbrev bxor (a b : Int) : Int := Go.bits .xor .i64 a b
abbrev bor (a b : Int) : Int := Go.bits .or .i64 a b
theorem band_comm (a b : Int) : band a b = band b a := by simp only [band, Go.bits, BitVec.and_comm]
theorem wrap_nat (n : Nat) (h : n < 64) : IntKind.i64.wrap (n : Int) = n := by
  rw [IntKind.wrap_i64]; omega
theorem wraps6 (n : Int) (h0 : 0 ≤ n) (h1 : n < 2 ^ 6) : IntKind.i64.wrap n = n := by rw [IntKind.wrap_i64]; omega
/-- The bit by bit 'and' of two numbers below 64, on natural numbers. -/
theorem band_nat (a b : Nat) (ha : a < 64) (hb : b < 64) : band a b = ((a &&& b : Nat) : Int) := (bits_nat .i64 6 (by decide) wraps6 a b ha hb).1
theorem bor_nat (a b : Nat) (ha : a < 64) (hb : b < 64) : bor a b = ((a ||| b : Nat) : Int) := (bits_nat .i64 6 (by decide) wraps6 a b ha hb).2
theorem bxor_nat (k : IntKind) (j : Nat) (hj : j ≤ k.bits) (hk : ∀ n : Int, 0 ≤ n → n < 2 ^ j → k.wrap n = n) (a b : Nat) (ha : a < 2 ^ j) (hb : b < 2 ^ j) :
    Go.bits .xor k a b = ((a ^^^ b : Nat) : Int) := by
  have hp : 2 ^ j ≤ 2 ^ k.bits := Nat.pow_le_pow_right (by decide) hj
  have ha' : a % 2 ^ k.bits = a := Nat.mod_eq_of_lt (Nat.lt_of_lt_of_le ha hp)
  have hb' : b % 2 ^ k.bits = b := Nat.mod_eq_of_lt (Nat.lt_of_lt_of_le hb hp)
  simp only [Go.bits, BitVec.ofInt_natCast, BitVec.toNat_xor, BitVec.toNat_ofNat, ha', hb']
  exact hk _ (Int.natCast_nonneg _) (by exact_mod_cast Nat.xor_lt_two_pow ha hb)
theorem wraps62 (n : Int) (h0 : 0 ≤ n) (h1 : n < 2 ^ 62) : IntKind.i64.wrap n = n := by rw [IntKind.wrap_i64]; omega
theorem bxor_ge {a b : Int} (ha : 0 ≤ a) (hb : 0 ≤ b) (ha' : a < 4611686018427387904) (hb' : b < 4611686018427387904) : 0 ≤ bxor a b ∧ bxor a b < 4611686018427387904 := by
  obtain ⟨m, rfl⟩ := Int.eq_ofNat_of_zero_le ha
  obtain ⟨n, rfl⟩ := Int.eq_ofNat_of_zero_le hb
  have hm : m < 2 ^ 62 := by omega
  have hn : n < 2 ^ 62 := by omega
  have := Nat.xor_lt_two_pow hm hn
  rw [show bxor (m : Int) (n : Int) = ((m ^^^ n : Nat) : Int) from bxor_nat .i64 62 (by decide) wraps62 m n hm hn]
  omega
/-- What lacks to a crowd, by 'xor'. -/
theorem xor_all : ∀ p : Fin 7, ∀ c : Fin 64, okC p.val c.val = true → bxor (full p.val) c.val = full p.val - c.val := by decide +kernel
theorem xor_full {p c : Int} (h : okC p c = true) : bxor (full p) c = full p - c := by
  obtain ⟨h1, h6, h0, hc, _⟩ := okC_lt h
  have := xor_all ⟨p.toNat, by omega⟩ ⟨c.toNat, by omega⟩
  simp only [Int.toNat_of_nonneg h0, Int.toNat_of_nonneg (show 0 ≤ p by omega)] at this
  exact this h
theorem okC_lack {p c : Int} : okC p (full p - c) = okC p c := by
  rw [Bool.eq_iff_iff, okC_iff, okC_iff]; omega
theorem hd_lack_all : ∀ p : Fin 7, ∀ c : Fin 64, okC p.val c.val = true → hd (full p.val - c.val) + hd c.val = p.val := by decide +kernel
theorem hd_lack {p c : Int} (h : okC p c = true) : hd (full p - c) + hd c = p := by
  obtain ⟨h1, h6, h0, hc, _⟩ := okC_lt h
  have := hd_lack_all ⟨p.toNat, by omega⟩ ⟨c.toNat, by omega⟩
  simp only [Int.toNat_of_nonneg h0, Int.toNat_of_nonneg (show 0 ≤ p by omega)] at this
  exact this h
theorem band_lack_all : ∀ p : Fin 7, ∀ c : Fin 64, okC p.val c.val = true → band (full p.val - c.val) c.val = 0 := by decide +kernel
theorem band_lack {p c : Int} (h : okC p c = true) : band (full p - c) c = 0 := by
  obtain ⟨h1, h6, h0, hc, _⟩ := okC_lt h
  have := band_lack_all ⟨p.toNat, by omega⟩ ⟨c.toNat, by omega⟩
  simp only [Int.toNat_of_nonneg h0, Int.toNat_of_nonneg (show 0 ≤ p by omega)] at this
  exact this h
/-- A bit by bit 'and' of crowds lies below both. -/
theorem band_lt {a b : Int} (ha : 0 ≤ a) (ha' : a < 64) (hb : 0 ≤ b) (hb' : b < 64) : 0 ≤ band a b ∧ band a b ≤ a ∧ band a b ≤ b ∧ band a b < 64 := by
  obtain ⟨m, rfl⟩ := Int.eq_ofNat_of_zero_le ha
  obtain ⟨n, rfl⟩ := Int.eq_ofNat_of_zero_le hb
  rw [band_nat m n (by omega) (by omega)]
  have h1 : m &&& n ≤ m := Nat.and_le_left
  have h2 : m &&& n ≤ n := Nat.and_le_right
  omega
theorem okC_band {p a b : Int} (ha : okC p a = true) (hb : okC p b = true) : okC p (band a b) = true := by
  obtain ⟨h1, h6, h0, hc, hf⟩ := okC_lt ha
  obtain ⟨_, _, h0', hc', _⟩ := okC_lt hb
  have := band_lt h0 hc h0' hc'
  exact okC_of h1 h6 this.1 (by omega)
theorem okC_full {p : Int} (h1 : 1 ≤ p) (h6 : p ≤ 6) : okC p (full p) = true := okC_of h1 h6 (by have := full_le h1 h6; omega) (by omega)
theorem okC_zero {p : Int} (h1 : 1 ≤ p) (h6 : p ≤ 6) : okC p 0 = true := okC_of h1 h6 (by omega) (by have := full_le h1 h6; omega)
/-- A number of a type of Go's, by its bounds. -/
theorem wf_u8 {x : Int} (h : (Lit.int .u8 x).wf = true) : 0 ≤ x ∧ x ≤ 255 := by
  simp [Lit.wf, IntKind.min, IntKind.max, IntKind.signed, IntKind.bits] at h; omega
theorem wf_i64 {x : Int} (h : (Lit.int .i64 x).wf = true) : -9223372036854775808 ≤ x ∧ x ≤ 9223372036854775807 := by
  simp [Lit.wf, IntKind.min, IntKind.max, IntKind.signed, IntKind.bits] at h; omega

/-! ### More on crowds -/
theorem fullw {p : Int} (h1 : 1 ≤ p) (h6 : p ≤ 6) : wrap64 (shl .i64 1 p - 1) = full p := by
  have hf := full_le h1 h6
  rw [shl1 (by omega) h6, show full p + 1 - 1 = full p from by omega, w64 (by omega) (by omega)]
theorem w1 {A : Int} (h0 : 0 ≤ A) (h1 : A ≤ 1000000) : wrap64 (1 + A) = 1 + A := w64 (by omega) (by omega)
theorem w1r {A : Int} (h0 : 0 ≤ A) (h1 : A ≤ 1000000) : wrap64 (A + 1) = A + 1 := w64 (by omega) (by omega)
theorem w1s {A : Int} (h0 : -1000 ≤ A) (h1 : A ≤ 1000000) : wrap64 (A - 1) = A - 1 := w64 (by omega) (by omega)
theorem pow_full {M : Int} (h1 : 1 ≤ M) (h6 : M ≤ 6) : wrap64 (2 ^ M.toNat) = full M + 1 := by
  have h := full_le h1 h6
  rw [show (2 : Int) ^ M.toNat = full M + 1 from by unfold full; omega, w64 (by omega) (by omega)]
theorem wrap_people {A B C : Int} (a0 : 0 ≤ A) (a1 : A < 6) (b0 : 0 ≤ B) (b1 : B < 40) (c0 : 0 ≤ C) (c1 : C < 40) :
    wrap64 (wrap64 (wrap64 (1 + A) + wrap64 (Int.tdiv B 39)) - wrap64 (Int.tdiv C 39)) = 1 + A + B / 39 - C / 39 := by
  rw [show Int.tdiv B 39 = B / 39 from Int.tdiv_eq_ediv_of_nonneg b0, show Int.tdiv C 39 = C / 39 from Int.tdiv_eq_ediv_of_nonneg c0,
    w64 (x := 1 + A) (by omega) (by omega), w64 (x := B / 39) (by omega) (by omega), w64 (x := C / 39) (by omega) (by omega), w64 (x := 1 + A + B / 39) (by omega) (by omega), w64 (by omega) (by omega)]
theorem wrap_crowd {D E F : Int} (d0 : 0 ≤ D) (d1 : D < 64) (e0 : 0 ≤ E) (e1 : E < 40) (f0 : 0 ≤ F) (f1 : F < 40) :
    wrap64 (wrap64 (D + wrap64 (wrap64 (Int.tdiv E 39) * 64)) - wrap64 (wrap64 (Int.tdiv F 39) * 65)) = D + E / 39 * 64 - F / 39 * 65 := by
  rw [show Int.tdiv E 39 = E / 39 from Int.tdiv_eq_ediv_of_nonneg e0, show Int.tdiv F 39 = F / 39 from Int.tdiv_eq_ediv_of_nonneg f0,
    w64 (x := E / 39) (by omega) (by omega), w64 (x := F / 39) (by omega) (by omega), w64 (x := E / 39 * 64) (by omega) (by omega), w64 (x := F / 39 * 65) (by omega) (by omega), w64 (x := D + E / 39 * 64) (by omega) (by omega), w64 (by omega) (by omega)]
theorem mnmx (x : Int) : 1 ≤ mn (mx x 1) 6 ∧ mn (mx x 1) 6 ≤ 6 := by unfold mn mx; split <;> split <;> omega
theorem lift64 {P : Int → Int → Prop} (h : ∀ a b : Fin 64, P a.val b.val) {a b : Int} (ha : 0 ≤ a) (ha' : a < 64) (hb : 0 ≤ b) (hb' : b < 64) : P a b := by
  have := h ⟨a.toNat, by omega⟩ ⟨b.toNat, by omega⟩
  simpa [Int.toNat_of_nonneg ha, Int.toNat_of_nonneg hb] using this
def bit (k : Int) : Int := 2 ^ k.toNat
theorem shl_bit {k : Int} (h0 : 0 ≤ k) (h6 : k ≤ 6) : shl .i64 1 k = bit k := by rw [shl1 h0 h6]; unfold full bit; omega
theorem bit_lt {p k : Int} (h1 : 1 ≤ p) (h6 : p ≤ 6) (h0 : 0 ≤ k) (hk : k < p) : okC p (bit k) = true := by
  rcases people h1 h6 with rfl | rfl | rfl | rfl | rfl | rfl <;>
    (have : k = 0 ∨ k = 1 ∨ k = 2 ∨ k = 3 ∨ k = 4 ∨ k = 5 := by omega) <;>
    rcases this with rfl | rfl | rfl | rfl | rfl | rfl <;> first | decide | omega
theorem bor_lt_all : ∀ p : Fin 7, ∀ a : Fin 64, okC p.val a.val = true → ∀ b : Fin 64, okC p.val b.val = true → okC p.val (bor a.val b.val) = true := by decide +kernel
theorem okC_bor {p a b : Int} (ha : okC p a = true) (hb : okC p b = true) : okC p (bor a b) = true := by
  obtain ⟨h1, h6, h0, hc, hf⟩ := okC_lt ha
  obtain ⟨_, _, h0', hc', _⟩ := okC_lt hb
  have := bor_lt_all ⟨p.toNat, by omega⟩ ⟨a.toNat, by omega⟩
  simp only [Int.toNat_of_nonneg h0, Int.toNat_of_nonneg (show 0 ≤ p by omega)] at this
  have := this ha ⟨b.toNat, by omega⟩
  simp only [Int.toNat_of_nonneg h0'] at this
  exact this hb
theorem hd_sum_all : ∀ a b : Fin 64, hd (band a.val b.val) + hd (bor a.val b.val) = hd a.val + hd b.val := by decide +kernel
theorem hd_sum {a b : Int} (ha : 0 ≤ a) (ha' : a < 64) (hb : 0 ≤ b) (hb' : b < 64) : hd (band a b) + hd (bor a b) = hd a + hd b :=
  lift64 (P := fun a b => hd (band a b) + hd (bor a b) = hd a + hd b) hd_sum_all ha ha' hb hb'
theorem hd_band_all : ∀ a b : Fin 64, hd (band a.val b.val) ≤ hd a.val ∧ hd (band a.val b.val) ≤ hd b.val := by decide +kernel
theorem hd_band {a b : Int} (ha : 0 ≤ a) (ha' : a < 64) (hb : 0 ≤ b) (hb' : b < 64) : hd (band a b) ≤ hd a ∧ hd (band a b) ≤ hd b :=
  lift64 (P := fun a b => hd (band a b) ≤ hd a ∧ hd (band a b) ≤ hd b) hd_band_all ha ha' hb hb'
theorem hd_okC_all : ∀ p : Fin 7, ∀ a : Fin 64, okC p.val a.val = true → hd a.val ≤ p.val := by decide +kernel
theorem hd_okC {p a : Int} (h : okC p a = true) : 0 ≤ hd a ∧ hd a ≤ p := by
  obtain ⟨h1, h6, h0, hc, _⟩ := okC_lt h
  have := hd_okC_all ⟨p.toNat, by omega⟩ ⟨a.toNat, by omega⟩
  simp only [Int.toNat_of_nonneg h0, Int.toNat_of_nonneg (show 0 ≤ p by omega)] at this
  exact ⟨(hd_le h0 hc).1, this h⟩
theorem hd_full {p : Int} (h1 : 1 ≤ p) (h6 : p ≤ 6) : hd (full p) = p := by
  rcases people h1 h6 with rfl | rfl | rfl | rfl | rfl | rfl <;> decide
theorem band_full_all : ∀ p : Fin 7, ∀ a : Fin 64, okC p.val a.val = true → band (full p.val) a.val = a.val := by decide +kernel
theorem band_full {p a : Int} (h : okC p a = true) : band (full p) a = a := by
  obtain ⟨h1, h6, h0, hc, _⟩ := okC_lt h
  have := band_full_all ⟨p.toNat, by omega⟩ ⟨a.toNat, by omega⟩
  simp only [Int.toNat_of_nonneg h0, Int.toNat_of_nonneg (show 0 ≤ p by omega)] at this
  exact this h
theorem band_zero (a : Int) : band a 0 = 0 := by simp [band, Go.bits, IntKind.wrap_i64]
theorem band_assoc_all : ∀ a b : Fin 64, band a.val (band a.val b.val) = band a.val b.val := by decide +kernel
theorem band_again {a b : Int} (ha : 0 ≤ a) (ha' : a < 64) (hb : 0 ≤ b) (hb' : b < 64) : band a (band a b) = band a b :=
  lift64 (P := fun a b => band a (band a b) = band a b) band_assoc_all ha ha' hb hb'
/-- More people: what a body has of them does not get fewer. -/
theorem hd_more {m c d : Int} (hm : 0 ≤ m) (hm' : m < 64) (hc : 0 ≤ c) (hc' : c < 64) (hd0 : 0 ≤ d) (hd' : d < 64) : hd (band m c) ≤ hd (band m (bor c d)) := by
  obtain ⟨m, rfl⟩ := Int.eq_ofNat_of_zero_le hm
  obtain ⟨c, rfl⟩ := Int.eq_ofNat_of_zero_le hc
  obtain ⟨d, rfl⟩ := Int.eq_ofNat_of_zero_le hd0
  have hor : c ||| d < 64 := Nat.or_lt_two_pow (n := 6) (by omega) (by omega)
  have hand : m &&& (c ||| d) < 64 := Nat.lt_of_le_of_lt Nat.and_le_left (show m < 64 by omega)
  rw [bor_nat c d (by omega) (by omega), band_nat m c (by omega) (by omega), band_nat m _ (by omega) hor]
  have hsub : m &&& c = (m &&& (c ||| d)) &&& c := by
    apply Nat.eq_of_testBit_eq
    intro i
    simp only [Nat.testBit_and, Nat.testBit_or]
    cases m.testBit i <;> cases c.testBit i <;> simp
  have h1 := (hd_band (a := ((m &&& (c ||| d) : Nat) : Int)) (b := (c : Int)) (by omega) (by omega) (by omega) (by omega)).1
  rw [band_nat _ c hand (by omega), ← hsub] at h1
  exact h1
theorem hd_xor_all : ∀ a b : Fin 64, hd (band a.val b.val) + hd (bxor a.val (band a.val b.val)) = hd a.val := by decide +kernel
theorem hd_xor {a b : Int} (ha : 0 ≤ a) (ha' : a < 64) (hb : 0 ≤ b) (hb' : b < 64) : hd (band a b) + hd (bxor a (band a b)) = hd a :=
  lift64 (P := fun a b => hd (band a b) + hd (bxor a (band a b)) = hd a) hd_xor_all ha ha' hb hb'
/-- What a body has of a crowd, and of what lacks to it. -/
theorem hd_parts {p m c : Int} (hm : okC p m = true) (hc : okC p c = true) : hd (band m c) + hd (band m (full p - c)) = hd m := by
  have a := okC_lt hm
  have b := okC_lt hc
  have e := okC_lt (okC_lack.trans hc)
  have hx : band m (full p - c) = bxor m (band m c) := by
    rw [← xor_full hc]
    have hfp := full_le a.1 a.2.1
    have hmf : band (full p) m = m := band_full hm
    generalize full p = f at *
    obtain ⟨m, rfl⟩ := Int.eq_ofNat_of_zero_le a.2.2.1
    obtain ⟨c, rfl⟩ := Int.eq_ofNat_of_zero_le b.2.2.1
    obtain ⟨f, rfl⟩ := Int.eq_ofNat_of_zero_le (show 0 ≤ f by omega)
    have w6 : ∀ a b : Nat, a < 64 → b < 64 → bxor (a : Int) b = ((a ^^^ b : Nat) : Int) := fun a b ha hb => bxor_nat .i64 6 (by decide) wraps6 a b ha hb
    have hand : m &&& c < 64 := Nat.lt_of_le_of_lt Nat.and_le_left (show m < 64 by omega)
    rw [w6 f c (by omega) (by omega), band_nat m c (by omega) (by omega), w6 m _ (by omega) hand, band_nat m _ (by omega) (Nat.xor_lt_two_pow (n := 6) (by omega) (by omega))]
    rw [band_nat f m (by omega) (by omega)] at hmf
    have hmf' : f &&& m = m := by exact_mod_cast hmf
    congr 1
    apply Nat.eq_of_testBit_eq
    intro i
    have hi := congrArg (fun n => n.testBit i) hmf'
    simp only [Nat.testBit_and, Nat.testBit_xor] at hi ⊢
    cases hA : m.testBit i <;> cases hB : c.testBit i <;> cases hC : f.testBit i <;> simp_all
  rw [hx]
  have h1 := band_lt a.2.2.1 a.2.2.2.1 b.2.2.1 b.2.2.2.1
  exact hd_xor a.2.2.1 a.2.2.2.1 b.2.2.1 b.2.2.2.1
end Go.Proofs.YtoifikhcnioagaaDoor.Base
