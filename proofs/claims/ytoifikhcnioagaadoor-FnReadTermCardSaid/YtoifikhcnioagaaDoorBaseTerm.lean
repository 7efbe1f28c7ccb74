/- Terms as trees: when one consents for a crowd, its dual, and more people. No condition. -/
import Derived.Test.YtoifikhcnioagaaDoorBaseHouse
set_option linter.unusedVariables false
set_option linter.unusedSimpArgs false
namespace Go.Proofs.YtoifikhcnioagaaDoor.Base
open Go.RowKit Go.Proofs.YtoifikhcnioagaaDoorW.PrintWords Go.Proofs.YtoifikhcnioagaaDoorW.PrintMore

inductive Tr where
  | atom (a n : Int)
  | node (o : Bool) (l r : Tr)
namespace Tr
def good (bs : List Int) : Tr → Prop
  | atom a n => 0 ≤ a ∧ a < bs.length ∧ 1 ≤ n ∧ n ≤ hd (rd bs a)
  | node _ l r => good bs l ∧ good bs r
def ev (bs : List Int) (c : Int) : Tr → Bool
  | atom a n => decide (hd (band (rd bs a) c) ≥ n)
  | node o l r => if o = true then ev bs c l || ev bs c r else ev bs c l && ev bs c r
def len : Tr → Nat
  | atom _ _ => 1
  | node _ l r => len l + len r + 1
def atoms : Tr → Nat
  | atom _ _ => 1
  | node _ l r => atoms l + atoms r
def dl (bs : List Int) : Tr → Tr
  | atom a n => atom a (hd (rd bs a) + 1 - n)
  | node o l r => node (!o) (dl bs l) (dl bs r)
theorem len_atoms : ∀ t : Tr, len t + 1 = 2 * atoms t
  | atom _ _ => rfl
  | node _ l r => by have := len_atoms l; have := len_atoms r; simp only [len, atoms]; omega
theorem len_pos : ∀ t : Tr, 1 ≤ len t
  | atom _ _ => Nat.le_refl _
  | node _ _ _ => by simp only [len]; omega
theorem atoms_pos : ∀ t : Tr, 1 ≤ atoms t := fun t => by have := len_atoms t; have := len_pos t; omega
theorem len_dl (bs : List Int) : ∀ t : Tr, len (dl bs t) = len t
  | atom _ _ => rfl
  | node _ l r => by simp only [dl, len, len_dl bs l, len_dl bs r]
theorem dl_dl (bs : List Int) : ∀ t : Tr, dl bs (dl bs t) = t
  | atom a n => by simp only [dl]; congr 1; omega
  | node o l r => by simp only [dl, dl_dl bs l, dl_dl bs r, Bool.not_not]
theorem rd_mem {bs : List Int} {a : Int} (h0 : 0 ≤ a) (h1 : a < bs.length) : rd bs a ∈ bs := by
  have : a.toNat < bs.length := by omega
  unfold rd; rw [List.getD_eq_getElem?_getD, List.getElem?_eq_getElem this, Option.getD_some]; exact List.getElem_mem this
theorem body_ok {p : Int} {bs : List Int} {a : Int} (h : houseB p bs = true) (h0 : 0 ≤ a) (h1 : a < bs.length) : okC p (rd bs a) = true := ((houseB_iff.1 h).1 _ (rd_mem h0 h1)).1
theorem good_dl {bs : List Int} : ∀ {t : Tr}, good bs t → good bs (dl bs t)
  | atom a n, h => by obtain ⟨h0, h1, h2, h3⟩ := h; exact ⟨h0, h1, by omega, by omega⟩
  | node o l r, h => ⟨good_dl h.1, good_dl h.2⟩
theorem ev_dl {p : Int} {bs : List Int} {c : Int} (hh : houseB p bs = true) (hc : okC p c = true) : ∀ {t : Tr}, good bs t → ev bs (full p - c) (dl bs t) = !ev bs c t
  | atom a n, h => by
    obtain ⟨h0, h1, h2, h3⟩ := h
    have s := hd_parts (body_ok hh h0 h1) hc
    simp only [ev, dl]
    by_cases hq : hd (band (rd bs a) c) ≥ n
    · rw [decide_eq_true hq, decide_eq_false (by omega)]; rfl
    · rw [decide_eq_false hq, decide_eq_true (by omega)]; rfl
  | node o l r, h => by
    simp only [ev, dl, ev_dl hh hc h.1, ev_dl hh hc h.2]
    cases o <;> cases ev bs c l <;> cases ev bs c r <;> rfl
theorem ev_more {p : Int} {bs : List Int} {c d : Int} (hh : houseB p bs = true) (hc : okC p c = true) (hd' : okC p d = true) : ∀ {t : Tr}, good bs t → ev bs c t = true → ev bs (bor c d) t = true
  | atom a n, h, he => by
    obtain ⟨h0, h1, h2, h3⟩ := h
    obtain ⟨_, _, m0, m64, _⟩ := okC_lt (body_ok hh h0 h1)
    obtain ⟨_, _, c0, c64, _⟩ := okC_lt hc
    obtain ⟨_, _, d0, d64, _⟩ := okC_lt hd'
    have s := hd_more m0 m64 c0 c64 d0 d64
    simp only [ev, decide_eq_true_eq] at he ⊢
    omega
  | node o l r, h, he => by
    have el := ev_more hh hc hd' (t := l) h.1
    have er := ev_more hh hc hd' (t := r) h.2
    simp only [ev] at he ⊢
    cases o
    · simp only [Bool.false_eq_true, if_false, Bool.and_eq_true] at he ⊢; exact ⟨el he.1, er he.2⟩
    · simp only [if_true, Bool.or_eq_true] at he ⊢; exact he.elim (fun h => .inl (el h)) (fun h => .inr (er h))
theorem ev_full {p : Int} {bs : List Int} (hh : houseB p bs = true) : ∀ {t : Tr}, good bs t → ev bs (full p) t = true
  | atom a n, h => by
    obtain ⟨h0, h1, h2, h3⟩ := h
    simp only [ev, decide_eq_true_eq]
    rw [band_comm, band_full (body_ok hh h0 h1)]; omega
  | node o l r, h => by simp only [ev, ev_full hh h.1, ev_full hh h.2]; cases o <;> rfl
theorem ev_zero {p : Int} {bs : List Int} (hh : houseB p bs = true) : ∀ {t : Tr}, good bs t → ev bs 0 t = false
  | atom a n, h => by
    obtain ⟨h0, h1, h2, h3⟩ := h
    simp only [ev, band_zero, hd_zero]
    exact decide_eq_false (by omega)
  | node o l r, h => by simp only [ev, ev_zero hh h.1, ev_zero hh h.2]; cases o <;> rfl
end Tr

/-! ### Crowds counted -/
/-- For how many of the first crowds it is so. -/
def many (f : Int → Bool) : Nat → Int
  | 0 => 0
  | n + 1 => many f n + if f (n : Int) = true then 1 else 0
theorem many_le (f : Int → Bool) : ∀ n, 0 ≤ many f n ∧ many f n ≤ n
  | 0 => by simp [many]
  | n + 1 => by
    have := many_le f n
    unfold many; split <;> omega
theorem many_congr {f g : Int → Bool} : ∀ {n : Nat}, (∀ i : Nat, i < n → f i = g i) → many f n = many g n
  | 0, _ => rfl
  | n + 1, h => by unfold many; rw [many_congr (fun i hi => h i (by omega)), h n (by omega)]
theorem many_not (f : Int → Bool) : ∀ n, many f n + many (fun i => !f i) n = n
  | 0 => by simp [many]
  | n + 1 => by
    have := many_not f n
    unfold many
    cases f n <;> simp <;> omega
theorem many_front (f : Int → Bool) : ∀ n, many f (n + 1) = (if f 0 = true then 1 else 0) + many (fun i => f (i + 1)) n
  | 0 => by simp [many]
  | n + 1 => by
    rw [many, many_front f n, many]
    rw [show (((n + 1 : Nat) : Int)) = (n : Int) + 1 from by omega]
    omega
/-- The other way round. -/
theorem many_back (f : Int → Bool) : ∀ n : Nat, many (fun i => f ((n : Int) - 1 - i)) n = many f n
  | 0 => rfl
  | n + 1 => by
    rw [many_front]
    rw [many]
    have h : (fun i => (fun i => f (((n + 1 : Nat) : Int) - 1 - i)) (i + 1)) = fun i => f ((n : Int) - 1 - i) := by
      funext i
      show f (((n + 1 : Nat) : Int) - 1 - (i + 1)) = f ((n : Int) - 1 - i)
      rw [show ((n + 1 : Nat) : Int) - 1 - (i + 1) = (n : Int) - 1 - i from by omega]
    rw [h, many_back f n]
    rw [show (((n + 1 : Nat) : Int) - 1 - 0) = (n : Int) from by omega]
    omega
theorem many_both (f g : Int → Bool) : ∀ n, many (fun i => f i && g i) n + many (fun i => f i || g i) n = many f n + many g n
  | 0 => by simp [many]
  | n + 1 => by
    have := many_both f g n
    unfold many
    cases f n <;> cases g n <;> simp <;> omega
theorem many_pos {f : Int → Bool} : ∀ {n : Nat} {i : Nat}, i < n → f i = true → 1 ≤ many f n
  | 0, i, h, _ => absurd h (by omega)
  | n + 1, i, h, hf => by
    unfold many
    by_cases e : i = n
    · subst e; rw [if_pos hf]; have := many_le f i; omega
    · have := many_pos (n := n) (i := i) (by omega) hf; split <;> omega
end Go.Proofs.YtoifikhcnioagaaDoor.Base
