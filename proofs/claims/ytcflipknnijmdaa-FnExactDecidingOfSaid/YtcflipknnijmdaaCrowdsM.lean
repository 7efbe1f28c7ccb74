/- The mathematics of the least crowds: sorted, each once. No condition. -/
import Derived.Test.YtcflipknnijmdaaCrowdsC
set_option linter.unusedVariables false
set_option linter.unusedSimpArgs false
namespace Go.Proofs.Ytcflipknnijmdaa.Crowds
open Go Go.Proofs Go.Lib

theorem uniq : ∀ a b : List Int, a.Pairwise (· < ·) → b.Pairwise (· < ·) → (∀ x, x ∈ a ↔ x ∈ b) → a = b
  | [], [], _, _, _ => rfl
  | [], y :: b, _, _, h => by have := (h y).2 (by simp); simp at this
  | x :: a, [], _, _, h => by have := (h x).1 (by simp); simp at this
  | x :: a, y :: b, ha, hb, h => by
    rw [List.pairwise_cons] at ha hb
    have e : x = y := by
      have h1 := (h x).1 (by simp)
      have h2 := (h y).2 (by simp)
      simp only [List.mem_cons] at h1 h2
      rcases h1 with h1 | h1
      · exact h1
      · rcases h2 with h2 | h2
        · exact h2.symm
        · have := hb.1 x h1; have := ha.1 y h2; omega
    subst e
    rw [uniq a b ha.2 hb.2 (fun z => ?_)]
    constructor
    · intro hz
      have := (h z).1 (by simp [hz])
      simp only [List.mem_cons] at this
      rcases this with h1 | h1
      · have := ha.1 z hz; omega
      · exact h1
    · intro hz
      have := (h z).2 (by simp [hz])
      simp only [List.mem_cons] at this
      rcases this with h1 | h1
      · have := hb.1 z hz; omega
      · exact h1

theorem srt {zs : List Int} (h : zs.Pairwise (· ≤ ·)) {i j : Nat} (hij : i ≤ j) (hj : j < zs.length) : zs.toArray[i]! ≤ zs.toArray[j]! := by
  have hi : i < zs.length := by omega
  have e1 : zs.toArray[i]! = zs[i] := by simp [hi]
  have e2 : zs.toArray[j]! = zs[j] := by simp [hj]
  rw [e1, e2]
  rcases Nat.lt_or_ge i j with h1 | h1
  · exact List.pairwise_iff_getElem.1 h i j hi hj h1
  · have : i = j := by omega
    subst this; exact Int.le_refl _

theorem compact_mem {zs : List Int} (x : Int) : x ∈ Lib.compact zs ↔ x ∈ zs := by
  unfold Lib.compact compactUpTo
  simp only [List.mem_map, List.mem_filter, List.mem_range]
  constructor
  · rintro ⟨j, ⟨hj, _⟩, rfl⟩
    have e : zs.toArray[j]! = zs[j] := by simp [hj]
    rw [e]; exact List.getElem_mem hj
  · intro hx
    obtain ⟨j, hj, e⟩ := List.mem_iff_getElem.1 hx
    have key : ∀ j, j < zs.length → zs.toArray[j]! = x → ∃ a, (a < zs.length ∧ keeps zs.toArray a = true) ∧ zs.toArray[a]! = x := by
      intro j
      induction j with
      | zero => intro h0 h1; exact ⟨0, ⟨h0, by simp [keeps]⟩, h1⟩
      | succ j ih =>
        intro h0 h1
        by_cases h2 : zs.toArray[j + 1]! = zs.toArray[j]!
        · exact ih (by omega) (by rw [← h2]; exact h1)
        · exact ⟨j + 1, ⟨h0, by unfold keeps; exact decide_eq_true (Or.inr h2)⟩, h1⟩
    exact key j hj (by simp [hj, e])

theorem compact_lt {zs : List Int} (h : zs.Pairwise (· ≤ ·)) : (Lib.compact zs).Pairwise (· < ·) := by
  unfold Lib.compact compactUpTo
  rw [List.pairwise_map]
  have h1 : ((List.range zs.length).filter (keeps zs.toArray)).Pairwise (· < ·) := List.Pairwise.filter _ List.pairwise_lt_range
  refine h1.imp_of_mem ?_
  intro i j hi hj hij
  rw [List.mem_filter, List.mem_range] at hi hj
  have hk : j = 0 ∨ zs.toArray[j]! ≠ zs.toArray[j - 1]! := of_decide_eq_true hj.2
  have a1 := srt h (show i ≤ j - 1 by omega) (by omega)
  have a2 := srt h (show j - 1 ≤ j by omega) hj.1
  rcases hk with hk | hk
  · omega
  · have a3 : ¬ zs.toArray[j]! = zs.toArray[j - 1]! := hk
    generalize zs.toArray[j]! = X at *
    generalize zs.toArray[j - 1]! = Y at *
    generalize zs.toArray[i]! = Z at *
    omega

theorem sort_le (ys : List Int) : (ys.mergeSort fun x y => decide (x ≤ y)).Pairwise (· ≤ ·) := by
  have := List.pairwise_mergeSort (le := fun x y : Int => decide (x ≤ y)) (fun a b c h1 h2 => by simp at *; omega) (fun a b => by simp; omega) ys
  exact this.imp (fun h => of_decide_eq_true h)

theorem bits_all : ∀ d c : Fin 64, (Go.bits .and .i64 (d.val : Int) c.val != (d.val : Int)) = !(Go.bits .andNot .i64 (d.val : Int) c.val == 0) := by decide +kernel
theorem bits_eq {d c : Int} (d0 : 0 ≤ d) (d1 : d < 64) (c0 : 0 ≤ c) (c1 : c < 64) : (Go.bits .and .i64 d c != d) = !(Go.bits .andNot .i64 d c == 0) := by
  obtain ⟨d, rfl⟩ := Int.eq_ofNat_of_zero_le d0
  obtain ⟨c, rfl⟩ := Int.eq_ofNat_of_zero_le c0
  exact bits_all ⟨d, by omega⟩ ⟨c, by omega⟩

/-- What the specification asks of one crowd. -/
def sp (l : List Int) (c : Int) : Bool := l.any (· == c) && l.all (fun d => d == c || (Go.bits .and .i64 d c != d))
theorem sp_eq {l : List Int} (hl : ∀ d ∈ l, 0 ≤ d ∧ d < 64) {c : Int} (c0 : 0 ≤ c) (c1 : c < 64) : sp l c = true ↔ c ∈ l ∧ least l c = true := by
  unfold sp least
  simp only [Bool.and_eq_true, List.any_eq_true, List.all_eq_true, beq_iff_eq, Bool.or_eq_true, Bool.not_eq_true', List.any_eq_false]
  constructor
  · rintro ⟨⟨x, hx, rfl⟩, h⟩
    refine ⟨hx, fun d hd => ?_⟩
    have b := bits_eq (hl d hd).1 (hl d hd).2 c0 c1
    rcases h d hd with h1 | h1
    · subst h1; simp
    · rw [b] at h1
      have h2 : (Go.bits .andNot .i64 d x == 0) = false := by simpa using h1
      exact fun h3 => by rw [h3.2] at h2; simp at h2
  · rintro ⟨hx, h⟩
    refine ⟨⟨c, hx, rfl⟩, fun d hd => ?_⟩
    have b := bits_eq (hl d hd).1 (hl d hd).2 c0 c1
    by_cases h1 : d = c
    · exact Or.inl h1
    · refine Or.inr ?_
      have := h d hd
      rw [b]
      simp [h1] at this
      simp [this]
/-- The two lists are the same. -/
theorem least_eq {l : List Int} {F : Nat} (hF : F ≤ 64) (hl : ∀ d ∈ l, 0 ≤ d ∧ d < F) : Lib.compact ((l.filter (least l)).mergeSort fun x y => decide (x ≤ y)) = ((List.range' 0 F).map Int.ofNat).filter (sp l) := by
  have hl2 : ∀ d ∈ l, 0 ≤ d ∧ d < 64 := fun d hd => by have := hl d hd; omega
  refine uniq _ _ (compact_lt (sort_le _)) ?_ (fun x => ?_)
  · refine List.Pairwise.filter _ ?_
    rw [List.pairwise_map]
    refine List.Pairwise.imp (fun {a b} h => ?_) (List.pairwise_lt_range' (s := 0) (n := F))
    simp only [Int.ofNat_eq_natCast]; omega
  · rw [compact_mem, List.mem_mergeSort, List.mem_filter, List.mem_filter]
    constructor
    · rintro ⟨h1, h2⟩
      have := hl x h1
      refine ⟨?_, (sp_eq hl2 (by omega) (by omega)).2 ⟨h1, h2⟩⟩
      rw [List.mem_map]
      exact ⟨x.toNat, by simp; omega, by simp; omega⟩
    · rintro ⟨h1, h2⟩
      rw [List.mem_map] at h1
      obtain ⟨n, hn, rfl⟩ := h1
      simp at hn
      exact (sp_eq hl2 (by simp) (by simp; omega)).1 h2
end Go.Proofs.Ytcflipknnijmdaa.Crowds
