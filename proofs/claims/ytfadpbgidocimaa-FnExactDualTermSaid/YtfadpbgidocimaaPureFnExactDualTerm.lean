/- DualTerm returns what the reference's returns, for all arguments, and shares no memory. No condition. -/
import Derived.Test.YtfadpbgidocimaaPFnExactDualTermx9
import Derived.Test.YtfadpbgidocimaaBase
import Derived.Test.YtfadpbgidocimaaBaseHouse
import Derived.Test.YtfadpbgidocimaaBaseTerm
set_option linter.unusedVariables false
set_option linter.unusedSimpArgs false
namespace Go.Proofs.Ytfadpbgidocimaa.Pure.fnExactDualTerm
open Go.RowKit Go.Proofs.Ytfadpbgidocimaa.PFnExactDualTerm Go.Proofs.YtfadpbgidocimaaW.PrintWords Go.Proofs.YtfadpbgidocimaaW.PrintLast Go.Proofs.YtfadpbgidocimaaW.PrintMore Go.Proofs.Ytfadpbgidocimaa.Base

theorem toIntS_loop {l : List Int} (hm : l.length ≤ 1000000000) (d : Nat) : ∀ (k i : Nat) (out : List Int), i ≤ l.length → l.length - i = d → out.length = l.length → (∀ j, j < i → out[j]? = l[j]?) → d < k → laws_toIntS.l0 k l out (i : Int) = some l := by
  induction d with
  | zero =>
    intro k i out hi hd hl ho hk
    obtain ⟨k, rfl⟩ : ∃ m, k = m + 1 := ⟨k - 1, by omega⟩
    simp only [laws_toIntS.l0]
    rw [if_neg (by omega), copied hl (fun j hj => ho j (by omega))]
  | succ d ih =>
    intro k i out hi hd hl ho hk
    obtain ⟨k, rfl⟩ : ∃ m, k = m + 1 := ⟨k - 1, by omega⟩
    simp only [laws_toIntS.l0]
    have hlt : i < l.length := by omega
    rw [if_pos (by omega), if_pos (by omega), if_pos (by omega), rd_at hlt, Int.toNat_natCast, wr (by omega) (by omega)]
    exact ih k (i + 1) _ (by omega) (by omega) (by simpa using hl) (copied_step hlt hl ho) (by omega)
theorem toIntS_eq {l : List Int} (hm : l.length ≤ 1048576) (k : Nat) (hk : l.length < k) : laws_toIntS.f k l = some l := by
  unfold laws_toIntS.f
  rw [if_pos (by omega), if_pos (by omega)]
  exact toIntS_loop (by omega) l.length k 0 _ (by omega) (by omega) (by simp) (fun j hj => absurd hj (by omega)) hk

theorem toHouse_eq {l : List Int} (p : Int) (hm : l.length ≤ 1048576) (k : Nat) (hk : l.length < k) : laws_toHouse.f k p l = some (p, l) := by
  unfold laws_toHouse.f; rw [toIntS_eq hm k hk]; rfl

theorem eqIntS_loop {l : List Int} (hm : l.length ≤ 1048576) (d : Nat) : ∀ (k i : Nat), i ≤ l.length → l.length - i = d → d < k → laws_eqIntS.l0 k l l (i : Int) = some true := by
  induction d with
  | zero =>
    intro k i hi hd hk
    obtain ⟨k, rfl⟩ : ∃ m, k = m + 1 := ⟨k - 1, by omega⟩
    simp only [laws_eqIntS.l0]
    rw [if_neg (by omega)]
  | succ d ih =>
    intro k i hi hd hk
    obtain ⟨k, rfl⟩ : ∃ m, k = m + 1 := ⟨k - 1, by omega⟩
    simp only [laws_eqIntS.l0]
    rw [if_pos (by omega), if_pos (by omega), if_pos (by omega), if_pos trivial, wr (by omega) (by omega)]
    exact ih k (i + 1) (by omega) (by omega) (by omega)
theorem eqIntS_eq {l : List Int} (hm : l.length ≤ 1048576) (k : Nat) (hk : l.length < k) : laws_eqIntS.f k l l = some true := by
  unfold laws_eqIntS.f
  rw [if_pos rfl]
  exact eqIntS_loop hm l.length k 0 (by omega) (by omega) hk

theorem eqHouse_eq {l : List Int} (p : Int) (hm : l.length ≤ 1048576) (k : Nat) (hk : l.length < k) : laws_eqHouse.f k p l p l = some true := by
  unfold laws_eqHouse.f; rw [if_pos rfl, eqIntS_eq hm k hk]; rfl

theorem szHouse_eq (p : Int) (l : List Int) (hm : l.length ≤ maxLen) (a : Int) (ha : 0 ≤ a) (ha' : a ≤ 1048576) : laws_szHouse.f p l a = some (if a < l.length then -1 else a - l.length) := by
  unfold maxLen at hm
  unfold laws_szHouse.f laws_szIntS.f
  rw [w64 (by omega) (by omega)]
  by_cases h : a < l.length
  · rw [if_pos (by omega), if_pos h]; rfl
  · rw [if_neg (by omega), if_neg h, Option.bind_some, if_neg (by omega)]

def cv (m : S66) : S32 := ⟨m.f0, m.f1, m.f2⟩
theorem rdL_at {l : List S66} {i : Nat} (h : i < l.length) : rd_T66 l (i : Int) = l[i] := by
  unfold rd_T66; rw [Int.toNat_natCast, List.getD_eq_getElem?_getD, List.getElem?_eq_getElem h, Option.getD_some]

theorem rdT_at {l : List S32} {i : Nat} (h : i < l.length) : rd_T32 l (i : Int) = l[i] := by
  unfold rd_T32; rw [Int.toNat_natCast, List.getD_eq_getElem?_getD, List.getElem?_eq_getElem h, Option.getD_some]
def flat : Tr → List S32
  | .atom a n => [⟨0, a, n⟩]
  | .node o l r => flat l ++ flat r ++ [⟨if o = true then 2 else 1, 0, 0⟩]
theorem flat_len : ∀ t : Tr, (flat t).length = t.len
  | .atom _ _ => rfl
  | .node _ l r => by simp only [flat, Tr.len, List.length_append, flat_len l, flat_len r, List.length_singleton]
/-- What a row of marks does to the number of parts; at the end one is to be left. -/
def tgo (bs : List Int) : List S32 → Int → Bool
  | [], p => p == 1
  | m :: t, p =>
    if m.f0 = 0 then (if 0 ≤ m.f1 ∧ m.f1 < bs.length ∧ 1 ≤ m.f2 ∧ m.f2 ≤ hd (rd bs m.f1) then tgo bs t (p + 1) else false)
    else if m.f0 = 1 ∨ m.f0 = 2 then (if m.f1 = 0 ∧ m.f2 = 0 ∧ 2 ≤ p then tgo bs t (p - 1) else false)
    else false
def termB (p : Int) (bs : List Int) (t : List S32) : Bool := houseB p bs && (decide (1 ≤ t.length ∧ t.length ≤ 9) && tgo bs t 0)
def flats : List Tr → List S32
  | [] => []
  | t :: ts => flat t ++ flats ts
theorem flats_append : ∀ a b : List Tr, flats (a ++ b) = flats a ++ flats b
  | [], b => rfl
  | t :: a, b => by simp only [List.cons_append, flats, flats_append a b, List.append_assoc]
theorem two_last {l : List Tr} (h : 2 ≤ l.length) : ∃ s a b, l = s ++ [a, b] := by
  obtain ⟨b, hb⟩ : ∃ b, b = l.length - 2 := ⟨_, rfl⟩
  refine ⟨l.take b, l[b]'(by omega), l[b + 1]'(by omega), ?_⟩
  have e : l.drop b = [l[b]'(by omega), l[b + 1]'(by omega)] := by
    rw [List.drop_eq_getElem_cons (by omega), List.drop_eq_getElem_cons (by omega), List.drop_of_length_le (by omega)]
  rw [← e, List.take_append_drop]
/-- A row of marks that leaves one part is a tree, written down. -/
theorem parse {bs : List Int} : ∀ (t : List S32) (st : List Tr), (∀ x ∈ st, x.good bs) → tgo bs t (st.length : Int) = true → ∃ x : Tr, x.good bs ∧ flat x = flats st ++ t
  | [], st, hg, h => by
    simp only [tgo, beq_iff_eq] at h
    match st, h with
    | [x], _ => exact ⟨x, hg x (by simp), by simp [flats]⟩
  | m :: t, st, hg, h => by
    simp only [tgo] at h
    by_cases h0 : m.f0 = 0
    · rw [if_pos h0] at h
      by_cases hc : 0 ≤ m.f1 ∧ m.f1 < bs.length ∧ 1 ≤ m.f2 ∧ m.f2 ≤ hd (rd bs m.f1)
      · rw [if_pos hc] at h
        obtain ⟨x, hx, e⟩ := parse t (st ++ [.atom m.f1 m.f2]) (fun x hx => by
          rcases List.mem_append.1 hx with hx | hx
          · exact hg x hx
          · rw [List.mem_singleton.1 hx]; exact hc) (by rw [List.length_append]; simpa using h)
        refine ⟨x, hx, ?_⟩
        rw [e, flats_append, List.append_assoc]
        congr 1
        simp only [flats, flat, List.append_nil, List.singleton_append]
        congr 1
        rw [← h0]
      · rw [if_neg hc] at h; exact absurd h (by simp)
    · rw [if_neg h0] at h
      by_cases h1 : m.f0 = 1 ∨ m.f0 = 2
      · rw [if_pos h1] at h
        by_cases hc : m.f1 = 0 ∧ m.f2 = 0 ∧ 2 ≤ (st.length : Int)
        · rw [if_pos hc] at h
          obtain ⟨s, a, b, rfl⟩ := two_last (l := st) (by omega)
          obtain ⟨x, hx, e⟩ := parse t (s ++ [.node (decide (m.f0 = 2)) a b]) (fun x hx => by
            rcases List.mem_append.1 hx with hx | hx
            · exact hg x (by simp [hx])
            · rw [List.mem_singleton.1 hx]; exact ⟨hg a (by simp), hg b (by simp)⟩) (by
              have : (((s ++ [a, b]).length : Nat) : Int) - 1 = (((s ++ [Tr.node (decide (m.f0 = 2)) a b]).length : Nat) : Int) := by simp; omega
              rw [← this]; exact h)
          refine ⟨x, hx, ?_⟩
          rw [e, flats_append, flats_append, List.append_assoc, List.append_assoc]
          congr 1
          simp only [flats, flat, List.append_nil, List.append_assoc, List.singleton_append]
          congr 3
          obtain ⟨m0, m1, m2⟩ := m
          simp only at h1 hc
          obtain ⟨rfl, rfl, _⟩ := hc
          rcases h1 with rfl | rfl <;> rfl
        · rw [if_neg hc] at h; exact absurd h (by simp)
      · rw [if_neg h1] at h; exact absurd h (by simp)
theorem flat_go {bs : List Int} : ∀ (x : Tr), x.good bs → ∀ (t : List S32) (p : Int), 0 ≤ p → tgo bs (flat x ++ t) p = tgo bs t (p + 1)
  | .atom a n, h, t, p, hp => by
    simp only [flat, List.singleton_append, tgo, if_true]
    exact if_pos h
  | .node o l r, h, t, p, hp => by
    simp only [flat, List.append_assoc]
    rw [flat_go l h.1 _ p hp, flat_go r h.2 _ (p + 1) (by omega)]
    simp only [List.singleton_append, tgo]
    rw [if_neg (by cases o <;> simp), if_pos (by cases o <;> simp), if_pos ⟨trivial, trivial, by omega⟩]
    congr 1; omega
theorem term_tree {p : Int} {bs : List Int} {t : List S32} (h : termB p bs t = true) : houseB p bs = true ∧ t.length ≤ 9 ∧ ∃ x : Tr, x.good bs ∧ flat x = t := by
  simp only [termB, Bool.and_eq_true, decide_eq_true_eq] at h
  obtain ⟨x, hx, e⟩ := parse t [] (by simp) (by simpa using h.2.2)
  exact ⟨h.1, h.2.1.2, x, hx, by simpa [flats] using e⟩
theorem tree_term {p : Int} {bs : List Int} {x : Tr} (hh : houseB p bs = true) (hx : x.good bs) (hl : x.len ≤ 9) : termB p bs (flat x) = true := by
  have := flat_go x hx [] 0 (by omega)
  rw [List.append_nil] at this
  simp only [termB, Bool.and_eq_true, decide_eq_true_eq, flat_len]
  exact ⟨hh, ⟨x.len_pos, hl⟩, by rw [this]; rfl⟩

theorem toMarkS_loop {l : List S66} (hm : l.length ≤ 1048576) (d : Nat) : ∀ (k i : Nat) (out : List S32), i ≤ l.length → l.length - i = d → out.length = l.length → (∀ j, j < i → out[j]? = (l.map cv)[j]?) → d < k → laws_toMarkS.l0 k l out (i : Int) = some (l.map cv) := by
  induction d with
  | zero =>
    intro k i out hi hdd hl ho hk
    obtain ⟨k, rfl⟩ : ∃ m, k = m + 1 := ⟨k - 1, by omega⟩
    rw [laws_toMarkS.l0, if_neg (by omega), copied (l := l.map cv) (by simpa using hl) (fun j hj => ho j (by simp at hj; omega))]
  | succ d ih =>
    intro k i out hi hdd hl ho hk
    obtain ⟨k, rfl⟩ : ∃ m, k = m + 1 := ⟨k - 1, by omega⟩
    have hlt : i < l.length := by omega
    rw [laws_toMarkS.l0, if_pos (by omega), if_pos (by omega), rdL_at hlt, laws_toMark.f, Option.bind_some]; dsimp only
    rw [if_pos (by omega), Int.toNat_natCast, wr (by omega) (by omega)]
    refine ih k (i + 1) _ (by omega) (by omega) (by simpa using hl) ?_ (by omega)
    have := copied_step (l := l.map cv) (out := out) (i := i) (by simpa using hlt) (by simpa using hl) ho
    rw [List.getElem_map] at this
    exact this
theorem toMarkS_eq {l : List S66} (hm : l.length ≤ 1048576) (k : Nat) (hk : l.length < k) : laws_toMarkS.f k l = some (l.map cv) := by
  unfold laws_toMarkS.f
  rw [if_pos (by omega), if_pos (by omega)]
  exact toMarkS_loop hm l.length k 0 _ (by omega) (by omega) (by simp) (fun j hj => absurd hj (by omega)) hk

theorem eqMarkS_loop {l : List S32} (hm : l.length ≤ 1048576) (d : Nat) : ∀ (k i : Nat), i ≤ l.length → l.length - i = d → d < k → laws_eqMarkS.l0 k l l (i : Int) = some true := by
  induction d with
  | zero =>
    intro k i hi hdd hk
    obtain ⟨k, rfl⟩ : ∃ m, k = m + 1 := ⟨k - 1, by omega⟩
    rw [laws_eqMarkS.l0, if_neg (by omega)]
  | succ d ih =>
    intro k i hi hdd hk
    obtain ⟨k, rfl⟩ : ∃ m, k = m + 1 := ⟨k - 1, by omega⟩
    rw [laws_eqMarkS.l0, if_pos (by omega), if_pos (by omega), if_pos (by omega), laws_eqMark.f, if_pos rfl, if_pos rfl, if_pos rfl, Option.bind_some, if_pos rfl, wr (by omega) (by omega)]
    exact ih k (i + 1) (by omega) (by omega) (by omega)
theorem eqMarkS_eq {l : List S32} (hm : l.length ≤ 1048576) (k : Nat) (hk : l.length < k) : laws_eqMarkS.f k l l = some true := by
  unfold laws_eqMarkS.f
  rw [if_pos rfl]
  exact eqMarkS_loop hm l.length k 0 (by omega) (by omega) hk

theorem szMarkS_eq (l : List S66) (hm : l.length ≤ maxLen) (a : Int) (ha : 0 ≤ a) (ha' : a ≤ 1048576) : laws_szMarkS.f l a = some (if a < l.length then -1 else a - l.length) := by
  unfold maxLen at hm
  unfold laws_szMarkS.f
  rw [w64 (by omega) (by omega)]
  by_cases h : a < l.length
  · rw [if_pos (by omega), if_pos h]
  · rw [if_neg (by omega), if_neg h]

/-- A house's bodies are numbers of Go's. -/
theorem small {bs : List Int} (h : ∀ z ∈ bs, (Lit.int .i64 z).wf = true) : ∀ z ∈ bs, z < 2 ^ 63 := fun z hz => by have := wf_i64 (h z hz); omega
theorem cv_len (t : List S66) : (t.map cv).length = t.length := List.length_map _

theorem arePeople_eq (p : Int) : impl_arePeople.f p = some (decide (1 ≤ p ∧ p ≤ 6)) := by
  unfold impl_arePeople.f
  by_cases h : p ≥ 1
  · rw [if_pos h]; congr 1; simp [show 1 ≤ p from h]
  · rw [if_neg h]; congr 1; simp; omega
theorem isCrowd_eq (p c : Int) : impl_isCrowd.f p c = some (okC p c) := by
  unfold impl_isCrowd.f
  rw [arePeople_eq]
  simp only [Option.bind_some]
  by_cases h : 1 ≤ p ∧ p ≤ 6
  · rw [if_pos (by simpa using h)]
    by_cases h0 : c ≥ 0
    · rw [if_pos h0, if_pos (by omega), shl1 (by omega) h.2]
      congr 1
      rw [Bool.eq_iff_iff, okC_iff]; simp; omega
    · rw [if_neg h0]; congr 1
      symm; rw [Bool.eq_false_iff]; intro hc; rw [okC_iff] at hc; omega
  · rw [if_neg (by simpa using h)]; congr 1
    symm; rw [Bool.eq_false_iff]; intro hc; rw [okC_iff] at hc; omega

theorem isHouse_loop {p : Int} {bs : List Int} (hm : bs.length ≤ 1048576) (d : Nat) : ∀ (k i : Nat), i ≤ bs.length → bs.length - i = d → d < k →
    impl_isHouse.l0 k bs (bs.length : Int) (i : Int) p bs = some ((bs.drop i).all (goodB p) && (decide (1 ≤ p ∧ p ≤ 6) && decide ((bs.length : Int) ≤ 4))) := by
  induction d with
  | zero =>
    intro k i hi hd hk
    obtain ⟨k, rfl⟩ : ∃ m, k = m + 1 := ⟨k - 1, by omega⟩
    simp only [impl_isHouse.l0]
    rw [if_neg (by omega), List.drop_of_length_le (by omega), arePeople_eq, Option.bind_some]
    by_cases h : 1 ≤ p ∧ p ≤ 6
    · rw [if_pos (by simpa using h)]; simp [h]
    · rw [if_neg (by simpa using h)]; simp [h]
  | succ d ih =>
    intro k i hi hd hk
    obtain ⟨k, rfl⟩ : ∃ m, k = m + 1 := ⟨k - 1, by omega⟩
    simp only [impl_isHouse.l0]
    have hlt : i < bs.length := by omega
    rw [if_pos (by omega), if_pos (by omega), if_pos (by omega), rd_at hlt, isCrowd_eq, Option.bind_some, all_drop hlt]
    by_cases hg : okC p bs[i] = true
    · rw [if_pos hg]
      by_cases hz : bs[i] = 0
      · rw [if_pos hz]; simp [goodB, hz]
      · rw [if_neg hz, wr (by omega) (by omega)]
        rw [show goodB p bs[i] = true from by simp [goodB, hg, hz], Bool.true_and]
        exact ih k (i + 1) (by omega) (by omega) (by omega)
    · rw [if_neg hg]; simp [goodB, hg]
theorem isHouse_eq {bs : List Int} (p : Int) (hm : bs.length ≤ 1048576) (k : Nat) (hk : bs.length < k) : impl_isHouse.f k p bs = some (houseB p bs) := by
  unfold impl_isHouse.f houseB
  exact isHouse_loop hm bs.length k 0 (by omega) (by omega) hk

theorem heads_all : ∀ c : Fin 64, impl_headsOf.f c.val = some (hd c.val) := by decide +kernel
theorem iHeads_eq {c : Int} (h0 : 0 ≤ c) (h1 : c < 64) : impl_headsOf.f c = some (hd c) := all64 (P := fun c => impl_headsOf.f c = some (hd c)) heads_all c h0 h1

theorem isTerm_loop {p : Int} {bs : List Int} {t : List S32} (hh : houseB p bs = true) (ht : t.length ≤ 9) (d : Nat) : ∀ (k i : Nat) (ps : Int), i ≤ t.length → t.length - i = d → 0 ≤ ps → ps ≤ 100 + i → 2 * d + 1 ≤ k →
    impl_isTerm.l0 k ps t (t.length : Int) (i : Int) p bs = some (tgo bs (t.drop i) ps) := by
  have hl := (houseB_iff.1 hh).2.2
  induction d with
  | zero =>
    intro k i ps hi hdd _ _ hk
    obtain ⟨k, rfl⟩ : ∃ m, k = m + 1 := ⟨k - 1, by omega⟩
    rw [impl_isTerm.l0, if_neg (by omega), List.drop_of_length_le (by omega)]
    rfl
  | succ d ih =>
    intro k i ps hi hdd p0 p1 hk
    obtain ⟨k, rfl⟩ : ∃ m, k = m + 2 := ⟨k - 2, by omega⟩
    have hlt : i < t.length := by omega
    have up := ih (k + 1) (i + 1) (ps + 1) (by omega) (by omega) (by omega) (by omega) (by omega)
    have e1 : (((i + 1 : Nat)) : Int) = (i : Int) + 1 := by omega
    rw [e1] at up
    rw [impl_isTerm.l0, if_pos (by omega), if_pos (by omega), if_pos (by omega), rdT_at hlt, List.drop_eq_getElem_cons hlt, tgo]
    generalize t[i] = m
    by_cases h0 : m.f0 = 0
    · rw [if_pos h0, if_pos h0]
      by_cases a : m.f1 < 0
      · rw [if_pos a, if_neg (by omega)]
      · rw [if_neg a]
        by_cases b : m.f1 ≥ bs.length
        · rw [if_pos b, if_neg (by omega)]
        · rw [if_neg b]
          by_cases c : m.f2 < 1
          · rw [if_pos c, if_neg (by omega)]
          · obtain ⟨_, _, c0, c64, _⟩ := okC_lt (Tr.body_ok hh (a := m.f1) (by omega) (by omega))
            rw [if_neg c, if_pos (by omega), if_pos (by omega), iHeads_eq c0 c64, Option.bind_some]
            by_cases e : m.f2 > hd (rd bs m.f1)
            · rw [if_pos e, if_neg (by omega)]
            · rw [if_neg e, if_pos (by omega), wr p0 (by omega), wr (by omega) (by omega)]
              exact up
    · have j : ∀ b : Bool, b = decide (m.f0 = 1 ∨ m.f0 = 2) → impl_isTerm.j2 (k + 1) ps t (t.length : Int) (i : Int) b p bs m.f0 m.f1 m.f2 = some (if m.f0 = 1 ∨ m.f0 = 2 then (if m.f1 = 0 ∧ m.f2 = 0 ∧ 2 ≤ ps then tgo bs (t.drop (i + 1)) (ps - 1) else false) else false) := by
        intro b hb
        rw [impl_isTerm.j2]
        by_cases h1 : m.f0 = 1 ∨ m.f0 = 2
        · rw [decide_eq_true h1] at hb
          rw [if_pos hb, if_pos h1]
          by_cases a : m.f1 = 0
          · by_cases c : m.f2 = 0
            · by_cases e : ps < 2
              · rw [if_pos a, if_pos c, if_pos e, if_neg (by omega)]
              · have dn := ih k (i + 1) (ps - 1) (by omega) (by omega) (by omega) (by omega) (by omega)
                rw [e1] at dn
                rw [if_pos a, if_pos c, if_neg e, if_pos (by omega), w64 (x := ps - 1) (by omega) (by omega), wr (by omega) (by omega)]
                exact dn
            · rw [if_pos a, if_neg c, if_neg (by omega)]
          · rw [if_neg a, if_neg (by omega)]
        · rw [decide_eq_false h1] at hb
          rw [if_neg (by simp [hb]), if_neg h1]
      rw [if_neg h0, if_neg h0]
      by_cases h1 : m.f0 = 1
      · rw [if_pos h1]; exact j _ (by rw [Bool.eq_iff_iff]; simp [h1])
      · rw [if_neg h1]; exact j _ (by rw [Bool.eq_iff_iff]; simp [h1])
theorem isTerm_eq {p : Int} {bs : List Int} {t : List S32} (hb : bs.length ≤ 1048576) (ht : t.length ≤ 1048576) (k : Nat) (hk : bs.length + 50 ≤ k) : impl_isTerm.f k p bs t = some (termB p bs t) := by
  have j : ∀ (k : Nat) (b : Bool), 40 ≤ k → houseB p bs = true → b = decide (t.length > 9) → impl_isTerm.j0 k t b p bs = some (if t.length ≤ 9 then tgo bs t 0 else false) := by
    intro k b hk hh hb
    obtain ⟨k, rfl⟩ : ∃ m, k = m + 1 := ⟨k - 1, by omega⟩
    rw [impl_isTerm.j0]
    by_cases h : t.length > 9
    · rw [decide_eq_true h] at hb
      rw [if_pos hb, if_neg (by omega)]
    · rw [decide_eq_false h] at hb
      rw [if_neg (by simp [hb]), if_pos (by omega)]
      exact isTerm_loop hh (by omega) t.length k 0 0 (by omega) (by omega) (by omega) (by omega) (by omega)
  have j1 : ∀ k, 1 ≤ k → impl_isTerm.j0 k t true p bs = some false := by
    intro k hk
    obtain ⟨k, rfl⟩ : ∃ m, k = m + 1 := ⟨k - 1, by omega⟩
    rw [impl_isTerm.j0, if_pos rfl]
  unfold impl_isTerm.f termB
  rw [isHouse_eq p hb k (by omega), Option.bind_some]
  by_cases hh : houseB p bs = true
  · rw [if_pos hh, hh, Bool.true_and]
    by_cases h1 : (t.length : Int) < 1
    · rw [if_pos h1, j1 k (by omega), decide_eq_false (by omega), Bool.false_and]
    · rw [if_neg h1, j k _ (by omega) hh (by rw [decide_eq_decide]; omega)]
      by_cases h9 : t.length ≤ 9
      · rw [if_pos h9, decide_eq_true (by omega), Bool.true_and]
      · rw [if_neg h9, decide_eq_false (by omega), Bool.false_and]
  · rw [if_neg hh, j1 k (by omega)]; simp [hh]

def dm (bs : List Int) (m : S32) : S32 := if m.f0 = 0 then ⟨m.f0, m.f1, hd (rd bs m.f1) + 1 - m.f2⟩ else if m.f0 = 1 then ⟨2, m.f1, m.f2⟩ else ⟨1, m.f1, m.f2⟩
theorem dm_flat (bs : List Int) : ∀ x : Tr, (flat x).map (dm bs) = flat (x.dl bs)
  | .atom a n => rfl
  | .node o l r => by
    simp only [flat, Tr.dl, List.map_append, dm_flat bs l, dm_flat bs r]
    cases o <;> rfl
/-- What is so of each mark of a term. -/
def okM (bs : List Int) (m : S32) : Prop := (m.f0 = 0 ∧ 0 ≤ m.f1 ∧ m.f1 < bs.length ∧ 1 ≤ m.f2 ∧ m.f2 ≤ hd (rd bs m.f1)) ∨ ((m.f0 = 1 ∨ m.f0 = 2) ∧ m.f1 = 0 ∧ m.f2 = 0)
theorem okM_flat {bs : List Int} : ∀ x : Tr, x.good bs → ∀ m ∈ flat x, okM bs m
  | .atom a n, h, m, hm => by
    rw [List.mem_singleton.1 hm]
    exact .inl ⟨rfl, h⟩
  | .node o l r, h, m, hm => by
    simp only [flat, List.mem_append] at hm
    rcases hm with (hm | hm) | hm
    · exact okM_flat l h.1 m hm
    · exact okM_flat r h.2 m hm
    · rw [List.mem_singleton.1 hm]
      exact .inr ⟨by cases o <;> simp, rfl, rfl⟩
theorem map_take {α β : Type} {l : List α} (f : α → β) {i : Nat} (h : i < l.length) : (l.take (i + 1)).map f = (l.take i).map f ++ [f l[i]] := by
  rw [List.take_succ_eq_append_getElem h, List.map_append]; rfl

theorem iDual_loop {p : Int} {bs : List Int} {t : List S32} (hh : houseB p bs = true) (ht : t.length ≤ 9) (hall : ∀ m ∈ t, okM bs m) (d : Nat) : ∀ (k i : Nat), i ≤ t.length → t.length - i = d → d < k →
    impl_dualTerm.l0 k ((t.take i).map (dm bs)) t (t.length : Int) (i : Int) p bs = some (t.map (dm bs)) := by
  induction d with
  | zero =>
    intro k i hi hdd hk
    obtain ⟨k, rfl⟩ : ∃ m, k = m + 1 := ⟨k - 1, by omega⟩
    rw [impl_dualTerm.l0, if_neg (by omega), List.take_of_length_le (by omega)]
  | succ d ih =>
    intro k i hi hdd hk
    obtain ⟨k, rfl⟩ : ∃ m, k = m + 1 := ⟨k - 1, by omega⟩
    have hlt : i < t.length := by omega
    have e := ih k (i + 1) (by omega) (by omega) (by omega)
    rw [map_take (dm bs) hlt, show ((i + 1 : Nat) : Int) = (i : Int) + 1 from by omega] at e
    have hok := hall t[i] (List.getElem_mem hlt)
    have hlen : ((t.take i).map (dm bs)).length ≤ 9 := by simp; omega
    rw [impl_dualTerm.l0, if_pos (by omega), if_pos (by omega), if_pos (by omega), rdT_at hlt, wr (A := (i : Int)) (by omega) (by omega)]
    generalize t[i] = m at *
    rcases hok with ⟨h0, a0, a1, b0, b1⟩ | ⟨h0, _, _⟩
    · obtain ⟨_, _, m0, m64, _⟩ := okC_lt (Tr.body_ok hh a0 a1)
      have hh' := hd_le m0 m64
      rw [if_pos h0, if_pos a0, if_pos a1, iHeads_eq m0 m64, Option.bind_some, if_pos (by omega), w64 (x := hd (rd bs m.f1) + 1) (by omega) (by omega), w64 (by omega) (by omega)]
      rw [dm, if_pos h0] at e
      exact e
    · rw [dm, if_neg (by omega)] at e
      rw [if_neg (by omega)]
      by_cases h1 : m.f0 = 1
      · rw [if_pos h1] at e
        rw [if_pos h1, if_pos (by omega)]; exact e
      · rw [if_neg h1] at e
        rw [if_neg h1, if_pos (by omega)]; exact e
theorem iDual_eq {p : Int} {bs : List Int} {x : Tr} (hh : houseB p bs = true) (hx : x.good bs) (hl : x.len ≤ 9) (k : Nat) (hk : 10 ≤ k) : impl_dualTerm.f k p bs (flat x) = some (flat (x.dl bs)) := by
  unfold impl_dualTerm.f
  have := iDual_loop hh (t := flat x) (by rw [flat_len]; exact hl) (okM_flat x hx) (flat x).length k 0 (by omega) (by omega) (by rw [flat_len]; omega)
  rw [dm_flat] at this
  exact this
/-- The dual of a term; no mark for others. -/
def dualB (p : Int) (bs : List Int) (t : List S32) : List S32 := if termB p bs t = true then t.map (dm bs) else []
theorem iDualTerm_eq {p : Int} {bs : List Int} {t : List S32} (hb : bs.length ≤ 1048576) (ht : t.length ≤ 1048576) (k : Nat) (hk : bs.length + 50 ≤ k) : impl_DualTerm.f k p bs t = some (dualB p bs t) := by
  unfold impl_DualTerm.f dualB
  rw [isTerm_eq hb ht k hk, Option.bind_some]
  by_cases h : termB p bs t = true
  · obtain ⟨hh, h9, x, hx, rfl⟩ := term_tree h
    rw [if_pos h, if_pos h, iDual_eq hh hx (by rw [flat_len] at h9; exact h9) k (by omega), Option.bind_some, dm_flat]
  · rw [if_neg h, if_neg h]

theorem l1In_eq (n a b : Int) : spec_l1In.f n a b = some (decide (a ≤ n ∧ n ≤ b)) := by
  unfold spec_l1In.f
  by_cases h : n ≥ a
  · rw [if_pos h]; congr 1; simp [show a ≤ n from h]
  · rw [if_neg h]; congr 1; simp; omega
theorem sCrowdOk_eq (p c : Int) : spec_CrowdOk.f p c = some (okC p c) := by
  unfold spec_CrowdOk.f
  rw [l1In_eq]
  simp only [Option.bind_some]
  by_cases h : 1 ≤ p ∧ p ≤ 6
  · have hf := full_le h.1 h.2
    rw [if_pos (by simpa using h), if_pos (by omega), shl1 (by omega) h.2, l1In_eq, w64 (by omega) (by omega)]
    simp only [Option.bind_some]
    congr 1
    rw [Bool.eq_iff_iff, okC_iff]; simp; omega
  · rw [if_neg (by simpa using h)]; congr 1
    symm; rw [Bool.eq_false_iff]; intro hc; rw [okC_iff] at hc; omega

theorem sHouse_loop {p : Int} {bs : List Int} (hm : bs.length ≤ 1048576) (d : Nat) : ∀ (k i : Nat), i ≤ bs.length → bs.length - i = d → d < k →
    spec_HouseOk.l0 k (i : Int) p bs = some ((bs.drop i).all (goodB p) && (decide (1 ≤ p ∧ p ≤ 6) && decide ((bs.length : Int) ≤ 4))) := by
  induction d with
  | zero =>
    intro k i hi hd hk
    obtain ⟨k, rfl⟩ : ∃ m, k = m + 1 := ⟨k - 1, by omega⟩
    simp only [spec_HouseOk.l0]
    rw [if_neg (by omega), List.drop_of_length_le (by omega), l1In_eq, Option.bind_some]
    by_cases h : 1 ≤ p ∧ p ≤ 6
    · rw [if_pos (by simpa using h)]; simp [h]
    · rw [if_neg (by simpa using h)]; simp [h]
  | succ d ih =>
    intro k i hi hd hk
    obtain ⟨k, rfl⟩ : ∃ m, k = m + 1 := ⟨k - 1, by omega⟩
    simp only [spec_HouseOk.l0]
    have hlt : i < bs.length := by omega
    rw [if_pos (by omega), if_pos (by omega), rd_at hlt, sCrowdOk_eq, Option.bind_some, all_drop hlt]
    by_cases hg : okC p bs[i] = true
    · rw [if_pos hg]
      by_cases hz : bs[i] = 0
      · rw [if_pos hz]; simp [goodB, hz]
      · rw [if_neg hz, wr (by omega) (by omega)]
        rw [show goodB p bs[i] = true from by simp [goodB, hg, hz], Bool.true_and]
        exact ih k (i + 1) (by omega) (by omega) (by omega)
    · rw [if_neg hg]; simp [goodB, hg]
theorem sHouseOk_eq {bs : List Int} (p : Int) (hm : bs.length ≤ 1048576) (k : Nat) (hk : bs.length < k) : spec_HouseOk.f k p bs = some (houseB p bs) := by
  unfold spec_HouseOk.f houseB
  exact sHouse_loop hm bs.length k 0 (by omega) (by omega) hk

theorem l1Heads_all : ∀ c : Fin 64, spec_l1Heads.f 7 c.val = some (hd c.val) := by decide +kernel
theorem sHeads_eq {c : Int} (k : Nat) (hk : 7 ≤ k) (h0 : 0 ≤ c) (h1 : c < 64) : spec_l1Heads.f k c = some (hd c) :=
  at_rounds (spec_l1Heads.mono c) hk (all64 (P := fun c => spec_l1Heads.f 7 c = some (hd c)) l1Heads_all c h0 h1)

theorem heads_some (d : Nat) : ∀ (k : Nat) (c n : Int), c < 2 ^ d → d < k → ∃ r, spec_l1Heads.l0 k c n = some r := by
  induction d with
  | zero =>
    intro k c n hc hk
    obtain ⟨k, rfl⟩ : ∃ m, k = m + 1 := ⟨k - 1, by omega⟩
    rw [spec_l1Heads.l0, if_neg (by simp at hc; omega)]
    exact ⟨_, rfl⟩
  | succ d ih =>
    intro k c n hc hk
    obtain ⟨k, rfl⟩ : ∃ m, k = m + 1 := ⟨k - 1, by omega⟩
    rw [spec_l1Heads.l0]
    by_cases h : c > 0
    · rw [if_pos h]
      have e : Int.tdiv c 2 = c / 2 := Int.tdiv_eq_ediv_of_nonneg (by omega)
      refine ih k _ _ ?_ (by omega)
      have hp : (2 : Int) ^ (d + 1) = 2 ^ d * 2 := Int.pow_succ ..
      have h1 : c / 2 < 2 ^ d := by omega
      have h2 : wrap64 (c / 2) ≤ c / 2 := by
        unfold wrap64; omega
      rw [e]
      omega
    · rw [if_neg h]; exact ⟨_, rfl⟩
theorem rd_any {bs : List Int} (hb : ∀ z ∈ bs, z < 2 ^ 63) (i : Int) : rd bs i < 2 ^ 63 := by
  unfold rd
  by_cases hi : i.toNat < bs.length
  · rw [List.getD_eq_getElem?_getD, List.getElem?_eq_getElem hi, Option.getD_some]; exact hb _ (List.getElem_mem hi)
  · rw [List.getD_eq_getElem?_getD, List.getElem?_eq_none (by omega), Option.getD_none]; decide
theorem sTerm_j {p : Int} {bs : List Int} {t : List S32} {i : Nat} (hlt : i < t.length) (ps : Int) (p0 : 0 ≤ ps) (p1 : ps ≤ 10000000) (hi : i ≤ 10000000) (k : Nat) (R : Bool)
    (dn : 2 ≤ ps → (t[i].f0 = 1 ∨ t[i].f0 = 2) → t[i].f1 = 0 → t[i].f2 = 0 → spec_TermOk.l0 k t (ps - 1) ((i : Int) + 1) p bs = some R)
    (no : ¬ (2 ≤ ps ∧ (t[i].f0 = 1 ∨ t[i].f0 = 2) ∧ t[i].f1 = 0 ∧ t[i].f2 = 0) → R = false) : spec_TermOk.j1 (k + 1) t ps (i : Int) false p bs = some R := by
  rw [spec_TermOk.j1, if_neg (by simp), if_pos (by omega), if_pos (by omega), rdT_at hlt]
  generalize t[i] = m at *
  by_cases h1 : m.f0 = 1 ∧ m.f1 = 0 ∧ m.f2 = 0
  · rw [if_pos (by simp [h1])]
    by_cases e : ps ≥ 2
    · rw [if_pos e, w64 (x := ps - 1) (by omega) (by omega), wr (by omega) (by omega)]
      exact dn e (.inl h1.1) h1.2.1 h1.2.2
    · rw [if_neg e, no (by omega)]
  · rw [if_neg (by simpa using h1)]
    by_cases h2 : m.f0 = 2 ∧ m.f1 = 0 ∧ m.f2 = 0
    · rw [if_pos (by simp [h2])]
      by_cases e : ps ≥ 2
      · rw [if_pos e, w64 (x := ps - 1) (by omega) (by omega), wr (by omega) (by omega)]
        exact dn e (.inr h2.1) h2.2.1 h2.2.2
      · rw [if_neg e, no (by omega)]
    · rw [if_neg (by simpa using h2), no (by omega)]
theorem sTerm_house {p : Int} {bs : List Int} {t : List S32} (hh : houseB p bs = true) (ht : t.length ≤ 1048576) (d : Nat) : ∀ (k i : Nat) (ps : Int), i ≤ t.length → t.length - i = d → 0 ≤ ps → ps ≤ i → 2 * d + 20 ≤ k →
    spec_TermOk.l0 k t ps (i : Int) p bs = some (tgo bs (t.drop i) ps && decide ((t.length : Int) ≤ 9)) := by
  have hl := (houseB_iff.1 hh).2.2
  induction d with
  | zero =>
    intro k i ps hi hdd _ _ hk
    obtain ⟨k, rfl⟩ : ∃ m, k = m + 1 := ⟨k - 1, by omega⟩
    rw [spec_TermOk.l0, if_neg (by omega), List.drop_of_length_le (by omega), sHouseOk_eq p (by omega) k (by omega), hh, Option.bind_some, if_pos rfl, tgo]
    by_cases h : ps = 1
    · rw [if_pos h, h]; rfl
    · rw [if_neg h, show (ps == 1) = false from beq_eq_false_iff_ne.mpr h]; rfl
  | succ d ih =>
    intro k i ps hi hdd p0 p1 hk
    obtain ⟨k, rfl⟩ : ∃ m, k = m + 2 := ⟨k - 2, by omega⟩
    have hlt : i < t.length := by omega
    have up := ih k (i + 1) (ps + 1) (by omega) (by omega) (by omega) (by omega) (by omega)
    have e1 : (((i + 1 : Nat)) : Int) = (i : Int) + 1 := by omega
    rw [e1] at up
    have dn : 2 ≤ ps → spec_TermOk.l0 k t (ps - 1) ((i : Int) + 1) p bs = some (tgo bs (t.drop (i + 1)) (ps - 1) && decide ((t.length : Int) ≤ 9)) := fun h2 => by
      have := ih k (i + 1) (ps - 1) (by omega) (by omega) (by omega) (by omega) (by omega)
      rw [e1] at this; exact this
    have J := fun R => sTerm_j (p := p) (bs := bs) hlt ps p0 (by omega) (by omega) k R
    rw [spec_TermOk.l0, if_pos (by omega), if_pos (by omega), rdT_at hlt, List.drop_eq_getElem_cons hlt, tgo]
    by_cases h0 : t[i].f0 = 0
    · rw [if_pos h0, if_pos h0, l1In_eq, Option.bind_some, w64 (x := (bs.length : Int) - 1) (by omega) (by omega)]
      have no := J false (fun _ h => by omega) (fun _ => rfl)
      by_cases a : 0 ≤ t[i].f1 ∧ t[i].f1 ≤ (bs.length : Int) - 1
      · obtain ⟨_, _, c0, c64, _⟩ := okC_lt (Tr.body_ok hh (a := t[i].f1) (by omega) (by omega))
        rw [if_pos (decide_eq_true a), if_pos (by omega), if_pos (by omega), sHeads_eq (k + 1) (by omega) c0 c64, Option.bind_some, l1In_eq, Option.bind_some]
        by_cases b : 1 ≤ t[i].f2 ∧ t[i].f2 ≤ hd (rd bs t[i].f1)
        · rw [decide_eq_true b, if_pos (by omega), spec_TermOk.j1, if_pos rfl, wr p0 (by omega), wr (by omega) (by omega)]
          exact up
        · rw [decide_eq_false b, if_neg (by omega), no]; rfl
      · rw [if_neg (by simpa using a), if_neg (by omega), no]; rfl
    · rw [if_neg h0, if_neg h0]
      refine J _ (fun h2 hk' h3 h4 => ?_) (fun hn => ?_)
      · rw [if_pos hk', if_pos ⟨h3, h4, h2⟩]; exact dn h2
      · by_cases h1 : t[i].f0 = 1 ∨ t[i].f0 = 2
        · rw [if_pos h1, if_neg (by omega)]; rfl
        · rw [if_neg h1]; rfl
theorem sTerm_none {p : Int} {bs : List Int} {t : List S32} (hh : houseB p bs = false) (hbl : bs.length ≤ 1048576) (hb : ∀ z ∈ bs, z < 2 ^ 63) (ht : t.length ≤ 1048576) (d : Nat) : ∀ (k i : Nat) (ps : Int), i ≤ t.length → t.length - i = d → 0 ≤ ps → ps ≤ i → 2 * d + bs.length + 80 ≤ k →
    spec_TermOk.l0 k t ps (i : Int) p bs = some false := by
  induction d with
  | zero =>
    intro k i ps hi hdd _ _ hk
    obtain ⟨k, rfl⟩ : ∃ m, k = m + 1 := ⟨k - 1, by omega⟩
    rw [spec_TermOk.l0, if_neg (by omega), sHouseOk_eq p (by omega) k (by omega), hh, Option.bind_some, if_neg (by simp)]
  | succ d ih =>
    intro k i ps hi hdd p0 p1 hk
    obtain ⟨k, rfl⟩ : ∃ m, k = m + 2 := ⟨k - 2, by omega⟩
    have hlt : i < t.length := by omega
    have up := ih k (i + 1) (ps + 1) (by omega) (by omega) (by omega) (by omega) (by omega)
    have e1 : (((i + 1 : Nat)) : Int) = (i : Int) + 1 := by omega
    rw [e1] at up
    have no := sTerm_j (p := p) (bs := bs) hlt ps p0 (by omega) (by omega) k false (fun h2 _ _ _ => by
      have := ih k (i + 1) (ps - 1) (by omega) (by omega) (by omega) (by omega) (by omega)
      rw [e1] at this; exact this) (fun _ => rfl)
    have J : ∀ b, spec_TermOk.j1 (k + 1) t ps (i : Int) b p bs = some false := by
      intro b
      cases b with
      | false => exact no
      | true => rw [spec_TermOk.j1, if_pos rfl, wr p0 (by omega), wr (by omega) (by omega)]; exact up
    rw [spec_TermOk.l0, if_pos (by omega), if_pos (by omega), rdT_at hlt]
    by_cases h0 : t[i].f0 = 0
    · rw [if_pos h0, l1In_eq, Option.bind_some, w64 (x := (bs.length : Int) - 1) (by omega) (by omega)]
      by_cases a : 0 ≤ t[i].f1 ∧ t[i].f1 ≤ (bs.length : Int) - 1
      · obtain ⟨r, hr⟩ := heads_some 63 (k + 1) (rd bs t[i].f1) 0 (rd_any hb _) (by omega)
        rw [if_pos (decide_eq_true a), if_pos (by omega), if_pos (by omega), show spec_l1Heads.f (k + 1) (rd bs t[i].f1) = some r from hr, Option.bind_some, l1In_eq, Option.bind_some]
        exact J _
      · rw [if_neg (by simpa using a)]; exact J _
    · rw [if_neg h0]; exact J _
theorem sTermOk_eq {p : Int} {bs : List Int} {t : List S32} (hbl : bs.length ≤ 1048576) (hb : ∀ z ∈ bs, z < 2 ^ 63) (ht : t.length ≤ 1048576) (k : Nat) (hk : 2 * t.length + bs.length + 100 ≤ k) : spec_TermOk.f k p bs t = some (termB p bs t) := by
  unfold spec_TermOk.f termB
  by_cases hh : houseB p bs = true
  · have this : spec_TermOk.l0 k t 0 0 p bs = some (tgo bs t 0 && decide ((t.length : Int) ≤ 9)) := sTerm_house hh ht t.length k 0 0 (by omega) (by omega) (by omega) (by omega) (by omega)
    rw [this, hh, Bool.true_and]
    congr 1
    by_cases h : t.length = 0
    · rw [List.eq_nil_of_length_eq_zero h]; rfl
    · rw [Bool.and_comm]
      congr 1
      rw [decide_eq_decide]; omega
  · have hf : houseB p bs = false := by simpa using hh
    rw [hf, Bool.false_and]
    exact sTerm_none hf hbl hb ht t.length k 0 0 (by omega) (by omega) (by omega) (by omega) (by omega)

theorem sDual_loop {p : Int} {bs : List Int} {t : List S32} (hT : termB p bs t = true) (hbl : bs.length ≤ 1048576) (hb : ∀ z ∈ bs, z < 2 ^ 63) (ht : t.length ≤ 9) (hh : houseB p bs = true) (hall : ∀ m ∈ t, okM bs m) (d : Nat) : ∀ (k i : Nat), i ≤ t.length → t.length - i = d → 2 * d + 150 + bs.length ≤ k →
    spec_DualTerm.l0 k t ((t.take i).map (dm bs)) (i : Int) p bs = some (t.map (dm bs)) := by
  induction d with
  | zero =>
    intro k i hi hdd hk
    obtain ⟨k, rfl⟩ : ∃ m, k = m + 2 := ⟨k - 2, by omega⟩
    rw [spec_DualTerm.l0, if_neg (by omega), spec_DualTerm.j1, if_neg (by simp), List.take_of_length_le (by omega)]
  | succ d ih =>
    intro k i hi hdd hk
    obtain ⟨k, rfl⟩ : ∃ m, k = m + 2 := ⟨k - 2, by omega⟩
    have hlt : i < t.length := by omega
    have e := ih k (i + 1) (by omega) (by omega) (by omega)
    rw [map_take (dm bs) hlt, show ((i + 1 : Nat) : Int) = (i : Int) + 1 from by omega] at e
    have hok := hall t[i] (List.getElem_mem hlt)
    have hlen : ((t.take i).map (dm bs)).length ≤ 9 := by simp; omega
    rw [spec_DualTerm.l0, if_pos (by omega), sTermOk_eq hbl hb (by omega) _ (by omega), hT, Option.bind_some, spec_DualTerm.j1, if_pos rfl, if_pos (by omega), if_pos (by omega), rdT_at hlt, wr (A := (i : Int)) (by omega) (by omega)]
    generalize t[i] = m at *
    rcases hok with ⟨h0, a0, a1, b0, b1⟩ | ⟨h0, z1, z2⟩
    · obtain ⟨_, _, m0, m64, _⟩ := okC_lt (Tr.body_ok hh a0 a1)
      have hh' := hd_le m0 m64
      rw [if_neg (by omega), if_neg (by omega), if_pos a0, if_pos a1, sHeads_eq k (by omega) m0 m64, Option.bind_some, if_pos (by omega), w64 (x := hd (rd bs m.f1) + 1) (by omega) (by omega), w64 (by omega) (by omega)]
      rw [dm, if_pos h0, h0] at e
      exact e
    · rw [dm, if_neg (by omega), z1, z2] at e
      by_cases h1 : m.f0 = 1
      · rw [if_pos h1] at e
        rw [if_pos h1, if_pos (by omega)]; exact e
      · rw [if_neg h1] at e
        rw [if_neg h1, if_pos (by omega), if_pos (by omega)]; exact e
theorem sDualTerm_eq {p : Int} {bs : List Int} {t : List S32} (hbl : bs.length ≤ 1048576) (hb : ∀ z ∈ bs, z < 2 ^ 63) (ht : t.length ≤ 1048576) (k : Nat) (hk : 2 * t.length + bs.length + 200 ≤ k) : spec_DualTerm.f k p bs t = some (dualB p bs t) := by
  unfold spec_DualTerm.f dualB
  by_cases h : termB p bs t = true
  · obtain ⟨hh, h9, x, hx, e⟩ := term_tree h
    rw [if_pos h]
    exact sDual_loop h hbl hb h9 hh (by rw [← e]; exact okM_flat x hx) t.length k 0 (by omega) (by omega) (by omega)
  · rw [if_neg h]
    obtain ⟨k, rfl⟩ : ∃ m, k = m + 2 := ⟨k - 2, by omega⟩
    rw [spec_DualTerm.l0]
    by_cases h0 : (0 : Int) < t.length
    · rw [if_pos h0, sTermOk_eq hbl hb ht _ (by omega), Option.bind_some, spec_DualTerm.j1, if_neg h]
    · rw [if_neg h0, spec_DualTerm.j1, if_neg (by simp)]

theorem set_rd {l : List S32} {i : Nat} (h : i < l.length) (v : S32) : rd_T32 (l.set i v) (i : Int) = v := by
  rw [rdT_at (by simpa using h), List.getElem_set_self]
theorem markMarkS_loop (n : Nat) (a : Int) (hn : n ≤ 1048576) (a0 : 0 ≤ a) (a1 : a ≤ 10000000) (d : Nat) : ∀ (k i : Nat) (l : List S32), l.length = n → i ≤ n → n - i = d → (∀ j : Nat, j < i → l[j]? = some ⟨a + 3 * j, a + 3 * j + 1, a + 3 * j + 2⟩) → d < k →
    ∃ l', laws_markMarkS.l0 k l (a + 3 * i) (i : Int) = some (a + 3 * n, l') ∧ l'.length = n ∧ ∀ j : Nat, j < n → l'[j]? = some ⟨a + 3 * j, a + 3 * j + 1, a + 3 * j + 2⟩ := by
  induction d with
  | zero =>
    intro k i l hl hi hdd hall hk
    obtain ⟨k, rfl⟩ : ∃ m, k = m + 1 := ⟨k - 1, by omega⟩
    obtain rfl : i = n := by omega
    rw [laws_markMarkS.l0, if_neg (by omega)]
    exact ⟨l, rfl, hl, hall⟩
  | succ d ih =>
    intro k i l hl hi hdd hall hk
    obtain ⟨k, rfl⟩ : ∃ m, k = m + 1 := ⟨k - 1, by omega⟩
    have hlt : i < l.length := by omega
    rw [laws_markMarkS.l0, if_pos (by omega), if_pos (by omega), Option.bind_some, Option.bind_some]
    simp only [Int.toNat_natCast, List.set_set, set_rd hlt]
    rw [
      wr (A := a + 3 * (i : Int)) (by omega) (by omega), wr (A := a + 3 * (i : Int) + 1) (by omega) (by omega), wr (A := a + 3 * (i : Int) + 1 + 1) (by omega) (by omega), wr (A := (i : Int)) (by omega) (by omega)]
    have := ih k (i + 1) (l.set i ⟨a + 3 * i, a + 3 * i + 1, a + 3 * i + 1 + 1⟩) (by simpa using hl) (by omega) (by omega) (fun j hj => by
      by_cases e : j = i
      · subst e
        rw [List.getElem?_set_self hlt]
        congr 2; omega
      · rw [List.getElem?_set_ne (by omega)]; exact hall j (by omega)) (by omega)
    rw [show a + 3 * ((i + 1 : Nat) : Int) = a + 3 * (i : Int) + 1 + 1 + 1 from by omega, show ((i + 1 : Nat) : Int) = (i : Int) + 1 from by omega] at this
    exact this
theorem markMarkS_eq (l : List S32) (a : Int) (hn : l.length ≤ 1048576) (a0 : 0 ≤ a) (a1 : a ≤ 10000000) (k : Nat) (hk : l.length < k) :
    ∃ l', laws_markMarkS.f k l a = some (a + 3 * l.length, l') ∧ l'.length = l.length ∧ ∀ j : Nat, j < l.length → l'[j]? = some ⟨a + 3 * j, a + 3 * j + 1, a + 3 * j + 2⟩ := by
  have := markMarkS_loop l.length a hn a0 a1 l.length k 0 l rfl (by omega) (by omega) (fun j hj => absurd hj (by omega)) hk
  unfold laws_markMarkS.f
  rw [show a + 3 * ((0 : Nat) : Int) = a from by omega] at this
  exact this
theorem heldMarkS_loop (n : Nat) (a : Int) (hn : n ≤ 1048576) (a0 : 0 ≤ a) (a1 : a ≤ 10000000) (l : List S32) (hl : l.length = n) (hall : ∀ j : Nat, j < n → l[j]? = some ⟨a + 3 * j, a + 3 * j + 1, a + 3 * j + 2⟩) (d : Nat) : ∀ (k i : Nat), i ≤ n → n - i = d → d < k →
    laws_heldMarkS.l0 k l (a + 3 * i) (i : Int) = some (a + 3 * n) := by
  induction d with
  | zero =>
    intro k i hi hdd hk
    obtain ⟨k, rfl⟩ : ∃ m, k = m + 1 := ⟨k - 1, by omega⟩
    obtain rfl : i = n := by omega
    rw [laws_heldMarkS.l0, if_neg (by omega)]
  | succ d ih =>
    intro k i hi hdd hk
    obtain ⟨k, rfl⟩ : ∃ m, k = m + 1 := ⟨k - 1, by omega⟩
    have hlt : i < l.length := by omega
    have e : l[i] = ⟨a + 3 * i, a + 3 * i + 1, a + 3 * i + 2⟩ := by
      have := hall i (by omega)
      rw [List.getElem?_eq_getElem hlt] at this
      exact Option.some.inj this
    rw [laws_heldMarkS.l0, if_pos (by omega), if_pos (by omega), rdT_at hlt, e]; dsimp only
    rw [if_pos rfl, wr (A := a + 3 * (i : Int)) (by omega) (by omega), if_pos rfl, wr (A := a + 3 * (i : Int) + 1) (by omega) (by omega), if_pos (by omega), wr (A := a + 3 * (i : Int) + 1 + 1) (by omega) (by omega), wr (A := (i : Int)) (by omega) (by omega)]
    have := ih k (i + 1) (by omega) (by omega) (by omega)
    rw [show a + 3 * ((i + 1 : Nat) : Int) = a + 3 * (i : Int) + 1 + 1 + 1 from by omega, show ((i + 1 : Nat) : Int) = (i : Int) + 1 from by omega] at this
    exact this
theorem heldMarkS_eq {l : List S32} {n : Nat} {a : Int} (hn : n ≤ 1048576) (a0 : 0 ≤ a) (a1 : a ≤ 10000000) (hl : l.length = n) (hall : ∀ j : Nat, j < n → l[j]? = some ⟨a + 3 * j, a + 3 * j + 1, a + 3 * j + 2⟩) (k : Nat) (hk : n < k) :
    laws_heldMarkS.f k l a = some (a + 3 * n) := by
  have := heldMarkS_loop n a hn a0 a1 l hl hall n k 0 (by omega) (by omega) hk
  unfold laws_heldMarkS.f
  rw [show a + 3 * ((0 : Nat) : Int) = a from by omega] at this
  exact this

theorem markIntS_loop (n : Nat) (a : Int) (hn : n ≤ 1048576) (a0 : 0 ≤ a) (a1 : a ≤ 10000000) (d : Nat) : ∀ (k i : Nat) (l : List Int), l.length = n → i ≤ n → n - i = d → d < k → ∃ l', laws_markIntS.l0 k l (a + i) (i : Int) = some (a + n, l') := by
  induction d with
  | zero =>
    intro k i l hl hi hdd hk
    obtain ⟨k, rfl⟩ : ∃ m, k = m + 1 := ⟨k - 1, by omega⟩
    obtain rfl : i = n := by omega
    rw [laws_markIntS.l0, if_neg (by omega)]
    exact ⟨l, rfl⟩
  | succ d ih =>
    intro k i l hl hi hdd hk
    obtain ⟨k, rfl⟩ : ∃ m, k = m + 1 := ⟨k - 1, by omega⟩
    rw [laws_markIntS.l0, if_pos (by omega), if_pos (by omega), wr (A := a + (i : Int)) (by omega) (by omega), wr (A := (i : Int)) (by omega) (by omega)]
    have := ih k (i + 1) (l.set ((i : Int)).toNat (a + i)) (by simpa using hl) (by omega) (by omega) (by omega)
    rw [show a + ((i + 1 : Nat) : Int) = a + (i : Int) + 1 from by omega, show ((i + 1 : Nat) : Int) = (i : Int) + 1 from by omega] at this
    exact this
theorem markIntS_eq (l : List Int) (a : Int) (hn : l.length ≤ 1048576) (a0 : 0 ≤ a) (a1 : a ≤ 10000000) (k : Nat) (hk : l.length < k) : ∃ l', laws_markIntS.f k l a = some (a + l.length, l') := by
  have := markIntS_loop l.length a hn a0 a1 l.length k 0 l rfl (by omega) (by omega) hk
  unfold laws_markIntS.f
  rw [show a + ((0 : Nat) : Int) = a from by omega] at this
  exact this
theorem markHouse_eq (p : Int) (l : List Int) (a : Int) (hn : l.length ≤ 1048576) (a0 : 0 ≤ a) (a1 : a ≤ 10000000) (k : Nat) (hk : l.length < k) : ∃ l', laws_markHouse.f k p l a = some (a + l.length, l') := by
  obtain ⟨l', h⟩ := markIntS_eq l a hn a0 a1 k hk
  exact ⟨l', by unfold laws_markHouse.f; rw [h]; rfl⟩

theorem dual_len (p : Int) (bs : List Int) (t : List S32) : (dualB p bs t).length ≤ t.length := by
  unfold dualB; split <;> simp
theorem j0_eq (p : Int) (bs : List Int) (t : List S66) (D : List S32) (hbl : bs.length ≤ 1048576) (ht : t.length ≤ 1048576) (hD : D = dualB p bs (t.map cv)) (k : Nat) (hk : 2 * t.length + bs.length + 300 ≤ k) :
    laws_FnExactDualTerm.j0 (k + 1) t D D false p bs = some true := by
  have hl3 : (t.map cv).length ≤ 1048576 := by rw [cv_len]; exact ht
  have hDl : D.length ≤ t.length := by rw [hD, ← cv_len t]; exact dual_len ..
  obtain ⟨D', hm, hl', hall⟩ := markMarkS_eq D 1 (by omega) (by omega) (by omega) k (by omega)
  have hheld := heldMarkS_eq (l := D') (n := D.length) (a := 1) (by omega) (by omega) (by omega) hl' hall k (by omega)
  rw [laws_FnExactDualTerm.j0, if_neg (by simp), hm, Option.bind_some]; dsimp only
  rw [hheld, Option.bind_some, if_neg (by omega), if_pos rfl, toHouse_eq p hbl _ (by omega), Option.bind_some, toMarkS_eq ht _ (by omega), Option.bind_some]; dsimp only
  rw [iDualTerm_eq hbl hl3 _ (by omega), Option.bind_some, ← hD, eqMarkS_eq (by omega) _ (by omega), Option.bind_some, if_pos rfl, Option.bind_some, if_neg (by omega), if_pos rfl]
theorem main (p : Int) (bs : List Int) (hm : bs.length ≤ maxLen) (hw : ∀ z ∈ bs, (Lit.int .i64 z).wf = true) (t : List S66) (ht : t.length ≤ maxLen)
    (_ : ∀ m ∈ t, (Lit.int .i64 m.f0).wf = true ∧ (Lit.int .i64 m.f1).wf = true ∧ (Lit.int .i64 m.f2).wf = true) : ∃ k, laws_FnExactDualTerm.f k p bs t = some true := by
  refine ⟨2 * t.length + bs.length + 400 + 1, ?_⟩
  unfold laws_FnExactDualTerm.f
  rw [szHouse_eq p bs hm 1048576 (by omega) (by omega), Option.bind_some]
  by_cases h : (1048576 : Int) < bs.length
  · rw [if_pos h, if_pos (by omega)]
  rw [if_neg h, if_neg (by omega), szMarkS_eq t ht _ (by omega) (by omega), Option.bind_some]
  by_cases h2 : 1048576 - (bs.length : Int) < t.length
  · rw [if_pos h2, if_pos (by omega)]
  rw [if_neg h2, if_neg (by omega)]
  have hl : bs.length ≤ 1048576 := by omega
  have hl2 : t.length ≤ 1048576 := by omega
  have hl3 : (t.map cv).length ≤ 1048576 := by rw [cv_len]; exact hl2
  have hDl : (dualB p bs (t.map cv)).length ≤ t.length := by rw [← cv_len t]; exact dual_len ..
  obtain ⟨b', hb'⟩ := markHouse_eq p bs 1 hl (by omega) (by omega) (2 * t.length + bs.length + 400 + 1) (by omega)
  obtain ⟨t', ht', _, _⟩ := markMarkS_eq (t.map cv) (1 + bs.length) hl3 (by omega) (by omega) (2 * t.length + bs.length + 400 + 1) (by rw [cv_len]; omega)
  rw [toHouse_eq p hl _ (by omega), Option.bind_some, toMarkS_eq hl2 _ (by omega), Option.bind_some]; dsimp only
  rw [sDualTerm_eq hl (small hw) hl3 _ (by rw [cv_len]; omega), Option.bind_some, Option.bind_some, Option.bind_some]; dsimp only
  rw [iDualTerm_eq hl hl3 _ (by omega), Option.bind_some, eqMarkS_eq (by omega) _ (by omega), Option.bind_some, if_pos rfl, Option.bind_some]; dsimp only
  rw [eqHouse_eq p hl _ (by omega), Option.bind_some, if_pos rfl, Option.bind_some, eqMarkS_eq hl3 _ (by rw [cv_len]; omega), Option.bind_some, if_pos rfl, hb', Option.bind_some]; dsimp only
  rw [ht', Option.bind_some]; dsimp only
  rw [if_neg (by omega), Option.bind_some]
  exact j0_eq p bs t _ hl hl2 rfl _ (by omega)

end Go.Proofs.Ytfadpbgidocimaa.Pure.fnExactDualTerm
