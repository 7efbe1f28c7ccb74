/- A term of one body is the body: here the first mark of a term, for every drawn input. No condition. -/
import Derived.Test.YtfadpbgidocimaaPFnAtomBodyx12
import Derived.Test.YtfadpbgidocimaaBase
import Derived.Test.YtfadpbgidocimaaBaseHouse
import Derived.Test.YtfadpbgidocimaaBaseTerm
set_option linter.unusedVariables false
set_option linter.unusedSimpArgs false
namespace Go.Proofs.Ytfadpbgidocimaa.Pure.fnAtomBody
open Go.RowKit Go.Proofs.Ytfadpbgidocimaa.PFnAtomBody Go.Proofs.YtfadpbgidocimaaW.PrintWords Go.Proofs.YtfadpbgidocimaaW.PrintLast Go.Proofs.YtfadpbgidocimaaW.PrintMore Go.Proofs.Ytfadpbgidocimaa.Base

theorem rdT_at {l : List S32} {i : Nat} (h : i < l.length) : rd_T32 l (i : Int) = l[i] := by
  unfold rd_T32; rw [Int.toNat_natCast, List.getD_eq_getElem?_getD, List.getElem?_eq_getElem h, Option.getD_some]
def flat : Tr → List S32
  | .atom a n => [⟨0, a, n⟩]
  | .node o l r => flat l ++ flat r ++ [⟨if o = true then 2 else 1, 0, 0⟩]
theorem flat_len : ∀ t : Tr, (flat t).length = t.len
  | .atom _ _ => rfl
  | .node _ l r => by simp only [flat, Tr.len, List.length_append, flat_len l, flat_len r, List.length_singleton]
/-- What a row of marks does to the number of parts; at the end one is to be left. -/
def tgo (bs : List Int) : List S32 → Int → Bool
  | [], p => p == 1
  | m :: t, p =>
    if m.f0 = 0 then (if 0 ≤ m.f1 ∧ m.f1 < bs.length ∧ 1 ≤ m.f2 ∧ m.f2 ≤ hd (rd bs m.f1) then tgo bs t (p + 1) else false)
    else if m.f0 = 1 ∨ m.f0 = 2 then (if m.f1 = 0 ∧ m.f2 = 0 ∧ 2 ≤ p then tgo bs t (p - 1) else false)
    else false
def termB (p : Int) (bs : List Int) (t : List S32) : Bool := houseB p bs && (decide (1 ≤ t.length ∧ t.length ≤ 9) && tgo bs t 0)
def flats : List Tr → List S32
  | [] => []
  | t :: ts => flat t ++ flats ts
theorem flats_append : ∀ a b : List Tr, flats (a ++ b) = flats a ++ flats b
  | [], b => rfl
  | t :: a, b => by simp only [List.cons_append, flats, flats_append a b, List.append_assoc]
theorem two_last {l : List Tr} (h : 2 ≤ l.length) : ∃ s a b, l = s ++ [a, b] := by
  obtain ⟨b, hb⟩ : ∃ b, b = l.length - 2 := ⟨_, rfl⟩
  refine ⟨l.take b, l[b]'(by omega), l[b + 1]'(by omega), ?_⟩
  have e : l.drop b = [l[b]'(by omega), l[b + 1]'(by omega)] := by
    rw [List.drop_eq_getElem_cons (by omega), List.drop_eq_getElem_cons (by omega), List.drop_of_length_le (by omega)]
  rw [← e, List.take_append_drop]
/-- A row of marks that leaves one part is a tree, written down. -/
theorem parse {bs : List Int} : ∀ (t : List S32) (st : List Tr), (∀ x ∈ st, x.good bs) → tgo bs t (st.length : Int) = true → ∃ x : Tr, x.good bs ∧ flat x = flats st ++ t
  | [], st, hg, h => by
    simp only [tgo, beq_iff_eq] at h
    match st, h with
    | [x], _ => exact ⟨x, hg x (by simp), by simp [flats]⟩
  | m :: t, st, hg, h => by
    simp only [tgo] at h
    by_cases h0 : m.f0 = 0
    · rw [if_pos h0] at h
      by_cases hc : 0 ≤ m.f1 ∧ m.f1 < bs.length ∧ 1 ≤ m.f2 ∧ m.f2 ≤ hd (rd bs m.f1)
      · rw [if_pos hc] at h
        obtain ⟨x, hx, e⟩ := parse t (st ++ [.atom m.f1 m.f2]) (fun x hx => by
          rcases List.mem_append.1 hx with hx | hx
          · exact hg x hx
          · rw [List.mem_singleton.1 hx]; exact hc) (by rw [List.length_append]; simpa using h)
        refine ⟨x, hx, ?_⟩
        rw [e, flats_append, List.append_assoc]
        congr 1
        simp only [flats, flat, List.append_nil, List.singleton_append]
        congr 1
        rw [← h0]
      · rw [if_neg hc] at h; exact absurd h (by simp)
    · rw [if_neg h0] at h
      by_cases h1 : m.f0 = 1 ∨ m.f0 = 2
      · rw [if_pos h1] at h
        by_cases hc : m.f1 = 0 ∧ m.f2 = 0 ∧ 2 ≤ (st.length : Int)
        · rw [if_pos hc] at h
          obtain ⟨s, a, b, rfl⟩ := two_last (l := st) (by omega)
          obtain ⟨x, hx, e⟩ := parse t (s ++ [.node (decide (m.f0 = 2)) a b]) (fun x hx => by
            rcases List.mem_append.1 hx with hx | hx
            · exact hg x (by simp [hx])
            · rw [List.mem_singleton.1 hx]; exact ⟨hg a (by simp), hg b (by simp)⟩) (by
              have : (((s ++ [a, b]).length : Nat) : Int) - 1 = (((s ++ [Tr.node (decide (m.f0 = 2)) a b]).length : Nat) : Int) := by simp; omega
              rw [← this]; exact h)
          refine ⟨x, hx, ?_⟩
          rw [e, flats_append, flats_append, List.append_assoc, List.append_assoc]
          congr 1
          simp only [flats, flat, List.append_nil, List.append_assoc, List.singleton_append]
          congr 3
          obtain ⟨m0, m1, m2⟩ := m
          simp only at h1 hc
          obtain ⟨rfl, rfl, _⟩ := hc
          rcases h1 with rfl | rfl <;> rfl
        · rw [if_neg hc] at h; exact absurd h (by simp)
      · rw [if_neg h1] at h; exact absurd h (by simp)
theorem flat_go {bs : List Int} : ∀ (x : Tr), x.good bs → ∀ (t : List S32) (p : Int), 0 ≤ p → tgo bs (flat x ++ t) p = tgo bs t (p + 1)
  | .atom a n, h, t, p, hp => by
    simp only [flat, List.singleton_append, tgo, if_true]
    exact if_pos h
  | .node o l r, h, t, p, hp => by
    simp only [flat, List.append_assoc]
    rw [flat_go l h.1 _ p hp, flat_go r h.2 _ (p + 1) (by omega)]
    simp only [List.singleton_append, tgo]
    rw [if_neg (by cases o <;> simp), if_pos (by cases o <;> simp), if_pos ⟨trivial, trivial, by omega⟩]
    congr 1; omega
theorem term_tree {p : Int} {bs : List Int} {t : List S32} (h : termB p bs t = true) : houseB p bs = true ∧ t.length ≤ 9 ∧ ∃ x : Tr, x.good bs ∧ flat x = t := by
  simp only [termB, Bool.and_eq_true, decide_eq_true_eq] at h
  obtain ⟨x, hx, e⟩ := parse t [] (by simp) (by simpa using h.2.2)
  exact ⟨h.1, h.2.1.2, x, hx, by simpa [flats] using e⟩
theorem tree_term {p : Int} {bs : List Int} {x : Tr} (hh : houseB p bs = true) (hx : x.good bs) (hl : x.len ≤ 9) : termB p bs (flat x) = true := by
  have := flat_go x hx [] 0 (by omega)
  rw [List.append_nil] at this
  simp only [termB, Bool.and_eq_true, decide_eq_true_eq, flat_len]
  exact ⟨hh, ⟨x.len_pos, hl⟩, by rw [this]; rfl⟩

theorem arePeople_eq (p : Int) : impl_arePeople.f p = some (decide (1 ≤ p ∧ p ≤ 6)) := by
  unfold impl_arePeople.f
  by_cases h : p ≥ 1
  · rw [if_pos h]; congr 1; simp [show 1 ≤ p from h]
  · rw [if_neg h]; congr 1; simp; omega
theorem isCrowd_eq (p c : Int) : impl_isCrowd.f p c = some (okC p c) := by
  unfold impl_isCrowd.f
  rw [arePeople_eq]
  simp only [Option.bind_some]
  by_cases h : 1 ≤ p ∧ p ≤ 6
  · rw [if_pos (by simpa using h)]
    by_cases h0 : c ≥ 0
    · rw [if_pos h0, if_pos (by omega), shl1 (by omega) h.2]
      congr 1
      rw [Bool.eq_iff_iff, okC_iff]; simp; omega
    · rw [if_neg h0]; congr 1
      symm; rw [Bool.eq_false_iff]; intro hc; rw [okC_iff] at hc; omega
  · rw [if_neg (by simpa using h)]; congr 1
    symm; rw [Bool.eq_false_iff]; intro hc; rw [okC_iff] at hc; omega

theorem isHouse_loop {p : Int} {bs : List Int} (hm : bs.length ≤ 1048576) (d : Nat) : ∀ (k i : Nat), i ≤ bs.length → bs.length - i = d → d < k →
    impl_isHouse.l0 k bs (bs.length : Int) (i : Int) p bs = some ((bs.drop i).all (goodB p) && (decide (1 ≤ p ∧ p ≤ 6) && decide ((bs.length : Int) ≤ 4))) := by
  induction d with
  | zero =>
    intro k i hi hd hk
    obtain ⟨k, rfl⟩ : ∃ m, k = m + 1 := ⟨k - 1, by omega⟩
    simp only [impl_isHouse.l0]
    rw [if_neg (by omega), List.drop_of_length_le (by omega), arePeople_eq, Option.bind_some]
    by_cases h : 1 ≤ p ∧ p ≤ 6
    · rw [if_pos (by simpa using h)]; simp [h]
    · rw [if_neg (by simpa using h)]; simp [h]
  | succ d ih =>
    intro k i hi hd hk
    obtain ⟨k, rfl⟩ : ∃ m, k = m + 1 := ⟨k - 1, by omega⟩
    simp only [impl_isHouse.l0]
    have hlt : i < bs.length := by omega
    rw [if_pos (by omega), if_pos (by omega), if_pos (by omega), rd_at hlt, isCrowd_eq, Option.bind_some, all_drop hlt]
    by_cases hg : okC p bs[i] = true
    · rw [if_pos hg]
      by_cases hz : bs[i] = 0
      · rw [if_pos hz]; simp [goodB, hz]
      · rw [if_neg hz, wr (by omega) (by omega)]
        rw [show goodB p bs[i] = true from by simp [goodB, hg, hz], Bool.true_and]
        exact ih k (i + 1) (by omega) (by omega) (by omega)
    · rw [if_neg hg]; simp [goodB, hg]
theorem isHouse_eq {bs : List Int} (p : Int) (hm : bs.length ≤ 1048576) (k : Nat) (hk : bs.length < k) : impl_isHouse.f k p bs = some (houseB p bs) := by
  unfold impl_isHouse.f houseB
  exact isHouse_loop hm bs.length k 0 (by omega) (by omega) hk

theorem heads_all : ∀ c : Fin 64, impl_headsOf.f c.val = some (hd c.val) := by decide +kernel
theorem iHeads_eq {c : Int} (h0 : 0 ≤ c) (h1 : c < 64) : impl_headsOf.f c = some (hd c) := all64 (P := fun c => impl_headsOf.f c = some (hd c)) heads_all c h0 h1

theorem isTerm_loop {p : Int} {bs : List Int} {t : List S32} (hh : houseB p bs = true) (ht : t.length ≤ 9) (d : Nat) : ∀ (k i : Nat) (ps : Int), i ≤ t.length → t.length - i = d → 0 ≤ ps → ps ≤ 100 + i → 2 * d + 1 ≤ k →
    impl_isTerm.l0 k ps t (t.length : Int) (i : Int) p bs = some (tgo bs (t.drop i) ps) := by
  have hl := (houseB_iff.1 hh).2.2
  induction d with
  | zero =>
    intro k i ps hi hdd _ _ hk
    obtain ⟨k, rfl⟩ : ∃ m, k = m + 1 := ⟨k - 1, by omega⟩
    rw [impl_isTerm.l0, if_neg (by omega), List.drop_of_length_le (by omega)]
    rfl
  | succ d ih =>
    intro k i ps hi hdd p0 p1 hk
    obtain ⟨k, rfl⟩ : ∃ m, k = m + 2 := ⟨k - 2, by omega⟩
    have hlt : i < t.length := by omega
    have up := ih (k + 1) (i + 1) (ps + 1) (by omega) (by omega) (by omega) (by omega) (by omega)
    have e1 : (((i + 1 : Nat)) : Int) = (i : Int) + 1 := by omega
    rw [e1] at up
    rw [impl_isTerm.l0, if_pos (by omega), if_pos (by omega), if_pos (by omega), rdT_at hlt, List.drop_eq_getElem_cons hlt, tgo]
    generalize t[i] = m
    by_cases h0 : m.f0 = 0
    · rw [if_pos h0, if_pos h0]
      by_cases a : m.f1 < 0
      · rw [if_pos a, if_neg (by omega)]
      · rw [if_neg a]
        by_cases b : m.f1 ≥ bs.length
        · rw [if_pos b, if_neg (by omega)]
        · rw [if_neg b]
          by_cases c : m.f2 < 1
          · rw [if_pos c, if_neg (by omega)]
          · obtain ⟨_, _, c0, c64, _⟩ := okC_lt (Tr.body_ok hh (a := m.f1) (by omega) (by omega))
            rw [if_neg c, if_pos (by omega), if_pos (by omega), iHeads_eq c0 c64, Option.bind_some]
            by_cases e : m.f2 > hd (rd bs m.f1)
            · rw [if_pos e, if_neg (by omega)]
            · rw [if_neg e, if_pos (by omega), wr p0 (by omega), wr (by omega) (by omega)]
              exact up
    · have j : ∀ b : Bool, b = decide (m.f0 = 1 ∨ m.f0 = 2) → impl_isTerm.j2 (k + 1) ps t (t.length : Int) (i : Int) b p bs m.f0 m.f1 m.f2 = some (if m.f0 = 1 ∨ m.f0 = 2 then (if m.f1 = 0 ∧ m.f2 = 0 ∧ 2 ≤ ps then tgo bs (t.drop (i + 1)) (ps - 1) else false) else false) := by
        intro b hb
        rw [impl_isTerm.j2]
        by_cases h1 : m.f0 = 1 ∨ m.f0 = 2
        · rw [decide_eq_true h1] at hb
          rw [if_pos hb, if_pos h1]
          by_cases a : m.f1 = 0
          · by_cases c : m.f2 = 0
            · by_cases e : ps < 2
              · rw [if_pos a, if_pos c, if_pos e, if_neg (by omega)]
              · have dn := ih k (i + 1) (ps - 1) (by omega) (by omega) (by omega) (by omega) (by omega)
                rw [e1] at dn
                rw [if_pos a, if_pos c, if_neg e, if_pos (by omega), w64 (x := ps - 1) (by omega) (by omega), wr (by omega) (by omega)]
                exact dn
            · rw [if_pos a, if_neg c, if_neg (by omega)]
          · rw [if_neg a, if_neg (by omega)]
        · rw [decide_eq_false h1] at hb
          rw [if_neg (by simp [hb]), if_neg h1]
      rw [if_neg h0, if_neg h0]
      by_cases h1 : m.f0 = 1
      · rw [if_pos h1]; exact j _ (by rw [Bool.eq_iff_iff]; simp [h1])
      · rw [if_neg h1]; exact j _ (by rw [Bool.eq_iff_iff]; simp [h1])
theorem isTerm_eq {p : Int} {bs : List Int} {t : List S32} (hb : bs.length ≤ 1048576) (ht : t.length ≤ 1048576) (k : Nat) (hk : bs.length + 50 ≤ k) : impl_isTerm.f k p bs t = some (termB p bs t) := by
  have j : ∀ (k : Nat) (b : Bool), 40 ≤ k → houseB p bs = true → b = decide (t.length > 9) → impl_isTerm.j0 k t b p bs = some (if t.length ≤ 9 then tgo bs t 0 else false) := by
    intro k b hk hh hb
    obtain ⟨k, rfl⟩ : ∃ m, k = m + 1 := ⟨k - 1, by omega⟩
    rw [impl_isTerm.j0]
    by_cases h : t.length > 9
    · rw [decide_eq_true h] at hb
      rw [if_pos hb, if_neg (by omega)]
    · rw [decide_eq_false h] at hb
      rw [if_neg (by simp [hb]), if_pos (by omega)]
      exact isTerm_loop hh (by omega) t.length k 0 0 (by omega) (by omega) (by omega) (by omega) (by omega)
  have j1 : ∀ k, 1 ≤ k → impl_isTerm.j0 k t true p bs = some false := by
    intro k hk
    obtain ⟨k, rfl⟩ : ∃ m, k = m + 1 := ⟨k - 1, by omega⟩
    rw [impl_isTerm.j0, if_pos rfl]
  unfold impl_isTerm.f termB
  rw [isHouse_eq p hb k (by omega), Option.bind_some]
  by_cases hh : houseB p bs = true
  · rw [if_pos hh, hh, Bool.true_and]
    by_cases h1 : (t.length : Int) < 1
    · rw [if_pos h1, j1 k (by omega), decide_eq_false (by omega), Bool.false_and]
    · rw [if_neg h1, j k _ (by omega) hh (by rw [decide_eq_decide]; omega)]
      by_cases h9 : t.length ≤ 9
      · rw [if_pos h9, decide_eq_true (by omega), Bool.true_and]
      · rw [if_neg h9, decide_eq_false (by omega), Bool.false_and]
  · rw [if_neg hh, j1 k (by omega)]; simp [hh]

theorem at_drop {α : Type} {l : List α} {i : Nat} {m : α} {post : List α} (h : l.drop i = m :: post) : ∃ hlt : i < l.length, l[i] = m ∧ l.drop (i + 1) = post := by
  have hlt : i < l.length := by
    by_cases hi : i < l.length
    · exact hi
    · rw [List.drop_of_length_le (by omega)] at h; cases h
  rw [List.drop_eq_getElem_cons hlt] at h
  injection h with h1 h2
  exact ⟨hlt, h1, h2⟩
theorem drop_more {α : Type} {l a post : List α} {i n : Nat} (h : l.drop i = a ++ post) (hn : a.length = n) : l.drop (i + n) = post := by
  rw [← List.drop_drop, h, ← hn, List.drop_left]



theorem con_atom {p c : Int} {bs : List Int} {t : List S32} (hh : houseB p bs = true) (hc : okC p c = true) (ht : t.length ≤ 9) {a n : Int} (hg : (Tr.atom a n).good bs) {i : Nat} {post : List S32} (h : t.drop i = ⟨0, a, n⟩ :: post) (st : List Bool) (hs : st.length ≤ 100) (k : Nat) :
    impl_consents.l0 (k + 1) c st t (t.length : Int) (i : Int) p bs = impl_consents.l0 k c (st ++ [(Tr.atom a n).ev bs c]) t (t.length : Int) ((i + 1 : Nat) : Int) p bs := by
  obtain ⟨hlt, e, _⟩ := at_drop h
  obtain ⟨g0, g1, g2, g3⟩ := hg
  obtain ⟨_, _, m0, m64, _⟩ := okC_lt (Tr.body_ok hh g0 g1)
  obtain ⟨_, _, c0, c64, _⟩ := okC_lt hc
  have hb := band_lt m0 m64 c0 c64
  rw [impl_consents.l0, if_pos (by omega), if_pos (by omega), if_pos (by omega), rdT_at hlt, e]; dsimp only
  rw [if_pos rfl, if_pos g0, if_pos g1, show impl_headsOf.f (Go.bits .and .i64 (rd bs a) c) = some (hd (band (rd bs a) c)) from iHeads_eq hb.1 hb.2.2.2, Option.bind_some, if_pos (by omega), wr (by omega) (by omega)]
  rfl
theorem rdOf_last2 (s : List Bool) (A B : Bool) : rdOf false (s ++ [A, B]) ((s.length : Nat) : Int) = A ∧ rdOf false (s ++ [A, B]) (((s.length : Nat) : Int) + 1) = B := by
  constructor
  · unfold rdOf
    rw [Int.toNat_natCast, List.getD_eq_getElem?_getD, List.getElem?_append_right (Nat.le_refl _)]; simp
  · unfold rdOf
    rw [show (((s.length : Nat) : Int) + 1).toNat = s.length + 1 from by omega, List.getD_eq_getElem?_getD, List.getElem?_append_right (by omega)]
    simp
theorem con_node {p c : Int} {bs : List Int} {t : List S32} (ht : t.length ≤ 9) (o : Bool) {i : Nat} {post : List S32} (h : t.drop i = ⟨if o = true then 2 else 1, 0, 0⟩ :: post) (s : List Bool) (A B : Bool) (hs : s.length ≤ 100) (k : Nat) :
    impl_consents.l0 (k + 1) c (s ++ [A, B]) t (t.length : Int) (i : Int) p bs = impl_consents.l0 k c (s ++ [if o = true then A || B else A && B]) t (t.length : Int) ((i + 1 : Nat) : Int) p bs := by
  obtain ⟨hlt, e, _⟩ := at_drop h
  have hl : (s ++ [A, B]).length = s.length + 2 := by simp
  have e2 : wrap64 (((s ++ [A, B]).length : Int) - 2) = (s.length : Int) := by rw [hl, w64 (by omega) (by omega)]; omega
  have e1 : wrap64 (((s ++ [A, B]).length : Int) - 1) = (s.length : Int) + 1 := by rw [hl, w64 (by omega) (by omega)]; omega
  obtain ⟨rA, rB⟩ := rdOf_last2 s A B
  have tk : (s ++ [A, B]).take s.length = s := List.take_left
  have hp : (s.length : Int) ≤ ((s.length + 2 : Nat) : Int) := by omega
  have hq : s.length < 140737488355328 := by omega
  rw [impl_consents.l0, if_pos (by omega), if_pos (by omega), if_pos (by omega), rdT_at hlt, e, e2, e1, hl]; dsimp only
  clear e1 e2
  rw [if_neg (by cases o <;> simp), if_pos (by omega), if_pos (by omega), if_pos (by omega), if_pos (by omega), rA, rB, Int.toNat_natCast, tk]
  simp only [if_pos hp, Option.bind_some, if_pos hq]
  rw [wr (by omega) (by omega), show ((i + 1 : Nat) : Int) = (i : Int) + 1 from by omega]
  cases o <;> cases A <;> cases B <;> rfl
theorem con_flat {p c : Int} {bs : List Int} {t : List S32} (hh : houseB p bs = true) (hc : okC p c = true) (ht : t.length ≤ 9) : ∀ (x : Tr), x.good bs → ∀ (i : Nat) (post : List S32) (st : List Bool) (k : Nat), t.drop i = flat x ++ post → st.length + x.len ≤ 90 →
    impl_consents.l0 (k + x.len) c st t (t.length : Int) (i : Int) p bs = impl_consents.l0 k c (st ++ [x.ev bs c]) t (t.length : Int) ((i + x.len : Nat) : Int) p bs
  | .atom a n, hg, i, post, st, k, h, hs => con_atom hh hc ht hg h st (by simp only [Tr.len] at hs; omega) k
  | .node o l r, hg, i, post, st, k, h, hs => by
    simp only [flat, List.append_assoc] at h
    simp only [Tr.len] at hs ⊢
    have h2 := drop_more h (flat_len l)
    have h3 := drop_more h2 (flat_len r)
    rw [show k + (l.len + r.len + 1) = (k + 1 + r.len) + l.len from by omega, con_flat hh hc ht l hg.1 i _ st _ h (by omega), con_flat hh hc ht r hg.2 _ _ _ _ h2 (by simp; omega)]
    rw [List.append_assoc]
    have := con_node (p := p) (c := c) (bs := bs) ht o h3 st (l.ev bs c) (r.ev bs c) (by omega) k
    rw [show i + l.len + r.len + 1 = i + (l.len + r.len + 1) from by omega] at this
    exact this
theorem consents_eq {p c : Int} {bs : List Int} {x : Tr} (hh : houseB p bs = true) (hc : okC p c = true) (hx : x.good bs) (hl : x.len ≤ 9) (k : Nat) (hk : 10 ≤ k) : impl_consents.f k p bs (flat x) c = some (x.ev bs c) := by
  unfold impl_consents.f
  obtain ⟨j, rfl⟩ : ∃ j, k = j + 1 + x.len := ⟨k - 1 - x.len, by omega⟩
  have := con_flat (t := flat x) hh hc (by rw [flat_len]; exact hl) x hx 0 [] [] (j + 1) (by simp) (by simp; omega)
  rw [show ((0 : Nat) : Int) = 0 from rfl] at this
  rw [this, impl_consents.l0, if_neg (by rw [flat_len]; omega)]
  rfl

/-- The upper two of a pile of answers become one. -/
def two (f : Bool → Bool → Bool) : List Bool → List Bool
  | B :: A :: s => f A B :: s
  | _ => []
/-- What a row of marks makes of a pile of answers. -/
def runS (bs : List Int) (c : Int) : List S32 → List Bool → List Bool
  | [], st => st
  | m :: t, st => runS bs c t (if m.f0 = 0 then decide (hd (band (rd bs m.f1) c) ≥ m.f2) :: st else two (fun A B => if m.f0 = 2 then A || B else A && B) st)
theorem run_flat {bs : List Int} {c : Int} : ∀ (x : Tr) (t : List S32) (st : List Bool), runS bs c (flat x ++ t) st = runS bs c t (x.ev bs c :: st)
  | .atom a n, t, st => by
    simp only [flat, List.singleton_append]
    rw [runS, if_pos rfl]; rfl
  | .node o l r, t, st => by
    simp only [flat, List.append_assoc]
    rw [run_flat l, run_flat r]
    simp only [List.singleton_append]
    rw [runS, if_neg (by cases o <;> simp), two]
    simp only [Tr.ev]
    cases o <;> simp
/-- Whether a term consents for a crowd. -/
def evS (bs : List Int) (c : Int) (t : List S32) : Bool := (runS bs c t []).headD false
theorem evS_flat (bs : List Int) (c : Int) (x : Tr) : evS bs c (flat x) = x.ev bs c := by
  have := run_flat (bs := bs) (c := c) x [] []
  rw [List.append_nil] at this
  unfold evS
  rw [this]; rfl
def conB (p : Int) (bs : List Int) (t : List S32) (c : Int) : Bool := termB p bs t && (okC p c && evS bs c t)
theorem conB_flat {p c : Int} {bs : List Int} {x : Tr} (h : termB p bs (flat x) = true) (hc : okC p c = true) (_ : x.good bs) : conB p bs (flat x) c = x.ev bs c := by
  unfold conB; rw [h, hc, evS_flat]; rfl
theorem conB_no {p c : Int} {bs : List Int} {t : List S32} (h : ¬ termB p bs t = true ∨ ¬ okC p c = true) : conB p bs t c = false := by
  unfold conB
  rcases h with h | h <;> simp [h]

theorem iConsentOk_eq {p c : Int} {bs : List Int} {t : List S32} (hb : bs.length ≤ 1048576) (ht : t.length ≤ 1048576) (k : Nat) (hk : bs.length + 50 ≤ k) : impl_ConsentOk.f k p bs t c = some (conB p bs t c) := by
  unfold impl_ConsentOk.f
  rw [isTerm_eq hb ht k hk, Option.bind_some]
  by_cases h : termB p bs t = true
  · obtain ⟨hh, h9, x, hx, rfl⟩ := term_tree h
    rw [if_pos h, isCrowd_eq, Option.bind_some]
    by_cases hc : okC p c = true
    · rw [if_pos hc, consents_eq hh hc hx (by rw [flat_len] at h9; exact h9) k (by omega), Option.bind_some, conB_flat h hc hx]
    · rw [if_neg hc, conB_no (.inr hc)]
  · rw [if_neg h, conB_no (.inl h)]

def dm (bs : List Int) (m : S32) : S32 := if m.f0 = 0 then ⟨m.f0, m.f1, hd (rd bs m.f1) + 1 - m.f2⟩ else if m.f0 = 1 then ⟨2, m.f1, m.f2⟩ else ⟨1, m.f1, m.f2⟩
theorem dm_flat (bs : List Int) : ∀ x : Tr, (flat x).map (dm bs) = flat (x.dl bs)
  | .atom a n => rfl
  | .node o l r => by
    simp only [flat, Tr.dl, List.map_append, dm_flat bs l, dm_flat bs r]
    cases o <;> rfl
/-- What is so of each mark of a term. -/
def okM (bs : List Int) (m : S32) : Prop := (m.f0 = 0 ∧ 0 ≤ m.f1 ∧ m.f1 < bs.length ∧ 1 ≤ m.f2 ∧ m.f2 ≤ hd (rd bs m.f1)) ∨ ((m.f0 = 1 ∨ m.f0 = 2) ∧ m.f1 = 0 ∧ m.f2 = 0)
theorem okM_flat {bs : List Int} : ∀ x : Tr, x.good bs → ∀ m ∈ flat x, okM bs m
  | .atom a n, h, m, hm => by
    rw [List.mem_singleton.1 hm]
    exact .inl ⟨rfl, h⟩
  | .node o l r, h, m, hm => by
    simp only [flat, List.mem_append] at hm
    rcases hm with (hm | hm) | hm
    · exact okM_flat l h.1 m hm
    · exact okM_flat r h.2 m hm
    · rw [List.mem_singleton.1 hm]
      exact .inr ⟨by cases o <;> simp, rfl, rfl⟩
theorem map_take {α β : Type} {l : List α} (f : α → β) {i : Nat} (h : i < l.length) : (l.take (i + 1)).map f = (l.take i).map f ++ [f l[i]] := by
  rw [List.take_succ_eq_append_getElem h, List.map_append]; rfl

theorem iDual_loop {p : Int} {bs : List Int} {t : List S32} (hh : houseB p bs = true) (ht : t.length ≤ 9) (hall : ∀ m ∈ t, okM bs m) (d : Nat) : ∀ (k i : Nat), i ≤ t.length → t.length - i = d → d < k →
    impl_dualTerm.l0 k ((t.take i).map (dm bs)) t (t.length : Int) (i : Int) p bs = some (t.map (dm bs)) := by
  induction d with
  | zero =>
    intro k i hi hdd hk
    obtain ⟨k, rfl⟩ : ∃ m, k = m + 1 := ⟨k - 1, by omega⟩
    rw [impl_dualTerm.l0, if_neg (by omega), List.take_of_length_le (by omega)]
  | succ d ih =>
    intro k i hi hdd hk
    obtain ⟨k, rfl⟩ : ∃ m, k = m + 1 := ⟨k - 1, by omega⟩
    have hlt : i < t.length := by omega
    have e := ih k (i + 1) (by omega) (by omega) (by omega)
    rw [map_take (dm bs) hlt, show ((i + 1 : Nat) : Int) = (i : Int) + 1 from by omega] at e
    have hok := hall t[i] (List.getElem_mem hlt)
    have hlen : ((t.take i).map (dm bs)).length ≤ 9 := by simp; omega
    rw [impl_dualTerm.l0, if_pos (by omega), if_pos (by omega), if_pos (by omega), rdT_at hlt, wr (A := (i : Int)) (by omega) (by omega)]
    generalize t[i] = m at *
    rcases hok with ⟨h0, a0, a1, b0, b1⟩ | ⟨h0, _, _⟩
    · obtain ⟨_, _, m0, m64, _⟩ := okC_lt (Tr.body_ok hh a0 a1)
      have hh' := hd_le m0 m64
      rw [if_pos h0, if_pos a0, if_pos a1, iHeads_eq m0 m64, Option.bind_some, if_pos (by omega), w64 (x := hd (rd bs m.f1) + 1) (by omega) (by omega), w64 (by omega) (by omega)]
      rw [dm, if_pos h0] at e
      exact e
    · rw [dm, if_neg (by omega)] at e
      rw [if_neg (by omega)]
      by_cases h1 : m.f0 = 1
      · rw [if_pos h1] at e
        rw [if_pos h1, if_pos (by omega)]; exact e
      · rw [if_neg h1] at e
        rw [if_neg h1, if_pos (by omega)]; exact e
theorem iDual_eq {p : Int} {bs : List Int} {x : Tr} (hh : houseB p bs = true) (hx : x.good bs) (hl : x.len ≤ 9) (k : Nat) (hk : 10 ≤ k) : impl_dualTerm.f k p bs (flat x) = some (flat (x.dl bs)) := by
  unfold impl_dualTerm.f
  have := iDual_loop hh (t := flat x) (by rw [flat_len]; exact hl) (okM_flat x hx) (flat x).length k 0 (by omega) (by omega) (by rw [flat_len]; omega)
  rw [dm_flat] at this
  exact this
/-- The dual of a term; no mark for others. -/
def dualB (p : Int) (bs : List Int) (t : List S32) : List S32 := if termB p bs t = true then t.map (dm bs) else []
theorem iDualTerm_eq {p : Int} {bs : List Int} {t : List S32} (hb : bs.length ≤ 1048576) (ht : t.length ≤ 1048576) (k : Nat) (hk : bs.length + 50 ≤ k) : impl_DualTerm.f k p bs t = some (dualB p bs t) := by
  unfold impl_DualTerm.f dualB
  rw [isTerm_eq hb ht k hk, Option.bind_some]
  by_cases h : termB p bs t = true
  · obtain ⟨hh, h9, x, hx, rfl⟩ := term_tree h
    rw [if_pos h, if_pos h, iDual_eq hh hx (by rw [flat_len] at h9; exact h9) k (by omega), Option.bind_some, dm_flat]
  · rw [if_neg h, if_neg h]

theorem dualB_flat {p : Int} {bs : List Int} {x : Tr} (h : termB p bs (flat x) = true) : dualB p bs (flat x) = flat (x.dl bs) := by
  unfold dualB; rw [if_pos h, dm_flat]
theorem dualB_no {p : Int} {bs : List Int} {t : List S32} (h : ¬ termB p bs t = true) : dualB p bs t = [] := by
  unfold dualB; rw [if_neg h]
theorem dual_term {p : Int} {bs : List Int} {x : Tr} (hh : houseB p bs = true) (hx : x.good bs) (hl : x.len ≤ 9) : termB p bs (flat (x.dl bs)) = true := tree_term hh (Tr.good_dl hx) (by rw [Tr.len_dl]; exact hl)

theorem iTermOk_eq {p : Int} {bs : List Int} {t : List S32} (hb : bs.length ≤ 1048576) (ht : t.length ≤ 1048576) (k : Nat) (hk : bs.length + 50 ≤ k) : impl_TermOk.f k p bs t = some (termB p bs t) := by
  unfold impl_TermOk.f; rw [isTerm_eq hb ht k hk]; rfl

theorem l1In_eq (n a b : Int) : spec_l1In.f n a b = some (decide (a ≤ n ∧ n ≤ b)) := by
  unfold spec_l1In.f
  by_cases h : n ≥ a
  · rw [if_pos h]; congr 1; simp [show a ≤ n from h]
  · rw [if_neg h]; congr 1; simp; omega
theorem sCrowdOk_eq (p c : Int) : spec_CrowdOk.f p c = some (okC p c) := by
  unfold spec_CrowdOk.f
  rw [l1In_eq]
  simp only [Option.bind_some]
  by_cases h : 1 ≤ p ∧ p ≤ 6
  · have hf := full_le h.1 h.2
    rw [if_pos (by simpa using h), if_pos (by omega), shl1 (by omega) h.2, l1In_eq, w64 (by omega) (by omega)]
    simp only [Option.bind_some]
    congr 1
    rw [Bool.eq_iff_iff, okC_iff]; simp; omega
  · rw [if_neg (by simpa using h)]; congr 1
    symm; rw [Bool.eq_false_iff]; intro hc; rw [okC_iff] at hc; omega

theorem sHouse_loop {p : Int} {bs : List Int} (hm : bs.length ≤ 1048576) (d : Nat) : ∀ (k i : Nat), i ≤ bs.length → bs.length - i = d → d < k →
    spec_HouseOk.l0 k (i : Int) p bs = some ((bs.drop i).all (goodB p) && (decide (1 ≤ p ∧ p ≤ 6) && decide ((bs.length : Int) ≤ 4))) := by
  induction d with
  | zero =>
    intro k i hi hd hk
    obtain ⟨k, rfl⟩ : ∃ m, k = m + 1 := ⟨k - 1, by omega⟩
    simp only [spec_HouseOk.l0]
    rw [if_neg (by omega), List.drop_of_length_le (by omega), l1In_eq, Option.bind_some]
    by_cases h : 1 ≤ p ∧ p ≤ 6
    · rw [if_pos (by simpa using h)]; simp [h]
    · rw [if_neg (by simpa using h)]; simp [h]
  | succ d ih =>
    intro k i hi hd hk
    obtain ⟨k, rfl⟩ : ∃ m, k = m + 1 := ⟨k - 1, by omega⟩
    simp only [spec_HouseOk.l0]
    have hlt : i < bs.length := by omega
    rw [if_pos (by omega), if_pos (by omega), rd_at hlt, sCrowdOk_eq, Option.bind_some, all_drop hlt]
    by_cases hg : okC p bs[i] = true
    · rw [if_pos hg]
      by_cases hz : bs[i] = 0
      · rw [if_pos hz]; simp [goodB, hz]
      · rw [if_neg hz, wr (by omega) (by omega)]
        rw [show goodB p bs[i] = true from by simp [goodB, hg, hz], Bool.true_and]
        exact ih k (i + 1) (by omega) (by omega) (by omega)
    · rw [if_neg hg]; simp [goodB, hg]
theorem sHouseOk_eq {bs : List Int} (p : Int) (hm : bs.length ≤ 1048576) (k : Nat) (hk : bs.length < k) : spec_HouseOk.f k p bs = some (houseB p bs) := by
  unfold spec_HouseOk.f houseB
  exact sHouse_loop hm bs.length k 0 (by omega) (by omega) hk

theorem l1Heads_all : ∀ c : Fin 64, spec_l1Heads.f 7 c.val = some (hd c.val) := by decide +kernel
theorem sHeads_eq {c : Int} (k : Nat) (hk : 7 ≤ k) (h0 : 0 ≤ c) (h1 : c < 64) : spec_l1Heads.f k c = some (hd c) :=
  at_rounds (spec_l1Heads.mono c) hk (all64 (P := fun c => spec_l1Heads.f 7 c = some (hd c)) l1Heads_all c h0 h1)

theorem heads_some (d : Nat) : ∀ (k : Nat) (c n : Int), c < 2 ^ d → d < k → ∃ r, spec_l1Heads.l0 k c n = some r := by
  induction d with
  | zero =>
    intro k c n hc hk
    obtain ⟨k, rfl⟩ : ∃ m, k = m + 1 := ⟨k - 1, by omega⟩
    rw [spec_l1Heads.l0, if_neg (by simp at hc; omega)]
    exact ⟨_, rfl⟩
  | succ d ih =>
    intro k c n hc hk
    obtain ⟨k, rfl⟩ : ∃ m, k = m + 1 := ⟨k - 1, by omega⟩
    rw [spec_l1Heads.l0]
    by_cases h : c > 0
    · rw [if_pos h]
      have e : Int.tdiv c 2 = c / 2 := Int.tdiv_eq_ediv_of_nonneg (by omega)
      refine ih k _ _ ?_ (by omega)
      have hp : (2 : Int) ^ (d + 1) = 2 ^ d * 2 := Int.pow_succ ..
      have h1 : c / 2 < 2 ^ d := by omega
      have h2 : wrap64 (c / 2) ≤ c / 2 := by
        unfold wrap64; omega
      rw [e]
      omega
    · rw [if_neg h]; exact ⟨_, rfl⟩
theorem rd_any {bs : List Int} (hb : ∀ z ∈ bs, z < 2 ^ 63) (i : Int) : rd bs i < 2 ^ 63 := by
  unfold rd
  by_cases hi : i.toNat < bs.length
  · rw [List.getD_eq_getElem?_getD, List.getElem?_eq_getElem hi, Option.getD_some]; exact hb _ (List.getElem_mem hi)
  · rw [List.getD_eq_getElem?_getD, List.getElem?_eq_none (by omega), Option.getD_none]; decide
theorem sTerm_j {p : Int} {bs : List Int} {t : List S32} {i : Nat} (hlt : i < t.length) (ps : Int) (p0 : 0 ≤ ps) (p1 : ps ≤ 10000000) (hi : i ≤ 10000000) (k : Nat) (R : Bool)
    (dn : 2 ≤ ps → (t[i].f0 = 1 ∨ t[i].f0 = 2) → t[i].f1 = 0 → t[i].f2 = 0 → spec_TermOk.l0 k t (ps - 1) ((i : Int) + 1) p bs = some R)
    (no : ¬ (2 ≤ ps ∧ (t[i].f0 = 1 ∨ t[i].f0 = 2) ∧ t[i].f1 = 0 ∧ t[i].f2 = 0) → R = false) : spec_TermOk.j1 (k + 1) t ps (i : Int) false p bs = some R := by
  rw [spec_TermOk.j1, if_neg (by simp), if_pos (by omega), if_pos (by omega), rdT_at hlt]
  generalize t[i] = m at *
  by_cases h1 : m.f0 = 1 ∧ m.f1 = 0 ∧ m.f2 = 0
  · rw [if_pos (by simp [h1])]
    by_cases e : ps ≥ 2
    · rw [if_pos e, w64 (x := ps - 1) (by omega) (by omega), wr (by omega) (by omega)]
      exact dn e (.inl h1.1) h1.2.1 h1.2.2
    · rw [if_neg e, no (by omega)]
  · rw [if_neg (by simpa using h1)]
    by_cases h2 : m.f0 = 2 ∧ m.f1 = 0 ∧ m.f2 = 0
    · rw [if_pos (by simp [h2])]
      by_cases e : ps ≥ 2
      · rw [if_pos e, w64 (x := ps - 1) (by omega) (by omega), wr (by omega) (by omega)]
        exact dn e (.inr h2.1) h2.2.1 h2.2.2
      · rw [if_neg e, no (by omega)]
    · rw [if_neg (by simpa using h2), no (by omega)]
theorem sTerm_house {p : Int} {bs : List Int} {t : List S32} (hh : houseB p bs = true) (ht : t.length ≤ 1048576) (d : Nat) : ∀ (k i : Nat) (ps : Int), i ≤ t.length → t.length - i = d → 0 ≤ ps → ps ≤ i → 2 * d + 20 ≤ k →
    spec_TermOk.l0 k t ps (i : Int) p bs = some (tgo bs (t.drop i) ps && decide ((t.length : Int) ≤ 9)) := by
  have hl := (houseB_iff.1 hh).2.2
  induction d with
  | zero =>
    intro k i ps hi hdd _ _ hk
    obtain ⟨k, rfl⟩ : ∃ m, k = m + 1 := ⟨k - 1, by omega⟩
    rw [spec_TermOk.l0, if_neg (by omega), List.drop_of_length_le (by omega), sHouseOk_eq p (by omega) k (by omega), hh, Option.bind_some, if_pos rfl, tgo]
    by_cases h : ps = 1
    · rw [if_pos h, h]; rfl
    · rw [if_neg h, show (ps == 1) = false from beq_eq_false_iff_ne.mpr h]; rfl
  | succ d ih =>
    intro k i ps hi hdd p0 p1 hk
    obtain ⟨k, rfl⟩ : ∃ m, k = m + 2 := ⟨k - 2, by omega⟩
    have hlt : i < t.length := by omega
    have up := ih k (i + 1) (ps + 1) (by omega) (by omega) (by omega) (by omega) (by omega)
    have e1 : (((i + 1 : Nat)) : Int) = (i : Int) + 1 := by omega
    rw [e1] at up
    have dn : 2 ≤ ps → spec_TermOk.l0 k t (ps - 1) ((i : Int) + 1) p bs = some (tgo bs (t.drop (i + 1)) (ps - 1) && decide ((t.length : Int) ≤ 9)) := fun h2 => by
      have := ih k (i + 1) (ps - 1) (by omega) (by omega) (by omega) (by omega) (by omega)
      rw [e1] at this; exact this
    have J := fun R => sTerm_j (p := p) (bs := bs) hlt ps p0 (by omega) (by omega) k R
    rw [spec_TermOk.l0, if_pos (by omega), if_pos (by omega), rdT_at hlt, List.drop_eq_getElem_cons hlt, tgo]
    by_cases h0 : t[i].f0 = 0
    · rw [if_pos h0, if_pos h0, l1In_eq, Option.bind_some, w64 (x := (bs.length : Int) - 1) (by omega) (by omega)]
      have no := J false (fun _ h => by omega) (fun _ => rfl)
      by_cases a : 0 ≤ t[i].f1 ∧ t[i].f1 ≤ (bs.length : Int) - 1
      · obtain ⟨_, _, c0, c64, _⟩ := okC_lt (Tr.body_ok hh (a := t[i].f1) (by omega) (by omega))
        rw [if_pos (decide_eq_true a), if_pos (by omega), if_pos (by omega), sHeads_eq (k + 1) (by omega) c0 c64, Option.bind_some, l1In_eq, Option.bind_some]
        by_cases b : 1 ≤ t[i].f2 ∧ t[i].f2 ≤ hd (rd bs t[i].f1)
        · rw [decide_eq_true b, if_pos (by omega), spec_TermOk.j1, if_pos rfl, wr p0 (by omega), wr (by omega) (by omega)]
          exact up
        · rw [decide_eq_false b, if_neg (by omega), no]; rfl
      · rw [if_neg (by simpa using a), if_neg (by omega), no]; rfl
    · rw [if_neg h0, if_neg h0]
      refine J _ (fun h2 hk' h3 h4 => ?_) (fun hn => ?_)
      · rw [if_pos hk', if_pos ⟨h3, h4, h2⟩]; exact dn h2
      · by_cases h1 : t[i].f0 = 1 ∨ t[i].f0 = 2
        · rw [if_pos h1, if_neg (by omega)]; rfl
        · rw [if_neg h1]; rfl
theorem sTerm_none {p : Int} {bs : List Int} {t : List S32} (hh : houseB p bs = false) (hbl : bs.length ≤ 1048576) (hb : ∀ z ∈ bs, z < 2 ^ 63) (ht : t.length ≤ 1048576) (d : Nat) : ∀ (k i : Nat) (ps : Int), i ≤ t.length → t.length - i = d → 0 ≤ ps → ps ≤ i → 2 * d + bs.length + 80 ≤ k →
    spec_TermOk.l0 k t ps (i : Int) p bs = some false := by
  induction d with
  | zero =>
    intro k i ps hi hdd _ _ hk
    obtain ⟨k, rfl⟩ : ∃ m, k = m + 1 := ⟨k - 1, by omega⟩
    rw [spec_TermOk.l0, if_neg (by omega), sHouseOk_eq p (by omega) k (by omega), hh, Option.bind_some, if_neg (by simp)]
  | succ d ih =>
    intro k i ps hi hdd p0 p1 hk
    obtain ⟨k, rfl⟩ : ∃ m, k = m + 2 := ⟨k - 2, by omega⟩
    have hlt : i < t.length := by omega
    have up := ih k (i + 1) (ps + 1) (by omega) (by omega) (by omega) (by omega) (by omega)
    have e1 : (((i + 1 : Nat)) : Int) = (i : Int) + 1 := by omega
    rw [e1] at up
    have no := sTerm_j (p := p) (bs := bs) hlt ps p0 (by omega) (by omega) k false (fun h2 _ _ _ => by
      have := ih k (i + 1) (ps - 1) (by omega) (by omega) (by omega) (by omega) (by omega)
      rw [e1] at this; exact this) (fun _ => rfl)
    have J : ∀ b, spec_TermOk.j1 (k + 1) t ps (i : Int) b p bs = some false := by
      intro b
      cases b with
      | false => exact no
      | true => rw [spec_TermOk.j1, if_pos rfl, wr p0 (by omega), wr (by omega) (by omega)]; exact up
    rw [spec_TermOk.l0, if_pos (by omega), if_pos (by omega), rdT_at hlt]
    by_cases h0 : t[i].f0 = 0
    · rw [if_pos h0, l1In_eq, Option.bind_some, w64 (x := (bs.length : Int) - 1) (by omega) (by omega)]
      by_cases a : 0 ≤ t[i].f1 ∧ t[i].f1 ≤ (bs.length : Int) - 1
      · obtain ⟨r, hr⟩ := heads_some 63 (k + 1) (rd bs t[i].f1) 0 (rd_any hb _) (by omega)
        rw [if_pos (decide_eq_true a), if_pos (by omega), if_pos (by omega), show spec_l1Heads.f (k + 1) (rd bs t[i].f1) = some r from hr, Option.bind_some, l1In_eq, Option.bind_some]
        exact J _
      · rw [if_neg (by simpa using a)]; exact J _
    · rw [if_neg h0]; exact J _
theorem sTermOk_eq {p : Int} {bs : List Int} {t : List S32} (hbl : bs.length ≤ 1048576) (hb : ∀ z ∈ bs, z < 2 ^ 63) (ht : t.length ≤ 1048576) (k : Nat) (hk : 2 * t.length + bs.length + 100 ≤ k) : spec_TermOk.f k p bs t = some (termB p bs t) := by
  unfold spec_TermOk.f termB
  by_cases hh : houseB p bs = true
  · have this : spec_TermOk.l0 k t 0 0 p bs = some (tgo bs t 0 && decide ((t.length : Int) ≤ 9)) := sTerm_house hh ht t.length k 0 0 (by omega) (by omega) (by omega) (by omega) (by omega)
    rw [this, hh, Bool.true_and]
    congr 1
    by_cases h : t.length = 0
    · rw [List.eq_nil_of_length_eq_zero h]; rfl
    · rw [Bool.and_comm]
      congr 1
      rw [decide_eq_decide]; omega
  · have hf : houseB p bs = false := by simpa using hh
    rw [hf, Bool.false_and]
    exact sTerm_none hf hbl hb ht t.length k 0 0 (by omega) (by omega) (by omega) (by omega) (by omega)

theorem iCrowdOk_eq (p c : Int) : impl_CrowdOk.f p c = some (okC p c) := by
  unfold impl_CrowdOk.f; rw [isCrowd_eq]; rfl

theorem isBody_eq (p m q : Int) : impl_isBody.f p m q = some (okB p m q) := by
  unfold impl_isBody.f okB
  rw [isCrowd_eq]
  simp only [Option.bind_some]
  by_cases h : okC p m = true
  · have h' := okC_lt h
    rw [if_pos h, h]
    by_cases hq : q ≥ 1
    · rw [if_pos hq, iHeads_eq h'.2.2.1 h'.2.2.2.1]
      simp [show 1 ≤ q from hq]
    · rw [if_neg hq]; congr 1; simp; omega
  · rw [if_neg h]; simp [h]

theorem decides_eq {m c : Int} (q : Int) (h0 : 0 ≤ m) (h1 : m < 64) (h2 : 0 ≤ c) (h3 : c < 64) : impl_decides.f m q c = some (decide (hd (band m c) ≥ q)) := by
  have := band_lt h0 h1 h2 h3
  unfold impl_decides.f
  rw [iHeads_eq this.1 this.2.2.2]; rfl

theorem iDecidesOk_eq (p m q c : Int) : impl_DecidesOk.f p m q c = some (okB p m q && okC p c && decide (hd (band m c) ≥ q)) := by
  unfold impl_DecidesOk.f
  rw [isBody_eq, isCrowd_eq]
  simp only [Option.bind_some]
  by_cases h : okB p m q = true
  · have hb := okB_iff.1 h
    have h' := okC_lt hb.1
    by_cases hc : okC p c = true
    · have h2 := okC_lt hc
      rw [if_pos h, if_pos hc, decides_eq q h'.2.2.1 h'.2.2.2.1 h2.2.2.1 h2.2.2.2.1, h, hc]
      simp
    · rw [if_pos h, if_neg hc]; simp [hc]
  · rw [if_neg h]; simp [h]

theorem iDualBody_eq (p m q : Int) : impl_DualBody.f p m q = some (if okB p m q = true then (m, hd m + 1 - q) else (0, 0)) := by
  unfold impl_DualBody.f
  rw [isBody_eq]
  simp only [Option.bind_some]
  by_cases h : okB p m q = true
  · have hb := okB_iff.1 h
    have h' := okC_lt hb.1
    have hh := hd_le h'.2.2.1 h'.2.2.2.1
    rw [if_pos h, if_pos h, iHeads_eq h'.2.2.1 h'.2.2.2.1]
    simp only [Option.bind_some]
    rw [w64 (x := hd m + 1) (by omega) (by omega), w64 (by omega) (by omega)]
  · rw [if_neg h, if_neg h]

theorem alive_eq : laws_alive.f = some true := by
  unfold laws_alive.f
  rw [iCrowdOk_eq, iCrowdOk_eq]; decide

/-- What a draw gives. -/
theorem pick {l : List Int} (hl : l.length ≤ 2000) (hb : ∀ x ∈ l, 0 ≤ x ∧ x ≤ 255) (p : Int) (hp : 0 ≤ p) (hp' : p ≤ 1000000) (n : Int) :
    ∃ x, (∀ k, 1 ≤ k → spec_l20Rd_pick.f k l p n = some (x, p + 1)) ∧ 0 ≤ x ∧ (1 ≤ n → x < n) := by
  have key : ∃ x, spec_l20Rd_pick.f 1 l p n = some (x, p + 1) ∧ 0 ≤ x ∧ (1 ≤ n → x < n) := by
    have hp1 : wrap64 (p + 1) = p + 1 := w64 (by omega) (by omega)
    have hp2 : wrap64 (p + 1 - 1) = p := by rw [w64 (by omega) (by omega)]; omega
    unfold spec_l20Rd_pick.f
    rw [hp1]
    by_cases hn : n < 1
    · rw [if_pos hn]
      exact ⟨0, by simp [spec_l20Rd_pick.j0], by omega, by omega⟩
    · rw [if_neg hn]
      by_cases h0 : l.length = 0
      · exact ⟨0, by simp [spec_l20Rd_pick.j0, h0], by omega, by omega⟩
      · have hf : ((l.length : Int) == 0) = false := beq_eq_false_iff_ne.mpr (by omega)
        have hrd : ∀ i : Int, 0 ≤ rd l i ∧ rd l i ≤ 255 := by
          intro i
          unfold rd
          by_cases hi : i.toNat < l.length
          · rw [List.getD_eq_getElem?_getD, List.getElem?_eq_getElem hi, Option.getD_some]; exact hb _ (List.getElem_mem hi)
          · rw [List.getD_eq_getElem?_getD, List.getElem?_eq_none (by omega), Option.getD_none]; omega
        have hmod : ∀ x : Int, 0 ≤ x → 0 ≤ Int.tmod x n ∧ Int.tmod x n < n := fun x hx => ⟨Int.tmod_nonneg _ hx, Int.tmod_lt_of_pos _ (by omega)⟩
        simp only [spec_l20Rd_pick.j0, hf, hp2, if_false, Bool.false_eq_true]
        rw [if_pos (show 0 ≤ p from hp)]
        by_cases hlt : p < (l.length : Int)
        · have hr := hrd p
          have hm := hmod (rd l p) hr.1
          refine ⟨Int.tmod (rd l p) n, ?_, hm.1, fun _ => hm.2⟩
          rw [if_pos hlt, if_neg (by omega), w64 (x := rd l p) (by omega) (by omega)]
        · have hL : (0 : Int) < l.length := by omega
          rw [if_neg hlt, if_neg (by omega)]
          have e1 : Int.tmod p l.length = p % l.length := Int.tmod_eq_emod_of_nonneg hp
          have e2 : wrap64 (wrap64 (p * 7) + 3) = p * 7 + 3 := by rw [w64 (x := p * 7) (by omega) (by omega), w64 (by omega) (by omega)]
          have e3 : Int.tmod (p * 7 + 3) l.length = (p * 7 + 3) % l.length := Int.tmod_eq_emod_of_nonneg (by omega)
          have b1 := Int.emod_nonneg p (show (l.length : Int) ≠ 0 by omega)
          have b2 := Int.emod_lt_of_pos p hL
          have b3 := Int.emod_nonneg (p * 7 + 3) (show (l.length : Int) ≠ 0 by omega)
          have b4 := Int.emod_lt_of_pos (p * 7 + 3) hL
          rw [e1, e2, e3, if_pos b1, if_pos b2, if_pos b3, if_pos b4, if_neg (by omega)]
          have r1 := hrd (p % l.length)
          have r2 := hrd ((p * 7 + 3) % l.length)
          have e4 : Int.tdiv p l.length = p / l.length := Int.tdiv_eq_ediv_of_nonneg hp
          have d1 : 0 ≤ p / (l.length : Int) := Int.ediv_nonneg hp (by omega)
          have d2 : p / (l.length : Int) ≤ p := Int.ediv_le_self _ hp
          rw [e4]
          generalize rd l (p % l.length) = a at *
          generalize rd l ((p * 7 + 3) % l.length) = b at *
          generalize p / (l.length : Int) = c at *
          have s : wrap64 (wrap64 (wrap64 (wrap64 (wrap64 a * 131) + wrap64 (wrap64 b * 1117)) + wrap64 (p * 29)) + wrap64 (wrap64 c * 53)) = a * 131 + b * 1117 + p * 29 + c * 53 := by
            rw [w64 (x := a) (by omega) (by omega), w64 (x := b) (by omega) (by omega), w64 (x := c) (by omega) (by omega), w64 (x := a * 131) (by omega) (by omega), w64 (x := b * 1117) (by omega) (by omega),
              w64 (x := a * 131 + b * 1117) (by omega) (by omega), w64 (x := p * 29) (by omega) (by omega), w64 (x := a * 131 + b * 1117 + p * 29) (by omega) (by omega), w64 (x := c * 53) (by omega) (by omega), w64 (by omega) (by omega)]
          rw [s]
          have t0 : 0 ≤ a * 131 + b * 1117 + p * 29 + c * 53 := by omega
          have t1 : a * 131 + b * 1117 + p * 29 + c * 53 < 4611686018427387904 := by omega
          generalize a * 131 + b * 1117 + p * 29 + c * 53 = x at *
          rw [show Int.tdiv x 64 = x / 64 from Int.tdiv_eq_ediv_of_nonneg t0, w64 (x := x / 64) (by omega) (by omega)]
          have hx := bxor_ge (a := x) (b := x / 64) t0 (by omega) t1 (by omega)
          have hm := hmod _ hx.1
          exact ⟨_, rfl, hm.1, fun _ => hm.2⟩
  obtain ⟨x, hx, h0, h1⟩ := key
  exact ⟨x, fun k hk => at_rounds (spec_l20Rd_pick.mono l p n) hk hx, h0, h1⟩

theorem odd_eq {l : List Int} (hl : l.length ≤ 2000) (hb : ∀ x ∈ l, 0 ≤ x ∧ x ≤ 255) (p : Int) (hp : 0 ≤ p) (hp' : p ≤ 900000) (n : Int) (hn : 1 ≤ n) (hn' : n ≤ 1000) :
    ∃ b, (∀ k, 1 ≤ k → spec_l20Rd_odd.f k l p n = some (b, p + 1)) := by
  obtain ⟨A, h1, a0, a1⟩ := pick hl hb p hp (by omega) n
  refine ⟨A == n - 1, fun k hk => ?_⟩
  unfold spec_l20Rd_odd.f
  rw [if_pos (show n > 0 by omega), h1 k hk, Option.bind_some]; dsimp only
  rw [w1s (by omega) (by omega)]

theorem house_loop {l : List Int} (hl : l.length ≤ 2000) (hb : ∀ x ∈ l, 0 ≤ x ∧ x ≤ 255) (n np : Int) (hn : 1 ≤ n) (hn' : n ≤ 1000) (h1 : 1 ≤ np) (h6 : np ≤ 6) (d : Nat) : ∀ (k : Nat) (c p : Int) (bs : List Int), 0 ≤ c → c.toNat = d → 0 ≤ p → p + 10 * c ≤ 800000 → bs.length + d ≤ 10 → d + 3 ≤ k →
    (∀ b ∈ bs, 1 ≤ b ∧ b ≤ full np) →
    ∃ hp hbs p', spec_l20House.l0 k n c l p np bs = some (hp, hbs, p') ∧ 0 ≤ p' ∧ p' ≤ p + c + 20 ∧ hbs.length ≤ bs.length + d + 1 ∧ 0 ≤ hp ∧ hp ≤ 7 ∧ (∀ b ∈ hbs, 0 ≤ b ∧ b ≤ 63) := by
  have hfu := full_le h1 h6
  induction d with
  | zero =>
    intro k c p bs c0 hc p0 hp hbl hk hall
    obtain ⟨k, rfl⟩ : ∃ m, k = m + 1 := ⟨k - 1, by omega⟩
    have hall' : ∀ b ∈ bs, 0 ≤ b ∧ b ≤ 63 := fun b hb' => by have := hall b hb'; omega
    simp only [spec_l20House.l0]
    rw [if_neg (by omega)]
    obtain ⟨b, h4⟩ := odd_eq hl hb p p0 (by omega) n hn hn'
    rw [h4 k (by omega), Option.bind_some]; dsimp only
    cases b with
    | false => rw [if_neg (by simp)]; exact ⟨_, _, _, rfl, by omega, by omega, by omega, by omega, by omega, hall'⟩
    | true =>
      obtain ⟨C, h5, _, _⟩ := pick hl hb (p + 1) (by omega) (by omega) 3
      obtain ⟨D, h6', d0, d1⟩ := pick hl hb (p + 1 + 1) (by omega) (by omega) 2
      replace d1 := d1 (by omega)
      rw [if_pos rfl, h5 k (by omega), Option.bind_some]; dsimp only
      by_cases e0 : C = 0
      · rw [if_pos e0, Option.bind_some, h6' k (by omega), Option.bind_some]; dsimp only
        rw [if_pos d0, if_pos (by simp; omega)]
        have hr : rd [0, 7] D = 0 ∨ rd [0, 7] D = 7 := by
          have : D = 0 ∨ D = 1 := by omega
          rcases this with rfl | rfl
          · left; rfl
          · right; rfl
        exact ⟨_, _, _, rfl, by omega, by omega, by omega, by omega, by omega, hall'⟩
      · rw [if_neg e0]
        by_cases e1 : C = 1
        · rw [if_pos e1, if_pos (by omega)]
          exact ⟨_, _, _, rfl, by omega, by omega, by simp <;> omega, by omega, by omega, fun b hb' => by
            rcases List.mem_append.1 hb' with hb' | hb'
            · exact hall' b hb'
            · have := List.mem_singleton.1 hb'; omega⟩
        · rw [if_neg e1]
          exact ⟨_, _, _, rfl, by omega, by omega, by simp, by omega, by omega, by simp⟩
  | succ d ih =>
    intro k c p bs c0 hc p0 hp hbl hk hall
    obtain ⟨k, rfl⟩ : ∃ m, k = m + 1 := ⟨k - 1, by omega⟩
    simp only [spec_l20House.l0]
    obtain ⟨M, h2, m0, m1⟩ := pick hl hb p (by omega) (by omega) (full np)
    replace m1 := m1 (by omega)
    rw [if_pos (by omega), if_pos (by omega), fullw h1 h6, h2 k (by omega), Option.bind_some]; dsimp only
    rw [if_pos (by omega), w1s (by omega) (by omega), w1 m0 (by omega)]
    obtain ⟨hp', hbs, p', he, q0, q1, q2, q3, q4, q5⟩ := ih k (c - 1) (p + 1) (bs ++ [1 + M]) (by omega) (by omega) (by omega) (by omega) (by simp; omega) (by omega) (fun b hb' => by
      rcases List.mem_append.1 hb' with hb' | hb'
      · exact hall b hb'
      · have := List.mem_singleton.1 hb'; omega)
    exact ⟨hp', hbs, p', he, q0, by omega, by simp at q2; omega, q3, q4, q5⟩
theorem drawHouse {l : List Int} (hl : l.length ≤ 2000) (hb : ∀ x ∈ l, 0 ≤ x ∧ x ≤ 255) (p : Int) (hp : 0 ≤ p) (hp' : p ≤ 700000) (n : Int) (hn : 1 ≤ n) (hn' : n ≤ 1000) :
    ∃ hp hbs p', (∀ k, 10 ≤ k → spec_l20House.f k l p n = some (hp, hbs, p')) ∧ 0 ≤ p' ∧ p' ≤ p + 40 ∧ hbs.length ≤ 10 ∧ 0 ≤ hp ∧ hp ≤ 7 ∧ (∀ b ∈ hbs, 0 ≤ b ∧ b ≤ 63) := by
  suffices h : ∃ hp hbs p', spec_l20House.f 10 l p n = some (hp, hbs, p') ∧ 0 ≤ p' ∧ p' ≤ p + 40 ∧ hbs.length ≤ 10 ∧ 0 ≤ hp ∧ hp ≤ 7 ∧ (∀ b ∈ hbs, 0 ≤ b ∧ b ≤ 63) by
    obtain ⟨hp, hbs, p', h, r⟩ := h
    exact ⟨hp, hbs, p', fun k hk => at_rounds (spec_l20House.mono l p n) hk h, r⟩
  obtain ⟨A, h1, a0, a1⟩ := pick hl hb p (by omega) (by omega) 5
  replace a1 := a1 (by omega)
  obtain ⟨B, h2, b0, b1⟩ := pick hl hb (p + 1) (by omega) (by omega) 9
  replace b1 := b1 (by omega)
  obtain ⟨C, h3, c0, c1⟩ := pick hl hb (p + 1 + 1) (by omega) (by omega) 3
  replace c1 := c1 (by omega)
  unfold spec_l20House.f
  rw [h1 10 (by omega), Option.bind_some]; dsimp only
  rw [h2 10 (by omega), Option.bind_some]; dsimp only
  rw [h3 10 (by omega), Option.bind_some]; dsimp only
  have e : wrap64 (wrap64 (1 + A) + wrap64 (Int.tdiv B 8)) = 1 + A + B / 8 := by
    rw [Int.tdiv_eq_ediv_of_nonneg b0, w1 a0 (by omega), w64 (x := B / 8) (by omega) (by omega), w64 (by omega) (by omega)]
  rw [e, w1 c0 (by omega)]
  clear e
  obtain ⟨q1, q2, q3, he, r0, r1, r2, r3, r4, r5⟩ := house_loop hl hb n (1 + A + B / 8) hn hn' (by omega) (by omega) (1 + C).toNat 10 (1 + C) (p + 1 + 1 + 1) [] (by omega) rfl (by omega) (by omega) (by simp; omega) (by omega) (by simp)
  exact ⟨q1, q2, q3, he, by omega, by omega, by simp at r2; omega, r3, r4, r5⟩

def tot : List (List S32) → Nat
  | [] => 0
  | a :: l => a.length + tot l
theorem tot_append : ∀ a b : List (List S32), tot (a ++ b) = tot a + tot b
  | [], b => by simp [tot]
  | x :: a, b => by simp only [List.cons_append, tot, tot_append a b]; omega
theorem tot_mem : ∀ {l : List (List S32)} {i : Nat} (h : i < l.length), (l[i]).length ≤ tot l
  | x :: l, 0, _ => by simp only [List.getElem_cons_zero, tot]; omega
  | x :: l, i + 1, h => by
    have := tot_mem (l := l) (i := i) (by simpa using h)
    simp only [List.getElem_cons_succ, tot]; omega
theorem rdL_get {l : List (List S32)} {i : Nat} (h : i < l.length) : rd_L3 l (i : Int) = l[i] := by
  unfold rd_L3; rw [Int.toNat_natCast, List.getD_eq_getElem?_getD, List.getElem?_eq_getElem h, Option.getD_some]
theorem tot_join {l : List (List S32)} {i : Nat} (h : i + 1 < l.length) (m : S32) : tot (l.take i ++ [l[i] ++ l[i + 1] ++ [m]] ++ l.drop (i + 2)) = tot l + 1 := by
  have e : l = l.take i ++ (l[i] :: l[i + 1] :: l.drop (i + 2)) := by
    rw [← List.drop_eq_getElem_cons h, ← List.drop_eq_getElem_cons (show i < l.length by omega), List.take_append_drop]
  have e2 := congrArg tot e
  rw [tot_append] at e2
  simp only [tot] at e2
  simp only [tot_append, tot, List.length_append, List.length_singleton]
  omega
theorem term_l1 {l : List Int} (hl : l.length ≤ 2000) (hb : ∀ x ∈ l, 0 ≤ x ∧ x ≤ 255) (d : Nat) : ∀ (k : Nat) (ps : List (List S32)) (p : Int), ps.length = d + 1 → tot ps + ps.length ≤ 10 → 0 ≤ p → p + 10 * d ≤ 800000 → d + 2 ≤ k →
    ∃ t p', spec_l20Term.l1 k ps l p = some (t, p') ∧ t.length ≤ 10 ∧ 0 ≤ p' ∧ p' ≤ p + 10 * d := by
  induction d with
  | zero =>
    intro k ps p hp ht p0 p1 hk
    obtain ⟨k, rfl⟩ : ∃ m, k = m + 1 := ⟨k - 1, by omega⟩
    have h0 : 0 < ps.length := by omega
    have := tot_mem h0
    rw [spec_l20Term.l1, if_neg (by omega), if_pos (by omega), show rd_L3 ps 0 = ps[0] from rdL_get h0]
    exact ⟨_, _, rfl, by omega, by omega, by omega⟩
  | succ d ih =>
    intro k ps p hp ht p0 p1 hk
    obtain ⟨k, rfl⟩ : ∃ m, k = m + 1 := ⟨k - 1, by omega⟩
    obtain ⟨A, h1, a0, a1⟩ := pick hl hb p (by omega) (by omega) ((ps.length : Int) - 1)
    obtain ⟨B, h2, b0, b1⟩ := pick hl hb (p + 1) (by omega) (by omega) 2
    replace a1 := a1 (by omega)
    obtain ⟨n, rfl⟩ := Int.eq_ofNat_of_zero_le a0
    have hn : n + 1 < ps.length := by omega
    have m1 := tot_mem (show n < ps.length by omega)
    have m2 := tot_mem hn
    have e1 : rd_L3 ps (n : Int) = ps[n] := rdL_get (by omega)
    have e2 : rd_L3 ps ((n : Int) + 1) = ps[n + 1] := by rw [show (n : Int) + 1 = ((n + 1 : Nat) : Int) from by omega]; exact rdL_get hn
    have l1 : (ps.take n).length ≤ 10 := by have := List.length_take_le n ps; have := List.length_take_le' n ps; omega
    rw [spec_l20Term.l1, if_pos (by omega), w1s (by omega) (by omega), h1 k (by omega), Option.bind_some]; dsimp only
    rw [Option.bind_some, if_pos (by omega), if_pos (by omega), e1, if_pos (by rw [List.length_nil]; omega), Option.bind_some, List.nil_append, wr (by omega) (by omega), if_pos (by omega), if_pos (by omega), e2, if_pos (by omega), Option.bind_some, h2 k (by omega), Option.bind_some]; dsimp only
    rw [if_pos (by rw [List.length_append]; omega), Option.bind_some, if_pos (by omega), Option.bind_some, Int.toNat_natCast, if_pos (by rw [List.length_nil]; omega), Option.bind_some, List.nil_append, if_pos (by omega), Option.bind_some,
      show wrap64 ((n : Int) + 2) = (n : Int) + 2 from w64 (by omega) (by omega), if_pos (by omega), if_pos (by omega), Option.bind_some, show ((n : Int) + 2).toNat = n + 2 from by omega,
      if_pos (by simp only [List.length_append, List.length_singleton, List.length_drop]; omega)]
    have tj := tot_join hn (⟨wrap64 (1 + B), 0, 0⟩ : S32)
    have ll : (ps.take n ++ [ps[n] ++ ps[n + 1] ++ [(⟨wrap64 (1 + B), 0, 0⟩ : S32)]] ++ ps.drop (n + 2)).length = d + 1 := by
      simp only [List.length_append, List.length_take, List.length_singleton, List.length_drop]; omega
    obtain ⟨t, p', he, q0, q1, q2⟩ := ih k _ (p + 1 + 1) ll (by omega) (by omega) (by omega) (by omega)
    exact ⟨t, p', he, q0, q1, by omega⟩
theorem term_l0 {l bs : List Int} (hl : l.length ≤ 2000) (hb : ∀ x ∈ l, 0 ≤ x ∧ x ≤ 255) (h1 : 1 ≤ bs.length) (h10 : bs.length ≤ 20) (hbs : ∀ b ∈ bs, 0 ≤ b ∧ b ≤ 63) (np : Int) (d : Nat) : ∀ (k : Nat) (c : Int) (ps : List (List S32)) (p : Int), 0 ≤ c → c.toNat = d → tot ps + ps.length + 2 * d ≤ 8 → 1 ≤ ps.length + d → 0 ≤ p → p ≤ 700000 → d + 20 ≤ k →
    ∃ t p', spec_l20Term.l0 k ps c l p np bs = some (t, p') ∧ t.length ≤ 10 ∧ 0 ≤ p' ∧ p' ≤ p + 200 := by
  suffices h : ∀ (k : Nat) (c : Int) (ps : List (List S32)) (p : Int), 0 ≤ c → c.toNat = d → tot ps + ps.length + 2 * d ≤ 8 → 1 ≤ ps.length + d → 0 ≤ p → p ≤ 700000 + 10 * (10 - d) → d + 20 ≤ k →
      ∃ t p', spec_l20Term.l0 k ps c l p np bs = some (t, p') ∧ t.length ≤ 10 ∧ 0 ≤ p' ∧ p' ≤ p + 100 + 10 * d by
    intro k c ps p c0 hc ht hp p0 p1 hk
    obtain ⟨t, p', he, q0, q1, q2⟩ := h k c ps p c0 hc ht hp p0 (by omega) hk
    exact ⟨t, p', he, q0, q1, by omega⟩
  induction d with
  | zero =>
    intro k c ps p c0 hc ht hp p0 p1 hk
    obtain ⟨k, rfl⟩ : ∃ m, k = m + 1 := ⟨k - 1, by omega⟩
    rw [spec_l20Term.l0, if_neg (by omega)]
    obtain ⟨t, p', he, q0, q1, q2⟩ := term_l1 hl hb (ps.length - 1) k ps p (by omega) (by omega) p0 (by omega) (by omega)
    exact ⟨t, p', he, q0, q1, by omega⟩
  | succ d ih =>
    intro k c ps p c0 hc ht hp p0 p1 hk
    obtain ⟨k, rfl⟩ : ∃ m, k = m + 1 := ⟨k - 1, by omega⟩
    obtain ⟨A, g1, a0, a1⟩ := pick hl hb p (by omega) (by omega) (bs.length : Int)
    replace a1 := a1 (by omega)
    have hm := hbs _ (Tr.rd_mem a0 a1)
    have e : mx (rd bs A) 0 = rd bs A := by unfold mx; rw [if_neg (by omega)]
    obtain ⟨B, g2, b0, b1⟩ := pick hl hb (p + 1) (by omega) (by omega) (mx (hd (rd bs A)) 1)
    rw [spec_l20Term.l0, if_pos (by omega), g1 k (by omega), Option.bind_some]; dsimp only
    rw [if_pos a0, if_pos a1, e, sHeads_eq k (by omega) hm.1 (by omega), Option.bind_some, g2 k (by omega), Option.bind_some]; dsimp only
    rw [if_pos (by omega), w1s (by omega) (by omega)]
    obtain ⟨t, p', he, q0, q1, q2⟩ := ih k (c - 1) (ps ++ [[⟨0, A, wrap64 (1 + B)⟩]]) (p + 1 + 1) (by omega) (by omega) (by rw [tot_append, List.length_append]; simp only [tot, List.length_singleton]; omega) (by rw [List.length_append, List.length_singleton]; omega) (by omega) (by omega) (by omega)
    exact ⟨t, p', he, q0, q1, by omega⟩
theorem term_j0 {l bs : List Int} (hl : l.length ≤ 2000) (hb : ∀ x ∈ l, 0 ≤ x ∧ x ≤ 255) (h10 : bs.length ≤ 20) (hbs : ∀ b ∈ bs, 0 ≤ b ∧ b ≤ 63) (np : Int) (b : Bool) (hz : b = false → 1 ≤ bs.length) (k : Nat) (p : Int) (p0 : 0 ≤ p) (p1 : p ≤ 600000) (hk : 30 ≤ k) :
    ∃ t p', spec_l20Term.j0 k b l p np bs = some (t, p') ∧ t.length ≤ 10 ∧ 0 ≤ p' ∧ p' ≤ p + 300 := by
  obtain ⟨k, rfl⟩ : ∃ m, k = m + 1 := ⟨k - 1, by omega⟩
  obtain ⟨A, g1, a0, a1⟩ := pick hl hb p (by omega) (by omega) 4
  replace a1 := a1 (by omega)
  rw [spec_l20Term.j0]
  cases b with
  | true =>
    rw [if_pos rfl, Option.bind_some, g1 k (by omega), Option.bind_some]; dsimp only
    rw [if_pos a0, if_pos (by simp; omega)]
    refine ⟨_, _, rfl, ?_, by omega, by omega⟩
    have : A = 0 ∨ A = 1 ∨ A = 2 ∨ A = 3 := by omega
    rcases this with rfl | rfl | rfl | rfl <;> decide
  | false =>
    have := hz rfl
    rw [if_neg (by simp), g1 k (by omega), Option.bind_some]; dsimp only
    rw [w1 a0 (by omega)]
    obtain ⟨t, p', he, q0, q1, q2⟩ := term_l0 hl hb this h10 hbs np (1 + A).toNat k (1 + A) [] (p + 1) (by omega) rfl (by simp only [tot, List.length_nil]; omega) (by omega) (by omega) (by omega) (by omega)
    exact ⟨t, p', he, q0, q1, by omega⟩
theorem drawTerm {l bs : List Int} (hl : l.length ≤ 2000) (hb : ∀ x ∈ l, 0 ≤ x ∧ x ≤ 255) (h10 : bs.length ≤ 20) (hbs : ∀ b ∈ bs, 0 ≤ b ∧ b ≤ 63) (np : Int) (p : Int) (p0 : 0 ≤ p) (p1 : p ≤ 500000) (n : Int) (hn : 1 ≤ n) (hn' : n ≤ 1000) :
    ∃ t p', (∀ k, 40 ≤ k → spec_l20Term.f k l p np bs n = some (t, p')) ∧ t.length ≤ 10 ∧ 0 ≤ p' ∧ p' ≤ p + 400 := by
  suffices h : ∃ t p', spec_l20Term.f 40 l p np bs n = some (t, p') ∧ t.length ≤ 10 ∧ 0 ≤ p' ∧ p' ≤ p + 400 by
    obtain ⟨t, p', h, r⟩ := h
    exact ⟨t, p', fun k hk => at_rounds (spec_l20Term.mono l p np bs n) hk h, r⟩
  unfold spec_l20Term.f
  by_cases h0 : (bs.length : Int) = 0
  · rw [if_pos h0]
    obtain ⟨t, p', he, q0, q1, q2⟩ := term_j0 hl hb h10 hbs np true (by simp) 40 p p0 (by omega) (by omega)
    exact ⟨t, p', he, q0, q1, by omega⟩
  · rw [if_neg h0]
    obtain ⟨b, h4⟩ := odd_eq hl hb p p0 (by omega) n hn hn'
    rw [h4 40 (by omega), Option.bind_some]; dsimp only
    obtain ⟨t, p', he, q0, q1, q2⟩ := term_j0 hl hb h10 hbs np b (fun _ => by omega) 40 (p + 1) (by omega) (by omega) (by omega)
    exact ⟨t, p', he, q0, q1, by omega⟩

theorem drawTermed {l : List Int} (hl : l.length ≤ 2000) (hb : ∀ x ∈ l, 0 ≤ x ∧ x ≤ 255) (p : Int) (p0 : 0 ≤ p) (p1 : p ≤ 400000) (n : Int) (hn : 1 ≤ n) (hn' : n ≤ 1000) :
    ∃ hp bs t p', (∀ k, 40 ≤ k → spec_l20Termed.f k l p n = some (hp, bs, t, p')) ∧ bs.length ≤ 10 ∧ t.length ≤ 10 ∧ (∀ z ∈ bs, z < 2 ^ 63) ∧ 0 ≤ hp ∧ hp ≤ 7 ∧ 0 ≤ p' ∧ p' ≤ p + 500 ∧ (∀ b ∈ bs, 0 ≤ b ∧ b ≤ 63) := by
  obtain ⟨hp, bs, p', h1, a0, a1, a2, a3, a4, a5⟩ := drawHouse hl hb p p0 (by omega) 20 (by omega) (by omega)
  obtain ⟨t, q', h2, b0, b1, b2⟩ := drawTerm hl hb (bs := bs) (by omega) a5 hp p' a0 (by omega) n hn hn'
  refine ⟨hp, bs, t, q', fun k hk => ?_, a2, b0, fun z hz => ?_, a3, a4, b1, by omega, a5⟩
  · unfold spec_l20Termed.f
    rw [h1 k (by omega), Option.bind_some]; dsimp only
    rw [h2 k hk, Option.bind_some]
  · have := a5 z hz
    exact Int.lt_of_le_of_lt this.2 (by decide)

/-- The bytes of a draw: at most 2000. -/
theorem open_eq (l : List Int) : spec_l20Open.f l = some (l.take 2000, 0) := by
  unfold spec_l20Open.f
  by_cases h : (l.length : Int) > 2000
  · rw [if_pos h, if_pos (by omega)]
  · rw [if_neg h, List.take_of_length_le (by omega)]
theorem open_len (l : List Int) : (l.take 2000).length ≤ 2000 := by simp; omega
theorem open_wf {l : List Int} (h : ∀ x ∈ l, (Lit.int .u8 x).wf = true) : ∀ x ∈ l.take 2000, 0 ≤ x ∧ x ≤ 255 := fun x hx => wf_u8 (h x (List.mem_of_mem_take hx))

theorem drawConsent {l : List Int} (h : ∀ x ∈ l, (Lit.int .u8 x).wf = true) : ∃ p bs t c, (∀ k, 40 ≤ k → spec_DrawConsentOk.f k l = some (p, bs, t, c)) ∧ bs.length ≤ 10 ∧ t.length ≤ 10 ∧ (∀ z ∈ bs, z < 2 ^ 63) := by
  obtain ⟨p, bs, t, p', hdr, hb, ht, hbs, _, _, q0, q1, _⟩ := drawTermed (open_len l) (open_wf h) 0 (by omega) (by omega) 14 (by omega) (by omega)
  obtain ⟨A, h1, _⟩ := pick (open_len l) (open_wf h) p' q0 (by omega) (wrap64 (2 ^ (mn (mx p 1) 6).toNat))
  obtain ⟨B, h2, _⟩ := pick (open_len l) (open_wf h) (p' + 1) (by omega) (by omega) 40
  refine ⟨p, bs, t, wrap64 (A + wrap64 (wrap64 (Int.tdiv B 39) * 64)), fun k hk => ?_, hb, ht, hbs⟩
  unfold spec_DrawConsentOk.f
  rw [open_eq, Option.bind_some]; dsimp only
  rw [hdr k hk, Option.bind_some]; dsimp only
  rw [h1 k (by omega), Option.bind_some]; dsimp only
  rw [h2 k (by omega), Option.bind_some]

theorem first {bs : List Int} : ∀ x : Tr, x.good bs → ∃ a n post, flat x = ⟨0, a, n⟩ :: post ∧ (Tr.atom a n).good bs
  | .atom a n, h => ⟨a, n, [], rfl, h⟩
  | .node o l r, h => by
    obtain ⟨a, n, post, e, hg⟩ := first l h.1
    exact ⟨a, n, post ++ flat r ++ [⟨if o = true then 2 else 1, 0, 0⟩], by simp only [flat, e, List.cons_append], hg⟩
theorem no {p c : Int} {bs : List Int} {t : List S32} (hb : bs.length ≤ 10) (ht : t.length ≤ 10) (h : ¬ termB p bs t = true ∨ ¬ okC p c = true) (k : Nat) (hk : 100 ≤ k) : laws_FnAtomBody.j0 (k + 1) t c true p bs = some true := by
  rw [laws_FnAtomBody.j0, if_pos rfl, iTermOk_eq (by omega) (by omega) k (by omega), Option.bind_some]
  by_cases hT : termB p bs t = true
  · have hc : ¬ okC p c = true := h.resolve_left (fun h => h hT)
    rw [if_pos hT, iCrowdOk_eq, Option.bind_some]; simp [hc]
  · rw [if_neg hT]
theorem yes {p c : Int} {bs : List Int} {x : Tr} (hh : houseB p bs = true) (hx : x.good bs) (hc : okC p c = true) (k : Nat) (hk : 100 ≤ k) : laws_FnAtomBody.j0 (k + 1) (flat x) c false p bs = some true := by
  have hb := (houseB_iff.1 hh).2.2
  obtain ⟨a, n, post, e, hg⟩ := first x hx
  obtain ⟨g0, g1, g2, g3⟩ := hg
  have hg : (Tr.atom a n).good bs := ⟨g0, g1, g2, g3⟩
  have hT : termB p bs [(⟨0, a, n⟩ : S32)] = true := tree_term (x := .atom a n) hh hg (by simp [Tr.len])
  have hbody := Tr.body_ok hh g0 g1
  have hB : okB p (rd bs a) n = true := okB_iff.2 ⟨hbody, g2, g3⟩
  have hD : dualB p bs [(⟨0, a, n⟩ : S32)] = [⟨0, a, hd (rd bs a) + 1 - n⟩] := dualB_flat (x := .atom a n) hT
  have hC : conB p bs [(⟨0, a, n⟩ : S32)] c = decide (hd (band (rd bs a) c) ≥ n) := conB_flat (x := .atom a n) hT hc hg
  have r0 : rd_T32 (flat x) 0 = ⟨0, a, n⟩ := by rw [e]; rfl
  have l0 : (0 : Int) < ((flat x).length : Int) := by rw [e, List.length_cons]; omega
  rw [laws_FnAtomBody.j0, if_neg (by simp), if_pos l0, r0, Option.bind_some]; dsimp only
  rw [if_pos g0, if_pos g1, iDualTerm_eq (by omega) (by simp) k (by omega), Option.bind_some, alive_eq, Option.bind_some, if_pos rfl, iConsentOk_eq (by omega) (by simp) k (by omega), Option.bind_some, iDecidesOk_eq, Option.bind_some, hC, hB, hc, if_pos (by simp), hD, if_pos (by simp), if_pos (by simp), iDualBody_eq, if_pos hB, Option.bind_some]
  have r1 : rd_T32 [(⟨0, a, hd (rd bs a) + 1 - n⟩ : S32)] 0 = ⟨0, a, hd (rd bs a) + 1 - n⟩ := rfl
  rw [r1]; simp
theorem main : laws_FnAtomBody.Pure := by
  intro l _ _ h
  refine ⟨399 + 1, ?_⟩
  unfold laws_FnAtomBody.f
  by_cases hl : (l.length : Int) > 1048576
  · rw [if_pos hl]
  rw [if_neg hl]
  obtain ⟨p, bs, t, c, hdr, hb, ht, hbs⟩ := drawConsent h
  rw [hdr _ (by omega), Option.bind_some]; dsimp only
  rw [sTermOk_eq (by omega) hbs (by omega) _ (by omega), Option.bind_some]
  by_cases hT : termB p bs t = true
  · rw [if_pos hT, sCrowdOk_eq, Option.bind_some]
    by_cases hc : okC p c = true
    · obtain ⟨hh, h9, x, hx, rfl⟩ := term_tree hT
      rw [hc]; exact yes hh hx hc 399 (by omega)
    · rw [show (!okC p c) = true from by simp [hc]]; exact no hb ht (.inr hc) 399 (by omega)
  · rw [if_neg hT]; exact no hb ht (.inl hT) 399 (by omega)

end Go.Proofs.Ytfadpbgidocimaa.Pure.fnAtomBody
namespace Go.Proofs.Ytfadpbgidocimaa.Pure
open Go.Proofs.Ytfadpbgidocimaa.PFnAtomBody
theorem FnAtomBody : laws_FnAtomBody.Pure := fnAtomBody.main
end Go.Proofs.Ytfadpbgidocimaa.Pure
