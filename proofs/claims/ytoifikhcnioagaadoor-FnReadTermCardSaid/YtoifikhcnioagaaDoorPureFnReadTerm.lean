/- What is read is canonical, the reference reads the same, and in brackets a text is refused, for every drawn input. No condition. -/
import Derived.Test.YtoifikhcnioagaaDoorPFnReadTermx14
import Derived.Test.YtoifikhcnioagaaDoorBase
import Derived.Test.YtoifikhcnioagaaDoorBaseHouse
import Derived.Test.YtoifikhcnioagaaDoorBaseTerm
set_option linter.unusedVariables false
set_option linter.unusedSimpArgs false
namespace Go.Proofs.YtoifikhcnioagaaDoor.Pure.fnReadTerm
open Go.RowKit Go.Proofs.YtoifikhcnioagaaDoor.PFnReadTerm Go.Proofs.YtoifikhcnioagaaDoorW.PrintWords Go.Proofs.YtoifikhcnioagaaDoorW.PrintLast Go.Proofs.YtoifikhcnioagaaDoorW.PrintMore Go.Proofs.YtoifikhcnioagaaDoor.Base

theorem rdT_at {l : List S54} {i : Nat} (h : i < l.length) : rd_T54 l (i : Int) = l[i] := by
  unfold rd_T54; rw [Int.toNat_natCast, List.getD_eq_getElem?_getD, List.getElem?_eq_getElem h, Option.getD_some]
def flat : Tr → List S54
  | .atom a n => [⟨0, a, n⟩]
  | .node o l r => flat l ++ flat r ++ [⟨if o = true then 2 else 1, 0, 0⟩]
theorem flat_len : ∀ t : Tr, (flat t).length = t.len
  | .atom _ _ => rfl
  | .node _ l r => by simp only [flat, Tr.len, List.length_append, flat_len l, flat_len r, List.length_singleton]
/-- What a row of marks does to the number of parts; at the end one is to be left. -/
def tgo (bs : List Int) : List S54 → Int → Bool
  | [], p => p == 1
  | m :: t, p =>
    if m.f0 = 0 then (if 0 ≤ m.f1 ∧ m.f1 < bs.length ∧ 1 ≤ m.f2 ∧ m.f2 ≤ hd (rd bs m.f1) then tgo bs t (p + 1) else false)
    else if m.f0 = 1 ∨ m.f0 = 2 then (if m.f1 = 0 ∧ m.f2 = 0 ∧ 2 ≤ p then tgo bs t (p - 1) else false)
    else false
def termB (p : Int) (bs : List Int) (t : List S54) : Bool := houseB p bs && (decide (1 ≤ t.length ∧ t.length ≤ 9) && tgo bs t 0)
def flats : List Tr → List S54
  | [] => []
  | t :: ts => flat t ++ flats ts
theorem flats_append : ∀ a b : List Tr, flats (a ++ b) = flats a ++ flats b
  | [], b => rfl
  | t :: a, b => by simp only [List.cons_append, flats, flats_append a b, List.append_assoc]
theorem two_last {l : List Tr} (h : 2 ≤ l.length) : ∃ s a b, l = s ++ [a, b] := by
  obtain ⟨b, hb⟩ : ∃ b, b = l.length - 2 := ⟨_, rfl⟩
  refine ⟨l.take b, l[b]'(by omega), l[b + 1]'(by omega), ?_⟩
  have e : l.drop b = [l[b]'(by omega), l[b + 1]'(by omega)] := by
    rw [List.drop_eq_getElem_cons (by omega), List.drop_eq_getElem_cons (by omega), List.drop_of_length_le (by omega)]
  rw [← e, List.take_append_drop]
/-- A row of marks that leaves one part is a tree, written down. -/
theorem parse {bs : List Int} : ∀ (t : List S54) (st : List Tr), (∀ x ∈ st, x.good bs) → tgo bs t (st.length : Int) = true → ∃ x : Tr, x.good bs ∧ flat x = flats st ++ t
  | [], st, hg, h => by
    simp only [tgo, beq_iff_eq] at h
    match st, h with
    | [x], _ => exact ⟨x, hg x (by simp), by simp [flats]⟩
  | m :: t, st, hg, h => by
    simp only [tgo] at h
    by_cases h0 : m.f0 = 0
    · rw [if_pos h0] at h
      by_cases hc : 0 ≤ m.f1 ∧ m.f1 < bs.length ∧ 1 ≤ m.f2 ∧ m.f2 ≤ hd (rd bs m.f1)
      · rw [if_pos hc] at h
        obtain ⟨x, hx, e⟩ := parse t (st ++ [.atom m.f1 m.f2]) (fun x hx => by
          rcases List.mem_append.1 hx with hx | hx
          · exact hg x hx
          · rw [List.mem_singleton.1 hx]; exact hc) (by rw [List.length_append]; simpa using h)
        refine ⟨x, hx, ?_⟩
        rw [e, flats_append, List.append_assoc]
        congr 1
        simp only [flats, flat, List.append_nil, List.singleton_append]
        congr 1
        rw [← h0]
      · rw [if_neg hc] at h; exact absurd h (by simp)
    · rw [if_neg h0] at h
      by_cases h1 : m.f0 = 1 ∨ m.f0 = 2
      · rw [if_pos h1] at h
        by_cases hc : m.f1 = 0 ∧ m.f2 = 0 ∧ 2 ≤ (st.length : Int)
        · rw [if_pos hc] at h
          obtain ⟨s, a, b, rfl⟩ := two_last (l := st) (by omega)
          obtain ⟨x, hx, e⟩ := parse t (s ++ [.node (decide (m.f0 = 2)) a b]) (fun x hx => by
            rcases List.mem_append.1 hx with hx | hx
            · exact hg x (by simp [hx])
            · rw [List.mem_singleton.1 hx]; exact ⟨hg a (by simp), hg b (by simp)⟩) (by
              have : (((s ++ [a, b]).length : Nat) : Int) - 1 = (((s ++ [Tr.node (decide (m.f0 = 2)) a b]).length : Nat) : Int) := by simp; omega
              rw [← this]; exact h)
          refine ⟨x, hx, ?_⟩
          rw [e, flats_append, flats_append, List.append_assoc, List.append_assoc]
          congr 1
          simp only [flats, flat, List.append_nil, List.append_assoc, List.singleton_append]
          congr 3
          obtain ⟨m0, m1, m2⟩ := m
          simp only at h1 hc
          obtain ⟨rfl, rfl, _⟩ := hc
          rcases h1 with rfl | rfl <;> rfl
        · rw [if_neg hc] at h; exact absurd h (by simp)
      · rw [if_neg h1] at h; exact absurd h (by simp)
theorem term_tree {p : Int} {bs : List Int} {t : List S54} (h : termB p bs t = true) : houseB p bs = true ∧ t.length ≤ 9 ∧ ∃ x : Tr, x.good bs ∧ flat x = t := by
  simp only [termB, Bool.and_eq_true, decide_eq_true_eq] at h
  obtain ⟨x, hx, e⟩ := parse t [] (by simp) (by simpa using h.2.2)
  exact ⟨h.1, h.2.1.2, x, hx, by simpa [flats] using e⟩
theorem arePeople_eq (p : Int) : impl_arePeople.f p = some (decide (1 ≤ p ∧ p ≤ 6)) := by
  unfold impl_arePeople.f
  by_cases h : p ≥ 1
  · rw [if_pos h]; congr 1; simp [show 1 ≤ p from h]
  · rw [if_neg h]; congr 1; simp; omega
theorem isCrowd_eq (p c : Int) : impl_isCrowd.f p c = some (okC p c) := by
  unfold impl_isCrowd.f
  rw [arePeople_eq]
  simp only [Option.bind_some]
  by_cases h : 1 ≤ p ∧ p ≤ 6
  · rw [if_pos (by simpa using h)]
    by_cases h0 : c ≥ 0
    · rw [if_pos h0, if_pos (by omega), shl1 (by omega) h.2]
      congr 1
      rw [Bool.eq_iff_iff, okC_iff]; simp; omega
    · rw [if_neg h0]; congr 1
      symm; rw [Bool.eq_false_iff]; intro hc; rw [okC_iff] at hc; omega
  · rw [if_neg (by simpa using h)]; congr 1
    symm; rw [Bool.eq_false_iff]; intro hc; rw [okC_iff] at hc; omega

theorem isHouse_loop {p : Int} {bs : List Int} (hm : bs.length ≤ 1048576) (d : Nat) : ∀ (k i : Nat), i ≤ bs.length → bs.length - i = d → d < k →
    impl_isHouse.l0 k bs (bs.length : Int) (i : Int) p bs = some ((bs.drop i).all (goodB p) && (decide (1 ≤ p ∧ p ≤ 6) && decide ((bs.length : Int) ≤ 4))) := by
  induction d with
  | zero =>
    intro k i hi hd hk
    obtain ⟨k, rfl⟩ : ∃ m, k = m + 1 := ⟨k - 1, by omega⟩
    simp only [impl_isHouse.l0]
    rw [if_neg (by omega), List.drop_of_length_le (by omega), arePeople_eq, Option.bind_some]
    by_cases h : 1 ≤ p ∧ p ≤ 6
    · rw [if_pos (by simpa using h)]; simp [h]
    · rw [if_neg (by simpa using h)]; simp [h]
  | succ d ih =>
    intro k i hi hd hk
    obtain ⟨k, rfl⟩ : ∃ m, k = m + 1 := ⟨k - 1, by omega⟩
    simp only [impl_isHouse.l0]
    have hlt : i < bs.length := by omega
    rw [if_pos (by omega), if_pos (by omega), if_pos (by omega), rd_at hlt, isCrowd_eq, Option.bind_some, all_drop hlt]
    by_cases hg : okC p bs[i] = true
    · rw [if_pos hg]
      by_cases hz : bs[i] = 0
      · rw [if_pos hz]; simp [goodB, hz]
      · rw [if_neg hz, wr (by omega) (by omega)]
        rw [show goodB p bs[i] = true from by simp [goodB, hg, hz], Bool.true_and]
        exact ih k (i + 1) (by omega) (by omega) (by omega)
    · rw [if_neg hg]; simp [goodB, hg]
theorem isHouse_eq {bs : List Int} (p : Int) (hm : bs.length ≤ 1048576) (k : Nat) (hk : bs.length < k) : impl_isHouse.f k p bs = some (houseB p bs) := by
  unfold impl_isHouse.f houseB
  exact isHouse_loop hm bs.length k 0 (by omega) (by omega) hk

theorem heads_all : ∀ c : Fin 64, impl_headsOf.f c.val = some (hd c.val) := by decide +kernel
theorem iHeads_eq {c : Int} (h0 : 0 ≤ c) (h1 : c < 64) : impl_headsOf.f c = some (hd c) := all64 (P := fun c => impl_headsOf.f c = some (hd c)) heads_all c h0 h1

theorem isTerm_loop {p : Int} {bs : List Int} {t : List S54} (hh : houseB p bs = true) (ht : t.length ≤ 9) (d : Nat) : ∀ (k i : Nat) (ps : Int), i ≤ t.length → t.length - i = d → 0 ≤ ps → ps ≤ 100 + i → 2 * d + 1 ≤ k →
    impl_isTerm.l0 k ps t (t.length : Int) (i : Int) p bs = some (tgo bs (t.drop i) ps) := by
  have hl := (houseB_iff.1 hh).2.2
  induction d with
  | zero =>
    intro k i ps hi hdd _ _ hk
    obtain ⟨k, rfl⟩ : ∃ m, k = m + 1 := ⟨k - 1, by omega⟩
    rw [impl_isTerm.l0, if_neg (by omega), List.drop_of_length_le (by omega)]
    rfl
  | succ d ih =>
    intro k i ps hi hdd p0 p1 hk
    obtain ⟨k, rfl⟩ : ∃ m, k = m + 2 := ⟨k - 2, by omega⟩
    have hlt : i < t.length := by omega
    have up := ih (k + 1) (i + 1) (ps + 1) (by omega) (by omega) (by omega) (by omega) (by omega)
    have e1 : (((i + 1 : Nat)) : Int) = (i : Int) + 1 := by omega
    rw [e1] at up
    rw [impl_isTerm.l0, if_pos (by omega), if_pos (by omega), if_pos (by omega), rdT_at hlt, List.drop_eq_getElem_cons hlt, tgo]
    generalize t[i] = m
    by_cases h0 : m.f0 = 0
    · rw [if_pos h0, if_pos h0]
      by_cases a : m.f1 < 0
      · rw [if_pos a, if_neg (by omega)]
      · rw [if_neg a]
        by_cases b : m.f1 ≥ bs.length
        · rw [if_pos b, if_neg (by omega)]
        · rw [if_neg b]
          by_cases c : m.f2 < 1
          · rw [if_pos c, if_neg (by omega)]
          · obtain ⟨_, _, c0, c64, _⟩ := okC_lt (Tr.body_ok hh (a := m.f1) (by omega) (by omega))
            rw [if_neg c, if_pos (by omega), if_pos (by omega), iHeads_eq c0 c64, Option.bind_some]
            by_cases e : m.f2 > hd (rd bs m.f1)
            · rw [if_pos e, if_neg (by omega)]
            · rw [if_neg e, if_pos (by omega), wr p0 (by omega), wr (by omega) (by omega)]
              exact up
    · have j : ∀ b : Bool, b = decide (m.f0 = 1 ∨ m.f0 = 2) → impl_isTerm.j2 (k + 1) ps t (t.length : Int) (i : Int) b p bs m.f0 m.f1 m.f2 = some (if m.f0 = 1 ∨ m.f0 = 2 then (if m.f1 = 0 ∧ m.f2 = 0 ∧ 2 ≤ ps then tgo bs (t.drop (i + 1)) (ps - 1) else false) else false) := by
        intro b hb
        rw [impl_isTerm.j2]
        by_cases h1 : m.f0 = 1 ∨ m.f0 = 2
        · rw [decide_eq_true h1] at hb
          rw [if_pos hb, if_pos h1]
          by_cases a : m.f1 = 0
          · by_cases c : m.f2 = 0
            · by_cases e : ps < 2
              · rw [if_pos a, if_pos c, if_pos e, if_neg (by omega)]
              · have dn := ih k (i + 1) (ps - 1) (by omega) (by omega) (by omega) (by omega) (by omega)
                rw [e1] at dn
                rw [if_pos a, if_pos c, if_neg e, if_pos (by omega), w64 (x := ps - 1) (by omega) (by omega), wr (by omega) (by omega)]
                exact dn
            · rw [if_pos a, if_neg c, if_neg (by omega)]
          · rw [if_neg a, if_neg (by omega)]
        · rw [decide_eq_false h1] at hb
          rw [if_neg (by simp [hb]), if_neg h1]
      rw [if_neg h0, if_neg h0]
      by_cases h1 : m.f0 = 1
      · rw [if_pos h1]; exact j _ (by rw [Bool.eq_iff_iff]; simp [h1])
      · rw [if_neg h1]; exact j _ (by rw [Bool.eq_iff_iff]; simp [h1])
theorem isTerm_eq {p : Int} {bs : List Int} {t : List S54} (hb : bs.length ≤ 1048576) (ht : t.length ≤ 1048576) (k : Nat) (hk : bs.length + 50 ≤ k) : impl_isTerm.f k p bs t = some (termB p bs t) := by
  have j : ∀ (k : Nat) (b : Bool), 40 ≤ k → houseB p bs = true → b = decide (t.length > 9) → impl_isTerm.j0 k t b p bs = some (if t.length ≤ 9 then tgo bs t 0 else false) := by
    intro k b hk hh hb
    obtain ⟨k, rfl⟩ : ∃ m, k = m + 1 := ⟨k - 1, by omega⟩
    rw [impl_isTerm.j0]
    by_cases h : t.length > 9
    · rw [decide_eq_true h] at hb
      rw [if_pos hb, if_neg (by omega)]
    · rw [decide_eq_false h] at hb
      rw [if_neg (by simp [hb]), if_pos (by omega)]
      exact isTerm_loop hh (by omega) t.length k 0 0 (by omega) (by omega) (by omega) (by omega) (by omega)
  have j1 : ∀ k, 1 ≤ k → impl_isTerm.j0 k t true p bs = some false := by
    intro k hk
    obtain ⟨k, rfl⟩ : ∃ m, k = m + 1 := ⟨k - 1, by omega⟩
    rw [impl_isTerm.j0, if_pos rfl]
  unfold impl_isTerm.f termB
  rw [isHouse_eq p hb k (by omega), Option.bind_some]
  by_cases hh : houseB p bs = true
  · rw [if_pos hh, hh, Bool.true_and]
    by_cases h1 : (t.length : Int) < 1
    · rw [if_pos h1, j1 k (by omega), decide_eq_false (by omega), Bool.false_and]
    · rw [if_neg h1, j k _ (by omega) hh (by rw [decide_eq_decide]; omega)]
      by_cases h9 : t.length ≤ 9
      · rw [if_pos h9, decide_eq_true (by omega), Bool.true_and]
      · rw [if_neg h9, decide_eq_false (by omega), Bool.false_and]
  · rw [if_neg hh, j1 k (by omega)]; simp [hh]

theorem few {p : Int} {bs : List Int} (hh : houseB p bs = true) : ∀ a : Int, 0 ≤ a → a < bs.length → hd (rd bs a) ≤ 6 := fun a h0 h1 => by
  obtain ⟨_, _, m0, m64, _⟩ := okC_lt (Tr.body_ok hh h0 h1)
  exact (hd_le m0 m64).2

/-- In brackets, if it is told so. -/
def wrp (b : Bool) (s : ByteArray) : ByteArray := if b = true then (((⟨#[40]⟩ : ByteArray) ++ s) ++ (⟨#[41]⟩ : ByteArray)) else s
def dig (n : Int) : ByteArray := strOfNums [(wrap64 (48 + (mx n 0))) % 256]
def let1 (a : Int) : ByteArray := strOfNums [(wrap64 (65 + a)) % 256]
def isOr : Tr → Bool
  | .atom _ _ => false
  | .node o _ _ => o
def isNode : Tr → Bool
  | .atom _ _ => false
  | .node _ _ _ => true
/-- The text of a term. -/
def txt : Tr → ByteArray
  | .atom a n => let1 a ++ dig n
  | .node o l r => if o = true then (txt l ++ (⟨#[124]⟩ : ByteArray)) ++ wrp (isOr r) (txt r) else (wrp (isOr l) (txt l) ++ (⟨#[38]⟩ : ByteArray)) ++ wrp (isNode r) (txt r)
theorem s40 : (⟨#[40]⟩ : ByteArray).size = 1 := rfl
theorem s41 : (⟨#[41]⟩ : ByteArray).size = 1 := rfl
theorem s38 : (⟨#[38]⟩ : ByteArray).size = 1 := rfl
theorem s124 : (⟨#[124]⟩ : ByteArray).size = 1 := rfl
theorem dig_size (n : Int) : (dig n).size = 1 := rfl
theorem let_size (a : Int) : (let1 a).size = 1 := rfl
theorem wrp_size (b : Bool) (s : ByteArray) : (wrp b s).size ≤ s.size + 2 := by
  unfold wrp; split
  · simp only [ByteArray.size_append, s40, s41]; omega
  · omega
theorem txt_size : ∀ x : Tr, (txt x).size ≤ 8 * x.len
  | .atom a n => by simp only [txt, ByteArray.size_append, dig_size, let_size, Tr.len]; omega
  | .node o l r => by
    have hl := txt_size l
    have hr := txt_size r
    have a := wrp_size (isOr r) (txt r)
    have b := wrp_size (isOr l) (txt l)
    have c := wrp_size (isNode r) (txt r)
    simp only [txt, Tr.len]
    split
    · simp only [ByteArray.size_append, s124]; omega
    · simp only [ByteArray.size_append, s38]; omega
/-- The kind of a term's last mark. -/
def kindT : Tr → Int
  | .atom _ _ => 0
  | .node o _ _ => if o = true then 2 else 1
theorem kind_or (x : Tr) : kindT x = 2 ↔ isOr x = true := by
  cases x with
  | atom a n => simp [kindT, isOr]
  | node o l r => cases o <;> simp [kindT, isOr]
theorem kind_atom (x : Tr) : kindT x = 0 ↔ isNode x = false := by
  cases x with
  | atom a n => simp [kindT, isNode]
  | node o l r => cases o <;> simp [kindT, isNode]
theorem last_kind : ∀ (x : Tr) (h : x.len - 1 < (flat x).length), ((flat x)[x.len - 1]'h).f0 = kindT x
  | .atom a n, _ => rfl
  | .node o l r, h => by
    have e : (flat (.node o l r)) = (flat l ++ flat r) ++ [(⟨if o = true then 2 else 1, 0, 0⟩ : S54)] := by simp only [flat]
    have hl : (flat l ++ flat r).length = l.len + r.len := by rw [List.length_append, flat_len, flat_len]
    have key : ∀ (T : List S54) (hT : T = (flat l ++ flat r) ++ [(⟨if o = true then 2 else 1, 0, 0⟩ : S54)]) (i : Nat) (hi : i = l.len + r.len) (hb : i < T.length), (T[i]'hb).f0 = kindT (.node o l r) := by
      rintro T rfl i rfl hb
      rw [List.getElem_append_right (by omega)]
      simp [hl, kindT]
    exact key _ e _ (by simp only [Tr.len]; omega) h

theorem at_drop {α : Type} {l : List α} {i : Nat} {m : α} {post : List α} (h : l.drop i = m :: post) : ∃ hlt : i < l.length, l[i] = m ∧ l.drop (i + 1) = post := by
  have hlt : i < l.length := by
    by_cases hi : i < l.length
    · exact hi
    · rw [List.drop_of_length_le (by omega)] at h; cases h
  rw [List.drop_eq_getElem_cons hlt] at h
  injection h with h1 h2
  exact ⟨hlt, h1, h2⟩
theorem drop_more {α : Type} {l a post : List α} {i n : Nat} (h : l.drop i = a ++ post) (hn : a.length = n) : l.drop (i + n) = post := by
  rw [← List.drop_drop, h, ← hn, List.drop_left]

def part (x : Tr) : S73 := ⟨txt x, isOr x, (x.len : Int)⟩
theorem letter {a : Int} (h0 : 0 ≤ a) (h4 : a < 4) : (⟨#[65, 66, 67, 68]⟩ : ByteArray).extract a.toNat (a + 1).toNat = let1 a := by
  have : a = 0 ∨ a = 1 ∨ a = 2 ∨ a = 3 := by omega
  rcases this with rfl | rfl | rfl | rfl <;> decide +kernel
theorem itoa_eq (k : Nat) {n : Int} (h0 : 0 ≤ n) (h1 : n < 10) : strconv_Itoa.f k n = some (strOfNums [(wrap64 (48 + (mx n 0))) % 256]) := if_pos ⟨h0, h1⟩
theorem wrapped_eq (b : Bool) (s : ByteArray) (h : s.size ≤ 1000) : impl_wrapped.f s b = some (wrp b s) := by
  unfold impl_wrapped.f wrp
  cases b with
  | true => rw [if_pos rfl, if_pos (by omega), if_pos (by rw [ByteArray.size_append, s40]; omega), if_pos rfl]
  | false => rw [if_neg (by simp), if_neg (by simp)]
theorem tx_atom {t : List S54} (ht : t.length ≤ 9) {a n : Int} (a0 : 0 ≤ a) (a4 : a < 4) (n0 : 0 ≤ n) (n10 : n < 10) {i : Nat} {post : List S54} (h : t.drop i = ⟨0, a, n⟩ :: post) (st : List S73) (hs : st.length ≤ 100) (k : Nat) (hk : 1 ≤ k) :
    impl_termText.l0 (k + 1) st t (t.length : Int) (i : Int) = impl_termText.l0 k (st ++ [part (.atom a n)]) t (t.length : Int) ((i + 1 : Nat) : Int) := by
  obtain ⟨hlt, e, _⟩ := at_drop h
  have hl := letter a0 a4
  have hit := itoa_eq k n0 n10
  rw [impl_termText.l0, if_pos (by omega), if_pos (by omega), if_pos (by omega), rdT_at hlt, e]; dsimp only
  rw [if_pos rfl, if_pos a0, w64 (x := a + 1) (by omega) (by omega), if_pos (by omega), if_pos (by omega), hit, Option.bind_some, hl, if_pos (by rw [let_size]; show 1 + (dig n).size ≤ _; rw [dig_size]; omega), if_pos (by omega), wr (by omega) (by omega)]
  rfl
theorem rdP_last2 (s : List S73) (A B : S73) : rd_T73 (s ++ [A, B]) ((s.length : Nat) : Int) = A ∧ rd_T73 (s ++ [A, B]) (((s.length : Nat) : Int) + 1) = B := by
  constructor
  · unfold rd_T73
    rw [Int.toNat_natCast, List.getD_eq_getElem?_getD, List.getElem?_append_right (Nat.le_refl _)]; simp
  · unfold rd_T73
    rw [show (((s.length : Nat) : Int) + 1).toNat = s.length + 1 from by omega, List.getD_eq_getElem?_getD, List.getElem?_append_right (by omega)]
    simp
theorem tx_node {t : List S54} (ht : t.length ≤ 9) (o : Bool) {i : Nat} {post : List S54} (h : t.drop i = ⟨if o = true then 2 else 1, 0, 0⟩ :: post) (s : List S73) (l r : Tr) (hs : s.length ≤ 100) (hlr : l.len + r.len ≤ 90) (k : Nat) :
    impl_termText.l0 (k + 1) (s ++ [part l, part r]) t (t.length : Int) (i : Int) = impl_termText.l0 k (s ++ [part (.node o l r)]) t (t.length : Int) ((i + 1 : Nat) : Int) := by
  obtain ⟨hlt, e, _⟩ := at_drop h
  have hl : (s ++ [part l, part r]).length = s.length + 2 := by simp
  have e2 : wrap64 (((s ++ [part l, part r]).length : Int) - 2) = (s.length : Int) := by rw [hl, w64 (by omega) (by omega)]; omega
  have e1 : wrap64 (((s ++ [part l, part r]).length : Int) - 1) = (s.length : Int) + 1 := by rw [hl, w64 (by omega) (by omega)]; omega
  obtain ⟨rA, rB⟩ := rdP_last2 s (part l) (part r)
  have tk : (s ++ [part l, part r]).take s.length = s := List.take_left
  have hp : (s.length : Int) ≤ ((s.length + 2 : Nat) : Int) := by omega
  have hq : s.length < 4398046511104 := by omega
  have sl := txt_size l
  have sr := txt_size r
  have em : wrap64 (wrap64 ((l.len : Int) + (r.len : Int)) + 1) = ((l.len + r.len + 1 : Nat) : Int) := by rw [w64 (x := (l.len : Int) + r.len) (by omega) (by omega), w64 (by omega) (by omega)]; omega
  have ew : wrap64 ((i : Int) + 1) = ((i + 1 : Nat) : Int) := by rw [wr (by omega) (by omega)]; omega
  have lr := r.len_pos
  have mk : ∀ inst : Decidable ((part r).f2 > 1), @decide ((part r).f2 > 1) inst = isNode r := by
    intro inst
    cases r with
    | atom a n => exact decide_eq_false (by simp only [part, Tr.len]; omega)
    | node o l' r' => exact decide_eq_true (by have := l'.len_pos; simp only [part, Tr.len]; omega)
  rw [impl_termText.l0, if_pos (by clear e1 e2 em ew; omega), if_pos (by clear e1 e2 em ew; omega), if_pos (by clear e1 e2 em ew; omega), rdT_at hlt, e, e2, e1, hl]; dsimp only
  rw [if_neg (by cases o <;> simp), if_pos (by clear e1 e2 em ew; omega), if_pos (by clear e1 e2 em ew; omega), if_pos (by clear e1 e2 em ew; omega), if_pos (by clear e1 e2 em ew; omega), rA, rB, Int.toNat_natCast, tk, mk]
  simp only [if_pos hp, Option.bind_some, if_pos hq, part, em, ew]
  clear e1 e2 em ew
  have w1 := wrp_size (isOr r) (txt r)
  have w2 := wrp_size (isOr l) (txt l)
  have w3 := wrp_size (isNode r) (txt r)
  cases o with
  | true =>
    rw [if_pos (by simp), if_pos (by omega), wrapped_eq _ _ (by omega), Option.bind_some, if_pos (by rw [ByteArray.size_append, s124]; omega)]
    simp only [txt, isOr, Tr.len]
    rfl
  | false =>
    rw [if_neg (by simp), wrapped_eq _ _ (by omega), Option.bind_some, if_pos (by omega), wrapped_eq _ _ (by omega), Option.bind_some, if_pos (by rw [ByteArray.size_append, s38]; omega)]
    simp only [txt, isOr, Tr.len]
    rfl
theorem tx_flat {bs : List Int} {t : List S54} (hbl : bs.length ≤ 4) (hbs : ∀ a : Int, 0 ≤ a → a < bs.length → hd (rd bs a) ≤ 6) (ht : t.length ≤ 9) : ∀ (x : Tr), x.good bs → ∀ (i : Nat) (post : List S54) (st : List S73) (k : Nat), t.drop i = flat x ++ post → st.length + x.len ≤ 90 → 1 ≤ k →
    impl_termText.l0 (k + x.len) st t (t.length : Int) (i : Int) = impl_termText.l0 k (st ++ [part x]) t (t.length : Int) ((i + x.len : Nat) : Int)
  | .atom a n, hg, i, post, st, k, h, hs, hk => by
    obtain ⟨g0, g1, g2, g3⟩ := hg
    have := hbs a g0 g1
    exact tx_atom ht g0 (by omega) (by omega) (by omega) h st (by simp only [Tr.len] at hs; omega) k hk
  | .node o l r, hg, i, post, st, k, h, hs, hk => by
    simp only [flat, List.append_assoc] at h
    simp only [Tr.len] at hs ⊢
    have h2 := drop_more h (flat_len l)
    have h3 := drop_more h2 (flat_len r)
    rw [show k + (l.len + r.len + 1) = (k + 1 + r.len) + l.len from by omega, tx_flat hbl hbs ht l hg.1 i _ st _ h (by omega) (by omega), tx_flat hbl hbs ht r hg.2 _ _ _ _ h2 (by simp; omega) (by omega)]
    rw [List.append_assoc]
    have := tx_node ht o h3 st l r (by omega) (by omega) k
    rw [show i + l.len + r.len + 1 = i + (l.len + r.len + 1) from by omega] at this
    exact this
theorem iText_eq {bs : List Int} {x : Tr} (hbl : bs.length ≤ 4) (hbs : ∀ a : Int, 0 ≤ a → a < bs.length → hd (rd bs a) ≤ 6) (hx : x.good bs) (hl : x.len ≤ 9) (k : Nat) (hk : 12 ≤ k) : impl_termText.f k (flat x) = some (txt x) := by
  unfold impl_termText.f
  obtain ⟨j, rfl⟩ : ∃ j, k = j + 1 + x.len := ⟨k - 1 - x.len, by omega⟩
  have := tx_flat (t := flat x) hbl hbs (by rw [flat_len]; exact hl) x hx 0 [] [] (j + 1) (by simp) (by simp; omega) (by omega)
  rw [show ((0 : Nat) : Int) = 0 from rfl] at this
  rw [this, impl_termText.l0, if_neg (by rw [flat_len]; omega), List.nil_append, if_pos (by simp)]
  rfl

theorem starts_flat {t : List S54} (ht : t.length ≤ 9) : ∀ (x : Tr) (i : Nat) (post : List S54) (need : Int) (k : Nat), t.drop i = flat x ++ post → 1 ≤ need → need + x.len ≤ 100 →
    spec_l3Starts.l0 (k + x.len) t need (((i + x.len : Nat) : Int) - 1) = spec_l3Starts.l0 k t (need - 1) ((i : Int) - 1)
  | .atom a n, i, post, need, k, h, hn, hs => by
    obtain ⟨hlt, e, _⟩ := at_drop (m := ⟨0, a, n⟩) (post := post) h
    simp only [Tr.len]
    rw [show ((i + 1 : Nat) : Int) - 1 = (i : Int) from by omega, spec_l3Starts.l0, if_pos (by omega), if_pos (by omega), if_pos (by omega), rdT_at hlt, e]; dsimp only
    rw [if_pos rfl, w64 (x := need - 1) (by omega) (by omega), w64 (x := (i : Int) - 1) (by omega) (by omega)]
  | .node o l r, i, post, need, k, h, hn, hs => by
    simp only [flat, List.append_assoc] at h
    simp only [Tr.len] at hs ⊢
    have h2 := drop_more h (flat_len l)
    have h3 := drop_more h2 (flat_len r)
    obtain ⟨hlt, e, _⟩ := at_drop (m := (⟨if o = true then 2 else 1, 0, 0⟩ : S54)) (post := post) h3
    rw [show k + (l.len + r.len + 1) = (k + l.len + r.len) + 1 from by omega, show ((i + (l.len + r.len + 1) : Nat) : Int) - 1 = ((i + l.len + r.len : Nat) : Int) from by omega, spec_l3Starts.l0, if_pos (by omega), if_pos (by omega), if_pos (by omega), rdT_at hlt, e]; dsimp only
    rw [if_neg (by cases o <;> simp), wr (A := need) (by omega) (by omega), w64 (x := ((i + l.len + r.len : Nat) : Int) - 1) (by omega) (by omega)]
    rw [starts_flat ht r _ _ (need + 1) (k + l.len) h2 (by omega) (by omega), show need + 1 - 1 = need from by omega, starts_flat ht l i _ need k h hn (by omega)]
theorem starts_eq {l r : Tr} {m : S54} (hl : l.len + r.len ≤ 8) (k : Nat) (hk : 10 ≤ k) : spec_l3Starts.f k (flat l ++ (flat r ++ [m])) (((l.len + r.len : Nat) : Int) - 1) = some (l.len : Int) := by
  unfold spec_l3Starts.f
  obtain ⟨j, rfl⟩ : ∃ j, k = j + 1 + r.len := ⟨k - 1 - r.len, by omega⟩
  have := starts_flat (t := flat l ++ (flat r ++ [m])) (by simp [flat_len]; omega) r l.len [m] 1 (j + 1) (by rw [← flat_len l, List.drop_left]) (by omega) (by omega)
  rw [this, show (1 : Int) - 1 = 0 from rfl, spec_l3Starts.l0, if_neg (by omega), w64 (by omega) (by omega)]
  congr 1; omega

theorem number_eq {n : Int} (h : n < 10) (k : Nat) (hk : 1 ≤ k) : spec_l1Number.f k n = some (strOfNums [(wrap64 (48 + (mx n 0))) % 256]) := by
  obtain ⟨k, rfl⟩ : ∃ m, k = m + 1 := ⟨k - 1, by omega⟩
  rw [spec_l1Number.f, if_pos h]

theorem sText_flat {bs : List Int} (hbs : ∀ a : Int, 0 ≤ a → a < bs.length → hd (rd bs a) ≤ 6) : ∀ (x : Tr), x.good bs → x.len ≤ 9 → ∀ k, x.len + 20 ≤ k → spec_l3Text.f k (flat x) = some (txt x)
  | .atom a n, hg, hl, k, hk => by
    obtain ⟨k, rfl⟩ : ∃ m, k = m + 1 := ⟨k - 1, by omega⟩
    obtain ⟨g0, g1, g2, g3⟩ := hg
    have h6 := hbs a g0 g1
    have e : (flat (.atom a n)).length = 1 := rfl
    have hm : ∀ h, (flat (.atom a n))[0]'h = ⟨0, a, n⟩ := fun _ => rfl
    have sz : (strOfNums [(wrap64 (65 + a)) % 256]).size + (strOfNums [(wrap64 (48 + (mx n 0))) % 256]).size ≤ 9223372036854775807 := by
      rw [show (strOfNums [(wrap64 (65 + a)) % 256]).size = 1 from rfl, show (strOfNums [(wrap64 (48 + (mx n 0))) % 256]).size = 1 from rfl]; decide
    rw [spec_l3Text.f, e, show wrap64 (((1 : Nat) : Int) - 1) = ((0 : Nat) : Int) from by rw [w64 (by omega) (by omega)]; rfl, if_pos (by omega), if_pos (by omega), rdT_at (by rw [e]; omega), hm]; dsimp only
    rw [if_pos rfl, Option.bind_some, number_eq (by omega) k (by omega), Option.bind_some, if_pos sz]
    rfl
  | .node o l r, hg, hl, k, hk => by
    obtain ⟨k, rfl⟩ : ∃ m, k = m + 1 := ⟨k - 1, by omega⟩
    simp only [Tr.len] at hl hk
    have ll := l.len_pos
    have lr := r.len_pos
    have e : (flat (.node o l r)) = flat l ++ (flat r ++ [⟨if o = true then 2 else 1, 0, 0⟩]) := by simp only [flat, List.append_assoc]
    have el : (flat l ++ (flat r ++ [(⟨if o = true then 2 else 1, 0, 0⟩ : S54)])).length = l.len + r.len + 1 := by simp [flat_len]; omega
    have hlast : (flat l ++ (flat r ++ [(⟨if o = true then 2 else 1, 0, 0⟩ : S54)]))[l.len + r.len]'(by rw [el]; omega) = ⟨if o = true then 2 else 1, 0, 0⟩ := by
      rw [List.getElem_append_right (by rw [flat_len]; omega), List.getElem_append_right (by simp [flat_len])]
      simp [flat_len]
    have il := sText_flat hbs l hg.1 (by omega) k (by omega)
    have ir := sText_flat hbs r hg.2 (by omega) k (by omega)
    have tl : (flat l ++ (flat r ++ [(⟨if o = true then 2 else 1, 0, 0⟩ : S54)])).take l.len = flat l := by rw [← flat_len l, List.take_left]
    have tr : ((flat l ++ (flat r ++ [(⟨if o = true then 2 else 1, 0, 0⟩ : S54)])).take (l.len + r.len)).drop l.len = flat r := by
      rw [← List.append_assoc, show l.len + r.len = (flat l ++ flat r).length from by simp [flat_len], List.take_left, ← flat_len l, List.drop_left]
    have kr : (rd_T54 (flat l ++ (flat r ++ [(⟨if o = true then 2 else 1, 0, 0⟩ : S54)])) ((l.len + r.len - 1 : Nat) : Int)).f0 = kindT r := by
      rw [rdT_at (by rw [el]; omega)]
      have h1 : ∀ hb, ((flat l ++ (flat r ++ [(⟨if o = true then 2 else 1, 0, 0⟩ : S54)]))[l.len + r.len - 1]'hb) = (flat r)[r.len - 1]'(by rw [flat_len]; omega) := by
        intro hb
        rw [List.getElem_append_right (by rw [flat_len]; omega), List.getElem_append_left (by rw [flat_len, flat_len]; omega)]
        congr 1; rw [flat_len]; omega
      rw [h1, last_kind r]
    have kl : (rd_T54 (flat l ++ (flat r ++ [(⟨if o = true then 2 else 1, 0, 0⟩ : S54)])) ((l.len - 1 : Nat) : Int)).f0 = kindT l := by
      rw [rdT_at (by rw [el]; omega)]
      have h1 : ∀ hb, ((flat l ++ (flat r ++ [(⟨if o = true then 2 else 1, 0, 0⟩ : S54)]))[l.len - 1]'hb) = (flat l)[l.len - 1]'(by rw [flat_len]; omega) := by
        intro hb
        rw [List.getElem_append_left (by rw [flat_len]; omega)]
      rw [h1, last_kind l]
    have e1 : wrap64 (((l.len + r.len + 1 : Nat) : Int) - 1) = ((l.len + r.len : Nat) : Int) := by rw [w64 (by omega) (by omega)]; omega
    have e2 : wrap64 (((l.len + r.len : Nat) : Int) - 1) = ((l.len + r.len - 1 : Nat) : Int) := by rw [w64 (by omega) (by omega)]; omega
    have e3 : wrap64 ((l.len : Int) - 1) = ((l.len - 1 : Nat) : Int) := by rw [w64 (by omega) (by omega)]; omega
    have st : spec_l3Starts.f k (flat l ++ (flat r ++ [(⟨if o = true then 2 else 1, 0, 0⟩ : S54)])) ((l.len + r.len - 1 : Nat) : Int) = some (l.len : Int) := by
      rw [show ((l.len + r.len - 1 : Nat) : Int) = ((l.len + r.len : Nat) : Int) - 1 from by omega]
      exact starts_eq (by omega) k (by omega)
    rw [e, spec_l3Text.f, el, e1]
    simp only [e2]
    rw [if_pos (by clear e1 e2 e3; omega), if_pos (by clear e1 e2 e3; omega), rdT_at (by rw [el]; omega), hlast, st, Option.bind_some]
    simp only [e3]
    clear e1 e2 e3
    have sl := txt_size l
    have sr := txt_size r
    have q0 : (0 : Int) ≤ (l.len : Int) := by omega
    have q1 : (l.len : Int) ≤ ((l.len + r.len + 1 : Nat) : Int) := by omega
    have q2 : (l.len : Int) ≤ ((l.len + r.len : Nat) : Int) := by omega
    have q3 : ((l.len + r.len : Nat) : Int) ≤ ((l.len + r.len + 1 : Nat) : Int) := by omega
    have q4 : (0 : Int) ≤ ((l.len + r.len - 1 : Nat) : Int) := by omega
    have q5 : ((l.len + r.len - 1 : Nat) : Int) < ((l.len + r.len + 1 : Nat) : Int) := by omega
    have q6 : (0 : Int) ≤ ((l.len - 1 : Nat) : Int) := by omega
    have q7 : ((l.len - 1 : Nat) : Int) < ((l.len + r.len + 1 : Nat) : Int) := by omega
    have z1 : 1 + (txt r).size ≤ 9223372036854775807 := by omega
    have z2 : ((⟨#[40]⟩ : ByteArray) ++ txt r).size + 1 ≤ 9223372036854775807 := by rw [ByteArray.size_append, s40]; omega
    have z3 : (txt l).size + 1 ≤ 9223372036854775807 := by omega
    have z4 : 1 + (txt l).size ≤ 9223372036854775807 := by omega
    have z5 : ((⟨#[40]⟩ : ByteArray) ++ txt l).size + 1 ≤ 9223372036854775807 := by rw [ByteArray.size_append, s40]; omega
    have z6 : (((⟨#[40]⟩ : ByteArray) ++ txt l) ++ (⟨#[41]⟩ : ByteArray)).size + 1 ≤ 9223372036854775807 := by simp only [ByteArray.size_append, s40, s41]; omega
    have z7 : (txt l ++ (⟨#[124]⟩ : ByteArray)).size + (((⟨#[40]⟩ : ByteArray) ++ txt r) ++ (⟨#[41]⟩ : ByteArray)).size ≤ 9223372036854775807 := by simp only [ByteArray.size_append, s40, s41, s124]; omega
    have z8 : (txt l ++ (⟨#[124]⟩ : ByteArray)).size + (txt r).size ≤ 9223372036854775807 := by simp only [ByteArray.size_append, s124]; omega
    have z9 : ((((⟨#[40]⟩ : ByteArray) ++ txt l) ++ (⟨#[41]⟩ : ByteArray)) ++ (⟨#[38]⟩ : ByteArray)).size + (txt r).size ≤ 9223372036854775807 := by simp only [ByteArray.size_append, s40, s41, s38]; omega
    have z10 : ((((⟨#[40]⟩ : ByteArray) ++ txt l) ++ (⟨#[41]⟩ : ByteArray)) ++ (⟨#[38]⟩ : ByteArray)).size + (((⟨#[40]⟩ : ByteArray) ++ txt r) ++ (⟨#[41]⟩ : ByteArray)).size ≤ 9223372036854775807 := by simp only [ByteArray.size_append, s40, s41, s38]; omega
    have z11 : (txt l ++ (⟨#[38]⟩ : ByteArray)).size + (txt r).size ≤ 9223372036854775807 := by simp only [ByteArray.size_append, s38]; omega
    have z12 : (txt l ++ (⟨#[38]⟩ : ByteArray)).size + (((⟨#[40]⟩ : ByteArray) ++ txt r) ++ (⟨#[41]⟩ : ByteArray)).size ≤ 9223372036854775807 := by simp only [ByteArray.size_append, s40, s41, s38]; omega
    have e3 : wrap64 ((l.len : Int) - 1) = ((l.len - 1 : Nat) : Int) := by rw [w64 (by omega) (by omega)]; omega
    simp only [e3, if_pos q0, if_pos q1, if_pos q2, if_pos q3, if_pos q4, if_pos q5, if_pos q6, if_pos q7, Int.toNat_natCast, tl, tr, il, ir, Option.bind_some, kr, kl, if_pos z1, if_pos z2, if_pos z3, if_pos z4, if_pos z5, if_pos z6, if_pos z7, if_pos z8, if_pos z9, if_pos z10, if_pos z11, if_pos z12]
    clear e3 q0 q1 q2 q3 q4 q5 q6 q7 z1 z2 z3 z4 z5 z6 z7 z8 z9 z10 z11 z12 tl tr il ir kr kl st hlast el e
    simp only [txt, wrp]
    cases o with
    | true =>
      rw [if_neg (by simp), if_pos (by simp), if_pos rfl]
      by_cases h : isOr r = true
      · rw [if_pos ((kind_or r).2 h), if_pos h]
      · rw [if_neg (fun h2 => h ((kind_or r).1 h2)), if_neg h]
    | false =>
      simp only [Bool.false_eq_true, if_false]
      rw [if_neg (by simp), if_neg (by simp)]
      by_cases h : isOr l = true
      · rw [if_pos ((kind_or l).2 h), if_pos h]
        cases h2 : isNode r with
        | true => rw [if_neg (fun h3 => by rw [(kind_atom r).1 h3] at h2; cases h2), if_pos rfl]
        | false => rw [if_pos ((kind_atom r).2 h2), if_neg (by simp)]
      · rw [if_neg (fun h2 => h ((kind_or l).1 h2)), if_neg h]
        cases h2 : isNode r with
        | true => rw [if_neg (fun h3 => by rw [(kind_atom r).1 h3] at h2; cases h2), if_pos rfl]
        | false => rw [if_pos ((kind_atom r).2 h2), if_neg (by simp)]

theorem l1In_eq (n a b : Int) : spec_l1In.f n a b = some (decide (a ≤ n ∧ n ≤ b)) := by
  unfold spec_l1In.f
  by_cases h : n ≥ a
  · rw [if_pos h]; congr 1; simp [show a ≤ n from h]
  · rw [if_neg h]; congr 1; simp; omega
theorem sCrowdOk_eq (p c : Int) : spec_CrowdOk.f p c = some (okC p c) := by
  unfold spec_CrowdOk.f
  rw [l1In_eq]
  simp only [Option.bind_some]
  by_cases h : 1 ≤ p ∧ p ≤ 6
  · have hf := full_le h.1 h.2
    rw [if_pos (by simpa using h), if_pos (by omega), shl1 (by omega) h.2, l1In_eq, w64 (by omega) (by omega)]
    simp only [Option.bind_some]
    congr 1
    rw [Bool.eq_iff_iff, okC_iff]; simp; omega
  · rw [if_neg (by simpa using h)]; congr 1
    symm; rw [Bool.eq_false_iff]; intro hc; rw [okC_iff] at hc; omega

theorem sHouse_loop {p : Int} {bs : List Int} (hm : bs.length ≤ 1048576) (d : Nat) : ∀ (k i : Nat), i ≤ bs.length → bs.length - i = d → d < k →
    spec_HouseOk.l0 k (i : Int) p bs = some ((bs.drop i).all (goodB p) && (decide (1 ≤ p ∧ p ≤ 6) && decide ((bs.length : Int) ≤ 4))) := by
  induction d with
  | zero =>
    intro k i hi hd hk
    obtain ⟨k, rfl⟩ : ∃ m, k = m + 1 := ⟨k - 1, by omega⟩
    simp only [spec_HouseOk.l0]
    rw [if_neg (by omega), List.drop_of_length_le (by omega), l1In_eq, Option.bind_some]
    by_cases h : 1 ≤ p ∧ p ≤ 6
    · rw [if_pos (by simpa using h)]; simp [h]
    · rw [if_neg (by simpa using h)]; simp [h]
  | succ d ih =>
    intro k i hi hd hk
    obtain ⟨k, rfl⟩ : ∃ m, k = m + 1 := ⟨k - 1, by omega⟩
    simp only [spec_HouseOk.l0]
    have hlt : i < bs.length := by omega
    rw [if_pos (by omega), if_pos (by omega), rd_at hlt, sCrowdOk_eq, Option.bind_some, all_drop hlt]
    by_cases hg : okC p bs[i] = true
    · rw [if_pos hg]
      by_cases hz : bs[i] = 0
      · rw [if_pos hz]; simp [goodB, hz]
      · rw [if_neg hz, wr (by omega) (by omega)]
        rw [show goodB p bs[i] = true from by simp [goodB, hg, hz], Bool.true_and]
        exact ih k (i + 1) (by omega) (by omega) (by omega)
    · rw [if_neg hg]; simp [goodB, hg]
theorem sHouseOk_eq {bs : List Int} (p : Int) (hm : bs.length ≤ 1048576) (k : Nat) (hk : bs.length < k) : spec_HouseOk.f k p bs = some (houseB p bs) := by
  unfold spec_HouseOk.f houseB
  exact sHouse_loop hm bs.length k 0 (by omega) (by omega) hk

theorem l1Heads_all : ∀ c : Fin 64, spec_l1Heads.f 7 c.val = some (hd c.val) := by decide +kernel
theorem sHeads_eq {c : Int} (k : Nat) (hk : 7 ≤ k) (h0 : 0 ≤ c) (h1 : c < 64) : spec_l1Heads.f k c = some (hd c) :=
  at_rounds (spec_l1Heads.mono c) hk (all64 (P := fun c => spec_l1Heads.f 7 c = some (hd c)) l1Heads_all c h0 h1)

theorem heads_some (d : Nat) : ∀ (k : Nat) (c n : Int), c < 2 ^ d → d < k → ∃ r, spec_l1Heads.l0 k c n = some r := by
  induction d with
  | zero =>
    intro k c n hc hk
    obtain ⟨k, rfl⟩ : ∃ m, k = m + 1 := ⟨k - 1, by omega⟩
    rw [spec_l1Heads.l0, if_neg (by simp at hc; omega)]
    exact ⟨_, rfl⟩
  | succ d ih =>
    intro k c n hc hk
    obtain ⟨k, rfl⟩ : ∃ m, k = m + 1 := ⟨k - 1, by omega⟩
    rw [spec_l1Heads.l0]
    by_cases h : c > 0
    · rw [if_pos h]
      have e : Int.tdiv c 2 = c / 2 := Int.tdiv_eq_ediv_of_nonneg (by omega)
      refine ih k _ _ ?_ (by omega)
      have hp : (2 : Int) ^ (d + 1) = 2 ^ d * 2 := Int.pow_succ ..
      have h1 : c / 2 < 2 ^ d := by omega
      have h2 : wrap64 (c / 2) ≤ c / 2 := by
        unfold wrap64; omega
      rw [e]
      omega
    · rw [if_neg h]; exact ⟨_, rfl⟩
theorem rd_any {bs : List Int} (hb : ∀ z ∈ bs, z < 2 ^ 63) (i : Int) : rd bs i < 2 ^ 63 := by
  unfold rd
  by_cases hi : i.toNat < bs.length
  · rw [List.getD_eq_getElem?_getD, List.getElem?_eq_getElem hi, Option.getD_some]; exact hb _ (List.getElem_mem hi)
  · rw [List.getD_eq_getElem?_getD, List.getElem?_eq_none (by omega), Option.getD_none]; decide
theorem sTerm_j {p : Int} {bs : List Int} {t : List S54} {i : Nat} (hlt : i < t.length) (ps : Int) (p0 : 0 ≤ ps) (p1 : ps ≤ 10000000) (hi : i ≤ 10000000) (k : Nat) (R : Bool)
    (dn : 2 ≤ ps → (t[i].f0 = 1 ∨ t[i].f0 = 2) → t[i].f1 = 0 → t[i].f2 = 0 → spec_TermOk.l0 k t (ps - 1) ((i : Int) + 1) p bs = some R)
    (no : ¬ (2 ≤ ps ∧ (t[i].f0 = 1 ∨ t[i].f0 = 2) ∧ t[i].f1 = 0 ∧ t[i].f2 = 0) → R = false) : spec_TermOk.j1 (k + 1) t ps (i : Int) false p bs = some R := by
  rw [spec_TermOk.j1, if_neg (by simp), if_pos (by omega), if_pos (by omega), rdT_at hlt]
  generalize t[i] = m at *
  by_cases h1 : m.f0 = 1 ∧ m.f1 = 0 ∧ m.f2 = 0
  · rw [if_pos (by simp [h1])]
    by_cases e : ps ≥ 2
    · rw [if_pos e, w64 (x := ps - 1) (by omega) (by omega), wr (by omega) (by omega)]
      exact dn e (.inl h1.1) h1.2.1 h1.2.2
    · rw [if_neg e, no (by omega)]
  · rw [if_neg (by simpa using h1)]
    by_cases h2 : m.f0 = 2 ∧ m.f1 = 0 ∧ m.f2 = 0
    · rw [if_pos (by simp [h2])]
      by_cases e : ps ≥ 2
      · rw [if_pos e, w64 (x := ps - 1) (by omega) (by omega), wr (by omega) (by omega)]
        exact dn e (.inr h2.1) h2.2.1 h2.2.2
      · rw [if_neg e, no (by omega)]
    · rw [if_neg (by simpa using h2), no (by omega)]
theorem sTerm_house {p : Int} {bs : List Int} {t : List S54} (hh : houseB p bs = true) (ht : t.length ≤ 1048576) (d : Nat) : ∀ (k i : Nat) (ps : Int), i ≤ t.length → t.length - i = d → 0 ≤ ps → ps ≤ i → 2 * d + 20 ≤ k →
    spec_TermOk.l0 k t ps (i : Int) p bs = some (tgo bs (t.drop i) ps && decide ((t.length : Int) ≤ 9)) := by
  have hl := (houseB_iff.1 hh).2.2
  induction d with
  | zero =>
    intro k i ps hi hdd _ _ hk
    obtain ⟨k, rfl⟩ : ∃ m, k = m + 1 := ⟨k - 1, by omega⟩
    rw [spec_TermOk.l0, if_neg (by omega), List.drop_of_length_le (by omega), sHouseOk_eq p (by omega) k (by omega), hh, Option.bind_some, if_pos rfl, tgo]
    by_cases h : ps = 1
    · rw [if_pos h, h]; rfl
    · rw [if_neg h, show (ps == 1) = false from beq_eq_false_iff_ne.mpr h]; rfl
  | succ d ih =>
    intro k i ps hi hdd p0 p1 hk
    obtain ⟨k, rfl⟩ : ∃ m, k = m + 2 := ⟨k - 2, by omega⟩
    have hlt : i < t.length := by omega
    have up := ih k (i + 1) (ps + 1) (by omega) (by omega) (by omega) (by omega) (by omega)
    have e1 : (((i + 1 : Nat)) : Int) = (i : Int) + 1 := by omega
    rw [e1] at up
    have dn : 2 ≤ ps → spec_TermOk.l0 k t (ps - 1) ((i : Int) + 1) p bs = some (tgo bs (t.drop (i + 1)) (ps - 1) && decide ((t.length : Int) ≤ 9)) := fun h2 => by
      have := ih k (i + 1) (ps - 1) (by omega) (by omega) (by omega) (by omega) (by omega)
      rw [e1] at this; exact this
    have J := fun R => sTerm_j (p := p) (bs := bs) hlt ps p0 (by omega) (by omega) k R
    rw [spec_TermOk.l0, if_pos (by omega), if_pos (by omega), rdT_at hlt, List.drop_eq_getElem_cons hlt, tgo]
    by_cases h0 : t[i].f0 = 0
    · rw [if_pos h0, if_pos h0, l1In_eq, Option.bind_some, w64 (x := (bs.length : Int) - 1) (by omega) (by omega)]
      have no := J false (fun _ h => by omega) (fun _ => rfl)
      by_cases a : 0 ≤ t[i].f1 ∧ t[i].f1 ≤ (bs.length : Int) - 1
      · obtain ⟨_, _, c0, c64, _⟩ := okC_lt (Tr.body_ok hh (a := t[i].f1) (by omega) (by omega))
        rw [if_pos (decide_eq_true a), if_pos (by omega), if_pos (by omega), sHeads_eq (k + 1) (by omega) c0 c64, Option.bind_some, l1In_eq, Option.bind_some]
        by_cases b : 1 ≤ t[i].f2 ∧ t[i].f2 ≤ hd (rd bs t[i].f1)
        · rw [decide_eq_true b, if_pos (by omega), spec_TermOk.j1, if_pos rfl, wr p0 (by omega), wr (by omega) (by omega)]
          exact up
        · rw [decide_eq_false b, if_neg (by omega), no]; rfl
      · rw [if_neg (by simpa using a), if_neg (by omega), no]; rfl
    · rw [if_neg h0, if_neg h0]
      refine J _ (fun h2 hk' h3 h4 => ?_) (fun hn => ?_)
      · rw [if_pos hk', if_pos ⟨h3, h4, h2⟩]; exact dn h2
      · by_cases h1 : t[i].f0 = 1 ∨ t[i].f0 = 2
        · rw [if_pos h1, if_neg (by omega)]; rfl
        · rw [if_neg h1]; rfl
theorem sTerm_none {p : Int} {bs : List Int} {t : List S54} (hh : houseB p bs = false) (hbl : bs.length ≤ 1048576) (hb : ∀ z ∈ bs, z < 2 ^ 63) (ht : t.length ≤ 1048576) (d : Nat) : ∀ (k i : Nat) (ps : Int), i ≤ t.length → t.length - i = d → 0 ≤ ps → ps ≤ i → 2 * d + bs.length + 80 ≤ k →
    spec_TermOk.l0 k t ps (i : Int) p bs = some false := by
  induction d with
  | zero =>
    intro k i ps hi hdd _ _ hk
    obtain ⟨k, rfl⟩ : ∃ m, k = m + 1 := ⟨k - 1, by omega⟩
    rw [spec_TermOk.l0, if_neg (by omega), sHouseOk_eq p (by omega) k (by omega), hh, Option.bind_some, if_neg (by simp)]
  | succ d ih =>
    intro k i ps hi hdd p0 p1 hk
    obtain ⟨k, rfl⟩ : ∃ m, k = m + 2 := ⟨k - 2, by omega⟩
    have hlt : i < t.length := by omega
    have up := ih k (i + 1) (ps + 1) (by omega) (by omega) (by omega) (by omega) (by omega)
    have e1 : (((i + 1 : Nat)) : Int) = (i : Int) + 1 := by omega
    rw [e1] at up
    have no := sTerm_j (p := p) (bs := bs) hlt ps p0 (by omega) (by omega) k false (fun h2 _ _ _ => by
      have := ih k (i + 1) (ps - 1) (by omega) (by omega) (by omega) (by omega) (by omega)
      rw [e1] at this; exact this) (fun _ => rfl)
    have J : ∀ b, spec_TermOk.j1 (k + 1) t ps (i : Int) b p bs = some false := by
      intro b
      cases b with
      | false => exact no
      | true => rw [spec_TermOk.j1, if_pos rfl, wr p0 (by omega), wr (by omega) (by omega)]; exact up
    rw [spec_TermOk.l0, if_pos (by omega), if_pos (by omega), rdT_at hlt]
    by_cases h0 : t[i].f0 = 0
    · rw [if_pos h0, l1In_eq, Option.bind_some, w64 (x := (bs.length : Int) - 1) (by omega) (by omega)]
      by_cases a : 0 ≤ t[i].f1 ∧ t[i].f1 ≤ (bs.length : Int) - 1
      · obtain ⟨r, hr⟩ := heads_some 63 (k + 1) (rd bs t[i].f1) 0 (rd_any hb _) (by omega)
        rw [if_pos (decide_eq_true a), if_pos (by omega), if_pos (by omega), show spec_l1Heads.f (k + 1) (rd bs t[i].f1) = some r from hr, Option.bind_some, l1In_eq, Option.bind_some]
        exact J _
      · rw [if_neg (by simpa using a)]; exact J _
    · rw [if_neg h0]; exact J _
theorem sTermOk_eq {p : Int} {bs : List Int} {t : List S54} (hbl : bs.length ≤ 1048576) (hb : ∀ z ∈ bs, z < 2 ^ 63) (ht : t.length ≤ 1048576) (k : Nat) (hk : 2 * t.length + bs.length + 100 ≤ k) : spec_TermOk.f k p bs t = some (termB p bs t) := by
  unfold spec_TermOk.f termB
  by_cases hh : houseB p bs = true
  · have this : spec_TermOk.l0 k t 0 0 p bs = some (tgo bs t 0 && decide ((t.length : Int) ≤ 9)) := sTerm_house hh ht t.length k 0 0 (by omega) (by omega) (by omega) (by omega) (by omega)
    rw [this, hh, Bool.true_and]
    congr 1
    by_cases h : t.length = 0
    · rw [List.eq_nil_of_length_eq_zero h]; rfl
    · rw [Bool.and_comm]
      congr 1
      rw [decide_eq_decide]; omega
  · have hf : houseB p bs = false := by simpa using hh
    rw [hf, Bool.false_and]
    exact sTerm_none hf hbl hb ht t.length k 0 0 (by omega) (by omega) (by omega) (by omega) (by omega)

theorem iTermText_eq {p : Int} {bs : List Int} {x : Tr} (h : termB p bs (flat x) = true) (hx : x.good bs) (k : Nat) (hk : bs.length + 50 ≤ k) : impl_TermText.f k p bs (flat x) = some (txt x) := by
  have hh := (term_tree h).1
  have h9 := (term_tree h).2.1
  have hb := (houseB_iff.1 hh).2.2
  unfold impl_TermText.f
  rw [isTerm_eq (by omega) (by omega) k hk, Option.bind_some, if_pos h, iText_eq hb (few hh) hx (by rw [flat_len] at h9; exact h9) k (by omega), Option.bind_some]
theorem sTermText_eq {p : Int} {bs : List Int} {x : Tr} (hb : ∀ z ∈ bs, z < 2 ^ 63) (h : termB p bs (flat x) = true) (hx : x.good bs) (k : Nat) (hk : bs.length + 150 ≤ k) : spec_TermText.f k p bs (flat x) = some (txt x) := by
  have hh := (term_tree h).1
  have h9 := (term_tree h).2.1
  have hb4 := (houseB_iff.1 hh).2.2
  unfold spec_TermText.f
  rw [sTermOk_eq (by omega) hb (by omega) k (by omega), Option.bind_some, if_pos h, sText_flat (few hh) x hx (by rw [flat_len] at h9; exact h9) k (by rw [flat_len] at h9; omega), Option.bind_some]
theorem sTermText_no {p : Int} {bs : List Int} {t : List S54} (hbl : bs.length ≤ 1048576) (hb : ∀ z ∈ bs, z < 2 ^ 63) (ht : t.length ≤ 1048576) (h : ¬ termB p bs t = true) (k : Nat) (hk : 2 * t.length + bs.length + 150 ≤ k) : spec_TermText.f k p bs t = some (⟨#[]⟩ : ByteArray) := by
  unfold spec_TermText.f
  rw [sTermOk_eq hbl hb ht k (by omega), Option.bind_some, if_neg h]

/-- A text's bytes as numbers. -/
def nums_ (s : ByteArray) : List Int := s.data.toList.map fun b => (b.toNat : Int)
theorem nums_len (s : ByteArray) : (nums_ s).length = s.size := by simp [nums_]
theorem nums_app (s t : ByteArray) : nums_ (s ++ t) = nums_ s ++ nums_ t := by simp [nums_, ByteArray.data_append]
theorem nums_bt {s : ByteArray} {i : Nat} (h : i < s.size) : bt s (i : Int) = (nums_ s)[i]'(by rw [nums_len]; exact h) := by
  unfold bt
  rw [dif_pos (by rw [Int.toNat_natCast]; exact h)]
  simp only [Int.toNat_natCast, nums_, List.getElem_map, Array.getElem_toList]
  rfl
def wr2 (b : Bool) (u : List Int) : List Int := if b = true then 40 :: (u ++ [41]) else u
/-- The text of a term, as numbers. -/
def chars : Tr → List Int
  | .atom a n => [65 + a, 48 + n]
  | .node o l r => if o = true then chars l ++ 124 :: wr2 (isOr r) (chars r) else wr2 (isOr l) (chars l) ++ 38 :: wr2 (isNode r) (chars r)
theorem nums_wrp (b : Bool) (s : ByteArray) : nums_ (wrp b s) = wr2 b (nums_ s) := by
  unfold wrp wr2
  split
  · rw [nums_app, nums_app]; rfl
  · rfl
theorem nums_let {a : Int} (h0 : 0 ≤ a) (h4 : a < 4) : nums_ (let1 a) = [65 + a] := by
  have : a = 0 ∨ a = 1 ∨ a = 2 ∨ a = 3 := by omega
  rcases this with rfl | rfl | rfl | rfl <;> decide +kernel
theorem nums_dig {n : Int} (h0 : 0 ≤ n) (h9 : n < 10) : nums_ (dig n) = [48 + n] := by
  have : n = 0 ∨ n = 1 ∨ n = 2 ∨ n = 3 ∨ n = 4 ∨ n = 5 ∨ n = 6 ∨ n = 7 ∨ n = 8 ∨ n = 9 := by omega
  rcases this with rfl | rfl | rfl | rfl | rfl | rfl | rfl | rfl | rfl | rfl <;> decide +kernel
/-- Atoms of few bodies with small needs: what a text can say. -/
def says : Tr → Prop
  | .atom a n => 0 ≤ a ∧ a < 4 ∧ 1 ≤ n ∧ n < 10
  | .node _ l r => says l ∧ says r
theorem good_says {bs : List Int} (hb : bs.length ≤ 4) (hbs : ∀ a : Int, 0 ≤ a → a < bs.length → hd (rd bs a) ≤ 6) : ∀ x : Tr, x.good bs → says x
  | .atom a n, hg => by
    obtain ⟨g0, g1, g2, g3⟩ := hg
    have := hbs a g0 g1
    exact ⟨g0, by omega, g2, by omega⟩
  | .node o l r, hg => ⟨good_says hb hbs l hg.1, good_says hb hbs r hg.2⟩
theorem nums_txt : ∀ x : Tr, says x → nums_ (txt x) = chars x
  | .atom a n, h => by
    obtain ⟨a0, a4, n1, n10⟩ := h
    show nums_ (let1 a ++ dig n) = _
    rw [nums_app, nums_let a0 a4, nums_dig (by omega) n10]; rfl
  | .node o l r, h => by
    have hl := nums_txt l h.1
    have hr := nums_txt r h.2
    simp only [txt, chars]
    split
    · rw [nums_app, nums_app, nums_wrp, hl, hr, List.append_assoc]; rfl
    · rw [nums_app, nums_app, nums_wrp, nums_wrp, hl, hr, List.append_assoc]; rfl
theorem chars_pos : ∀ x : Tr, 2 ≤ (chars x).length
  | .atom a n => by simp [chars]
  | .node o l r => by
    have hl := chars_pos l
    have hr := chars_pos r
    simp only [chars]
    split
    · rw [List.length_append]; omega
    · rw [List.length_append, List.length_cons]; unfold wr2; split <;> split <;> simp <;> omega
/-- These numbers lie in the text from a place on. -/
def Has (s : ByteArray) (i : Nat) (u : List Int) : Prop := ∀ j (h : j < u.length), i + j < s.size ∧ bt s ((i + j : Nat) : Int) = u[j]
theorem has_all {s : ByteArray} {u : List Int} (h : nums_ s = u) : Has s 0 u := by
  intro j hj
  subst h
  have : j < s.size := by rw [← nums_len]; exact hj
  rw [Nat.zero_add]
  exact ⟨this, nums_bt this⟩
theorem has_left {s : ByteArray} {i : Nat} {u v : List Int} (h : Has s i (u ++ v)) : Has s i u := by
  intro j hj
  obtain ⟨a, b⟩ := h j (by rw [List.length_append]; omega)
  exact ⟨a, by rw [b, List.getElem_append_left hj]⟩
theorem has_right {s : ByteArray} {i : Nat} {u v : List Int} (h : Has s i (u ++ v)) : Has s (i + u.length) v := by
  intro j hj
  obtain ⟨a, b⟩ := h (u.length + j) (by rw [List.length_append]; omega)
  rw [Nat.add_assoc]
  exact ⟨a, by rw [b, List.getElem_append_right (by omega)]; congr 1; omega⟩
theorem has_cons {s : ByteArray} {i : Nat} {c : Int} {u : List Int} (h : Has s i (c :: u)) : i < s.size ∧ bt s (i : Int) = c ∧ Has s (i + 1) u := by
  obtain ⟨a, b⟩ := h 0 (by simp)
  exact ⟨a, b, has_right (u := [c]) h⟩
theorem has_size {s : ByteArray} {i : Nat} {u : List Int} (h : Has s i u) (hu : 0 < u.length) : i + u.length ≤ s.size := by
  have := (h (u.length - 1) (by omega)).1
  omega
/-- The next byte, 0 at the end. -/
def pk (s : ByteArray) (i : Nat) : Int := if i = s.size then 0 else bt s (i : Int)
theorem pk_in {s : ByteArray} {i : Nat} (h : i < s.size) : pk s i = bt s (i : Int) := if_neg (by omega)

theorem pkS {s : ByteArray} {i : Nat} (h : i < s.size) {c : Int} (hc : bt s (i : Int) = c) : pk s i = c := by rw [pk_in h, hc]
theorem atom_leaf [Ror] {s : ByteArray} (hs : s.size ≤ 1000) {i : Nat} {a n : Int} (a0 : 0 ≤ a) (a4 : a < 4) (n1 : 0 ≤ n) (n10 : n < 10) (h : Has s i [65 + a, 48 + n]) (k : Nat) (hk : 3 ≤ k) : spec_l3Atom.f k s (i : Int) = some ([⟨0, a, n⟩], ((i + 2 : Nat) : Int)) := by
  obtain ⟨k, rfl⟩ : ∃ q, k = q + 3 := ⟨k - 3, by omega⟩
  obtain ⟨h1, e1, h⟩ := has_cons h
  obtain ⟨h2, e2, _⟩ := has_cons h
  have ew1 : wrap64 ((i : Int) + 1) = ((i + 1 : Nat) : Int) := by rw [w64 (by omega) (by omega)]; omega
  have ew2 : wrap64 ((i : Int) + 2) = ((i + 2 : Nat) : Int) := by rw [w64 (by omega) (by omega)]; omega
  unfold spec_l3Atom.f
  rw [if_neg (by omega), show decide ((i : Int) ≥ (s.size : Int)) = false from decide_eq_false (by omega), spec_l3Atom.j0, if_neg (by simp), if_pos (by omega), if_pos (by omega), e1, ew1, ew2, e2]
  rw [if_neg (by clear ew1 ew2; omega), if_neg (by clear ew1 ew2; omega), if_neg (by clear ew1 ew2; omega), if_neg (by clear ew1 ew2; omega), if_pos (by clear ew1 ew2; omega), if_pos (by clear ew1 ew2; omega), if_neg (by clear ew1 ew2; omega), if_neg (by clear ew1 ew2; omega), show (65 + a - 65) % 256 = a from by omega, show (48 + n - 48) % 256 = n from by omega]
def ReadsS [Ror] (s : ByteArray) (m : Nat) : Prop := ∀ y : Tr, says y → y.len ≤ m → ∀ i : Nat, Has s i (chars y) → pk s (i + (chars y).length) = 41 → Ror.f s (i : Int) = some (flat y, ((i + (chars y).length : Nat) : Int))
theorem atom_wrap [Ror] {s : ByteArray} (hs : s.size ≤ 1000) {m : Nat} (hR : ReadsS s m) {y : Tr} (hy : says y) (hm : y.len ≤ m) {i : Nat} (h : Has s i (40 :: (chars y ++ [41]))) (k : Nat) (hk : 3 ≤ k) : spec_l3Atom.f k s (i : Int) = some (flat y, ((i + (chars y).length + 2 : Nat) : Int)) := by
  obtain ⟨k, rfl⟩ : ∃ q, k = q + 3 := ⟨k - 3, by omega⟩
  obtain ⟨h1, e1, h⟩ := has_cons h
  obtain ⟨h2, e2, _⟩ := has_cons (has_right h)
  have hr := hR y hy hm (i + 1) (has_left h) (pkS h2 e2)
  have ew1 : wrap64 ((i : Int) + 1) = ((i + 1 : Nat) : Int) := by rw [w64 (by omega) (by omega)]; omega
  unfold spec_l3Atom.f
  rw [if_neg (by omega), show decide ((i : Int) ≥ (s.size : Int)) = false from decide_eq_false (by omega), spec_l3Atom.j0, if_neg (by simp), if_pos (by omega), if_pos (by omega), e1, if_pos rfl, ew1, hr, Option.bind_some]; dsimp only
  clear ew1
  rw [if_neg (by omega), if_neg (by omega), if_pos (by omega), if_pos (by omega), e2, spec_l3Atom.j1, if_neg (by simp), wr (by omega) (by omega)]
  congr 2; omega
theorem atom_eq [Ror] {s : ByteArray} (hs : s.size ≤ 1000) {m : Nat} (hR : ReadsS s m) {y : Tr} (hy : says y) (hm : y.len ≤ m) {i : Nat} (h : Has s i (wr2 (isNode y) (chars y))) (k : Nat) (hk : 3 ≤ k) : spec_l3Atom.f k s (i : Int) = some (flat y, ((i + (wr2 (isNode y) (chars y)).length : Nat) : Int)) := by
  cases y with
  | atom a n =>
    obtain ⟨a0, a4, n1, n10⟩ := hy
    exact atom_leaf hs a0 a4 (by omega) n10 h k hk
  | node o l r =>
    have e : (wr2 (isNode (Tr.node o l r)) (chars (Tr.node o l r))) = 40 :: (chars (Tr.node o l r) ++ [41]) := rfl
    rw [e] at h ⊢
    rw [atom_wrap hs hR hy hm h k hk]
    congr 2; simp; omega
theorem sA_step [Ror] {s : ByteArray} (hs : s.size ≤ 1000) {i : Nat} {n : Int} {t u : List S54} (ht2 : t.length ≤ 1000) (hu2 : u.length ≤ 1000) (hi : i < s.size) (hp : bt s (i : Int) = 38) (k : Nat) (hr : spec_l3Atom.f k s ((i + 1 : Nat) : Int) = some (u, n)) :
    spec_l3And.l0 (k + 1) s t (i : Int) = spec_l3And.l0 k s (t ++ u ++ [⟨1, 0, 0⟩]) n := by
  rw [spec_l3And.l0, if_pos (by omega), if_pos (by omega), if_pos (by omega), if_pos hp, wr (by omega) (by omega), show (i : Int) + 1 = ((i + 1 : Nat) : Int) from by omega, hr, Option.bind_some]; dsimp only
  rw [Option.bind_some, if_pos (by simp; omega), Option.bind_some, if_pos (by simp; omega), Option.bind_some, if_pos (by simp; omega), List.nil_append]
theorem sA_end [Ror] {s : ByteArray} {i : Nat} {t : List S54} (hi : i ≤ s.size) (hp : pk s i ≠ 38) (k : Nat) : spec_l3And.l0 (k + 1) s t (i : Int) = some (t, (i : Int)) := by
  rw [spec_l3And.l0, if_pos (by omega)]
  by_cases e : i = s.size
  · rw [if_neg (by omega)]
  · rw [if_pos (by omega), if_pos (by omega), if_neg (fun h => hp (by rw [pk_in (by omega)]; exact h))]
theorem sA_bad [Ror] {s : ByteArray} {t : List S54} (k : Nat) : spec_l3And.l0 (k + 1) s t (-1) = some (t, -1) := by
  rw [spec_l3And.l0, if_neg (by omega)]
theorem sB_step [Ror] {s : ByteArray} (hs : s.size ≤ 1000) {i : Nat} {n : Int} {t u : List S54} (ht2 : t.length ≤ 1000) (hu2 : u.length ≤ 1000) (hi : i < s.size) (hp : bt s (i : Int) = 124) (k : Nat) (hr : spec_l3And.f k s ((i + 1 : Nat) : Int) = some (u, n)) :
    spec_l3OrG.l0 (k + 1) s t (i : Int) = spec_l3OrG.l0 k s (t ++ u ++ [⟨2, 0, 0⟩]) n := by
  rw [spec_l3OrG.l0, if_pos (by omega), if_pos (by omega), if_pos (by omega), if_pos hp, wr (by omega) (by omega), show (i : Int) + 1 = ((i + 1 : Nat) : Int) from by omega, hr, Option.bind_some]; dsimp only
  rw [Option.bind_some, if_pos (by simp; omega), Option.bind_some, if_pos (by simp; omega), Option.bind_some, if_pos (by simp; omega), List.nil_append]
theorem sB_end [Ror] {s : ByteArray} {i : Nat} {t : List S54} (hi : i ≤ s.size) (hp : pk s i ≠ 124) (k : Nat) : spec_l3OrG.l0 (k + 1) s t (i : Int) = some (t, (i : Int)) := by
  rw [spec_l3OrG.l0, if_pos (by omega)]
  by_cases e : i = s.size
  · rw [if_neg (by omega)]
  · rw [if_pos (by omega), if_pos (by omega), if_neg (fun h => hp (by rw [pk_in (by omega)]; exact h))]
theorem sB_bad [Ror] {s : ByteArray} {t : List S54} (k : Nat) : spec_l3OrG.l0 (k + 1) s t (-1) = some (t, -1) := by
  rw [spec_l3OrG.l0, if_neg (by omega)]
theorem sLead [Ror] {s : ByteArray} {i : Nat} {n : Int} {t : List S54} {k : Nat} (hr : spec_l3Atom.f k s (i : Int) = some (t, n)) : spec_l3And.f k s (i : Int) = spec_l3And.l0 k s t n := by
  unfold spec_l3And.f
  rw [hr, Option.bind_some]
theorem sLeadB [Ror] {s : ByteArray} {i : Nat} {n : Int} {t : List S54} {k : Nat} (hr : spec_l3And.f k s (i : Int) = some (t, n)) : spec_l3OrG.f k s (i : Int) = spec_l3OrG.l0 k s t n := by
  unfold spec_l3OrG.f
  rw [hr, Option.bind_some]
theorem sAnds [Ror] {s : ByteArray} (hs : s.size ≤ 1000) {m : Nat} (hR : ReadsS s m) : ∀ x : Tr, says x → isOr x = false → x.len ≤ m + 1 → x.len ≤ 90 → ∀ (i k : Nat), 4 ≤ k → Has s i (chars x) →
    ∃ k', k ≤ k' ∧ spec_l3And.f (k + x.len) s (i : Int) = spec_l3And.l0 k' s (flat x) ((i + (chars x).length : Nat) : Int)
  | .atom a n, hx, _, _, _, i, k, hk, h => by
    obtain ⟨a0, a4, n1, n10⟩ := hx
    exact ⟨k + 1, by omega, sLead (atom_leaf hs a0 a4 (by omega) n10 h _ (by omega))⟩
  | .node o l r, hx, ho, hm, h9, i, k, hk, h => by
    have ho : o = false := ho
    subst ho
    simp only [Tr.len] at hm h9 ⊢
    have ll := l.len_pos
    have lr := r.len_pos
    have e : chars (.node false l r) = wr2 (isOr l) (chars l) ++ 38 :: wr2 (isNode r) (chars r) := by simp only [chars]; rfl
    rw [e] at h ⊢
    have hl := has_left h
    obtain ⟨h2, e2, h3⟩ := has_cons (has_right h)
    have key : ∃ k', k + 1 ≤ k' ∧ spec_l3And.f (k + (l.len + r.len + 1)) s (i : Int) = spec_l3And.l0 k' s (flat l) ((i + (wr2 (isOr l) (chars l)).length : Nat) : Int) := by
      by_cases hq : isOr l = true
      · have el : wr2 (isOr l) (chars l) = 40 :: (chars l ++ [41]) := by unfold wr2; rw [if_pos hq]
        rw [el] at hl ⊢
        refine ⟨k + (l.len + r.len + 1), by omega, ?_⟩
        rw [sLead (atom_wrap hs hR hx.1 (by omega) hl _ (by omega))]
        congr 2; simp; omega
      · have el : wr2 (isOr l) (chars l) = chars l := by unfold wr2; rw [if_neg hq]
        rw [el] at hl ⊢
        obtain ⟨k', hk', e'⟩ := sAnds hs hR l hx.1 (by simpa using hq) (by omega) (by omega) i (k + (r.len + 1)) (by omega) hl
        exact ⟨k', by omega, by rw [show k + (l.len + r.len + 1) = k + (r.len + 1) + l.len from by omega]; exact e'⟩
    obtain ⟨k', hk', e'⟩ := key
    obtain ⟨k', rfl⟩ : ∃ q, k' = q + 1 := ⟨k' - 1, by omega⟩
    refine ⟨k', by omega, ?_⟩
    rw [e', sA_step hs (by rw [flat_len]; omega) (by rw [flat_len]; omega) h2 e2 k' (atom_eq hs hR hx.2 (by omega) h3 k' (by omega))]
    simp only [flat, Bool.false_eq_true, if_false]
    congr 2; rw [List.length_append, List.length_cons]; omega
theorem sAnd_eq [Ror] {s : ByteArray} (hs : s.size ≤ 1000) {m : Nat} (hR : ReadsS s m) {x : Tr} (hx : says x) (hm : x.len ≤ m + 1) (h9 : x.len ≤ 90) {i : Nat} (h : Has s i (wr2 (isOr x) (chars x))) (hp : pk s (i + (wr2 (isOr x) (chars x)).length) ≠ 38) (hm2 : isOr x = true → x.len ≤ m) (k : Nat) (hk : x.len + 4 ≤ k) :
    spec_l3And.f k s (i : Int) = some (flat x, ((i + (wr2 (isOr x) (chars x)).length : Nat) : Int)) := by
  have lx := x.len_pos
  by_cases ho : isOr x = true
  · have e : wr2 (isOr x) (chars x) = 40 :: (chars x ++ [41]) := by unfold wr2; rw [if_pos ho]
    rw [e] at h hp ⊢
    have hz := has_size h (by simp)
    have el : (40 :: (chars x ++ [41])).length = (chars x).length + 2 := by simp
    rw [el] at hp hz ⊢
    obtain ⟨k, rfl⟩ : ∃ q, k = q + 1 := ⟨k - 1, by omega⟩
    rw [sLead (atom_wrap hs hR hx (hm2 ho) h _ (by omega)), show i + (chars x).length + 2 = i + ((chars x).length + 2) from by omega, sA_end (by omega) hp]
  · have e : wr2 (isOr x) (chars x) = chars x := by unfold wr2; rw [if_neg ho]
    rw [e] at h hp ⊢
    have hz := has_size h (by have := chars_pos x; omega)
    obtain ⟨k', hk', e'⟩ := sAnds hs hR x hx (by simpa using ho) hm h9 i (k - x.len) (by omega) h
    obtain ⟨k', rfl⟩ : ∃ q, k' = q + 1 := ⟨k' - 1, by omega⟩
    rw [show k - x.len + x.len = k from by omega] at e'
    rw [e', sA_end (by omega) hp]
theorem sOrs [Ror] {s : ByteArray} (hs : s.size ≤ 1000) {m : Nat} (hR : ReadsS s m) : ∀ x : Tr, says x → x.len ≤ m + 1 → x.len ≤ 90 → ∀ (i k : Nat), 100 ≤ k → Has s i (chars x) → pk s (i + (chars x).length) ≠ 38 →
    ∃ k', k ≤ k' ∧ spec_l3OrG.f (k + x.len) s (i : Int) = spec_l3OrG.l0 k' s (flat x) ((i + (chars x).length : Nat) : Int)
  | .atom a n, hx, hm, h9, i, k, hk, h, hp => by
    refine ⟨k + 1, by omega, ?_⟩
    exact sLeadB (sAnd_eq (x := .atom a n) hs hR hx hm h9 h hp (fun h => by cases h) _ (by omega))
  | .node false l r, hx, hm, h9, i, k, hk, h, hp => by
    refine ⟨k + (Tr.node false l r).len, by omega, ?_⟩
    exact sLeadB (sAnd_eq (x := .node false l r) hs hR hx hm h9 h hp (fun h => by cases h) _ (by omega))
  | .node true l r, hx, hm, h9, i, k, hk, h, hp => by
    simp only [Tr.len] at hm h9 ⊢
    have ll := l.len_pos
    have lr := r.len_pos
    have e : chars (.node true l r) = chars l ++ 124 :: wr2 (isOr r) (chars r) := by simp only [chars]; rfl
    rw [e] at h hp ⊢
    rw [List.length_append, List.length_cons] at hp
    have hl := has_left h
    obtain ⟨h2, e2, h3⟩ := has_cons (has_right h)
    obtain ⟨k', hk', e'⟩ := sOrs hs hR l hx.1 (by omega) (by omega) i (k + (r.len + 1)) (by omega) hl (by rw [pk_in h2, e2]; omega)
    obtain ⟨k', rfl⟩ : ∃ q, k' = q + 1 := ⟨k' - 1, by omega⟩
    have br := sAnd_eq hs hR hx.2 (by omega) (by omega) h3 (by rw [show i + (chars l).length + 1 + (wr2 (isOr r) (chars r)).length = i + ((chars l).length + ((wr2 (isOr r) (chars r)).length + 1)) from by omega]; exact hp) (fun _ => by omega) k' (by omega)
    refine ⟨k', by omega, ?_⟩
    rw [show k + (l.len + r.len + 1) = k + (r.len + 1) + l.len from by omega, e', sB_step hs (by rw [flat_len]; omega) (by rw [flat_len]; omega) h2 e2 k' br]
    simp only [flat, if_true]
    congr 2; rw [List.length_append, List.length_cons]; omega
theorem sReads_all {s : ByteArray} (hs : s.size ≤ 1000) : ∀ n : Nat, n ≤ 90 → ∀ x : Tr, says x → x.len ≤ n → ∀ i : Nat, Has s i (chars x) → pk s (i + (chars x).length) ≠ 38 → pk s (i + (chars x).length) ≠ 124 → (ror n).f s (i : Int) = some (flat x, ((i + (chars x).length : Nat) : Int))
  | 0, _, x, _, h0, _, _, _, _ => by have := x.len_pos; omega
  | n + 1, hn, x, hx, hl, i, h, h38, h124 => by
    letI : Ror := ror n
    have hR : ReadsS s n := fun y hy hyl j hj h41 => sReads_all hs n (by omega) y hy hyl j hj (by rw [h41]; omega) (by rw [h41]; omega)
    have hz := has_size h (by have := chars_pos x; omega)
    obtain ⟨k', hk', e'⟩ := sOrs hs hR x hx hl (by omega) i (200 - x.len) (by omega) h h38
    obtain ⟨k', rfl⟩ : ∃ q, k' = q + 1 := ⟨k' - 1, by omega⟩
    rw [show 200 - x.len + x.len = 200 from by omega] at e'
    show spec_l3OrG.f 200 s (i : Int) = _
    rw [e', sB_end (by omega) h124]
theorem l3Or_eq {s : ByteArray} (hs : s.size ≤ 1000) {x : Tr} (hx : says x) (h9 : x.len ≤ 9) (h : nums_ s = chars x) (k : Nat) : spec_l3Or.f k s 0 = some (flat x, (s.size : Int)) := by
  have hz : (chars x).length = s.size := by rw [← h, nums_len]
  have hp : pk s (0 + (chars x).length) = 0 := by unfold pk; rw [if_pos (by omega)]
  have e := sReads_all hs 90 (by omega) x hx (by omega) 0 (has_all h) (by rw [hp]; omega) (by rw [hp]; omega)
  rw [hz, Nat.zero_add] at e
  exact e
/-- A reader's answer from here on: marks and the place behind them, or -1. -/
def GivesS (o : Option (List S54 × Int)) (s : ByteArray) (i : Nat) : Prop := ∃ (t : List S54) (n : Int), o = some (t, n) ∧ ((n = -1 ∧ t.length + 2 * i ≤ 2 * s.size + 2) ∨ ∃ i' : Nat, n = (i' : Int) ∧ i ≤ i' ∧ i' ≤ s.size ∧ t.length + 2 * i ≤ 2 * i')
/-- .. with no marks where it fails. -/
def GivesA (o : Option (List S54 × Int)) (s : ByteArray) (i : Nat) : Prop := ∃ (t : List S54) (n : Int), o = some (t, n) ∧ ((n = -1 ∧ t.length = 0) ∨ ∃ i' : Nat, n = (i' : Int) ∧ i ≤ i' ∧ i' ≤ s.size ∧ t.length + 2 * i ≤ 2 * i')
theorem atom_tot [Ror] {s : ByteArray} (hs : s.size ≤ 90) {i : Nat} (hi : i ≤ s.size) (hR : ∀ j : Nat, i < j → j ≤ s.size → GivesS (Ror.f s (j : Int)) s j) (k : Nat) (hk : 3 ≤ k) : GivesA (spec_l3Atom.f k s (i : Int)) s i := by
  obtain ⟨k, rfl⟩ : ∃ q, k = q + 3 := ⟨k - 3, by omega⟩
  have nil : GivesA (some (([] : List S54), (-1 : Int))) s i := ⟨[], -1, rfl, .inl ⟨rfl, rfl⟩⟩
  have ew1 : wrap64 ((i : Int) + 1) = ((i + 1 : Nat) : Int) := by rw [w64 (by omega) (by omega)]; omega
  have ew2 : wrap64 ((i : Int) + 2) = ((i + 2 : Nat) : Int) := by rw [w64 (by omega) (by omega)]; omega
  unfold spec_l3Atom.f
  rw [if_neg (by omega), spec_l3Atom.j0, ew1, ew2]
  clear ew1 ew2
  by_cases e : i = s.size
  · rw [if_pos (by simp; omega)]; exact nil
  rw [if_neg (by simp; omega), if_pos (by omega), if_pos (by omega)]
  by_cases h40 : bt s (i : Int) = 40
  · rw [if_pos h40]
    obtain ⟨t, n, e1, e2⟩ := hR (i + 1) (by omega) (by omega)
    rw [e1, Option.bind_some]; dsimp only
    rcases e2 with ⟨rfl, e3⟩ | ⟨i', rfl, e3, e4, e5⟩
    · rw [if_pos (by omega), spec_l3Atom.j1, if_pos rfl]; exact nil
    rw [if_neg (by omega)]
    by_cases hz : i' = s.size
    · rw [if_pos (by omega), spec_l3Atom.j1, if_pos rfl]; exact nil
    rw [if_neg (by omega), if_pos (by omega), if_pos (by omega), spec_l3Atom.j1]
    by_cases h41 : bt s (i' : Int) = 41
    · rw [if_neg (by simp [h41]), wr (by omega) (by omega)]
      exact ⟨t, _, rfl, .inr ⟨i' + 1, by omega, by omega, by omega, by omega⟩⟩
    · rw [if_pos (by simpa using h41)]; exact nil
  rw [if_neg h40]
  by_cases c0 : ((i + 2 : Nat) : Int) > (s.size : Int)
  · rw [if_pos c0]; exact nil
  rw [if_neg c0]
  by_cases c1 : bt s (i : Int) < 65
  · rw [if_pos c1]; exact nil
  rw [if_neg c1]
  by_cases c2 : bt s (i : Int) > 68
  · rw [if_pos c2]; exact nil
  rw [if_neg c2, if_pos (by omega), if_pos (by omega)]
  by_cases c3 : bt s ((i + 1 : Nat) : Int) < 48
  · rw [if_pos c3]; exact nil
  rw [if_neg c3]
  by_cases c4 : bt s ((i + 1 : Nat) : Int) > 57
  · rw [if_pos c4]; exact nil
  rw [if_neg c4]
  exact ⟨[_], _, rfl, .inr ⟨i + 2, rfl, by omega, by omega, by simp; omega⟩⟩
theorem sA_tot [Ror] {s : ByteArray} (hs : s.size ≤ 90) {b : Nat} (hR : ∀ j : Nat, b < j → j ≤ s.size → ∀ k, 3 ≤ k → GivesA (spec_l3Atom.f k s (j : Int)) s j) (d : Nat) : ∀ (k i : Nat) (t : List S54), b ≤ i → i ≤ s.size → s.size - i ≤ d → t.length + 2 * b ≤ 2 * i → d + 3 + 2 ≤ k → GivesS (spec_l3And.l0 k s t (i : Int)) s b := by
  induction d with
  | zero =>
    intro k i t hb hi hd ht hk
    obtain ⟨k, rfl⟩ : ∃ m, k = m + 1 := ⟨k - 1, by omega⟩
    rw [sA_end hi (by unfold pk; rw [if_pos (by omega)]; omega)]
    exact ⟨t, _, rfl, .inr ⟨i, rfl, hb, hi, ht⟩⟩
  | succ d ih =>
    intro k i t hb hi hd ht hk
    obtain ⟨k, rfl⟩ : ∃ m, k = m + 2 := ⟨k - 2, by omega⟩
    by_cases hc : pk s i = 38
    · have hne : i ≠ s.size := fun h => by subst h; unfold pk at hc; rw [if_pos rfl] at hc; omega
      have hlt : i < s.size := by omega
      obtain ⟨u, n, e1, e2⟩ := hR (i + 1) (by omega) (by omega) (k + 1) (by omega)
      rcases e2 with ⟨rfl, e3⟩ | ⟨i', rfl, e3, e4, e5⟩
      · rw [sA_step (by omega) (by omega) (by omega) hlt (by rw [← pk_in hlt]; exact hc) (k + 1) e1, sA_bad]
        refine ⟨_, _, rfl, .inl ⟨rfl, ?_⟩⟩
        rw [List.length_append, List.length_append]; simp; omega
      · rw [sA_step (by omega) (by omega) (by omega) hlt (by rw [← pk_in hlt]; exact hc) (k + 1) e1]
        refine ih (k + 1) i' _ (by omega) e4 (by omega) ?_ (by omega)
        rw [List.length_append, List.length_append]; simp; omega
    · rw [sA_end hi hc]
      exact ⟨t, _, rfl, .inr ⟨i, rfl, hb, hi, ht⟩⟩
theorem sB_tot [Ror] {s : ByteArray} (hs : s.size ≤ 90) {b : Nat} (hR : ∀ j : Nat, b < j → j ≤ s.size → ∀ k, 98 ≤ k → GivesS (spec_l3And.f k s (j : Int)) s j) (d : Nat) : ∀ (k i : Nat) (t : List S54), b ≤ i → i ≤ s.size → s.size - i ≤ d → t.length + 2 * b ≤ 2 * i → d + 98 + 2 ≤ k → GivesS (spec_l3OrG.l0 k s t (i : Int)) s b := by
  induction d with
  | zero =>
    intro k i t hb hi hd ht hk
    obtain ⟨k, rfl⟩ : ∃ m, k = m + 1 := ⟨k - 1, by omega⟩
    rw [sB_end hi (by unfold pk; rw [if_pos (by omega)]; omega)]
    exact ⟨t, _, rfl, .inr ⟨i, rfl, hb, hi, ht⟩⟩
  | succ d ih =>
    intro k i t hb hi hd ht hk
    obtain ⟨k, rfl⟩ : ∃ m, k = m + 2 := ⟨k - 2, by omega⟩
    by_cases hc : pk s i = 124
    · have hne : i ≠ s.size := fun h => by subst h; unfold pk at hc; rw [if_pos rfl] at hc; omega
      have hlt : i < s.size := by omega
      obtain ⟨u, n, e1, e2⟩ := hR (i + 1) (by omega) (by omega) (k + 1) (by omega)
      rcases e2 with ⟨rfl, e3⟩ | ⟨i', rfl, e3, e4, e5⟩
      · rw [sB_step (by omega) (by omega) (by omega) hlt (by rw [← pk_in hlt]; exact hc) (k + 1) e1, sB_bad]
        refine ⟨_, _, rfl, .inl ⟨rfl, ?_⟩⟩
        rw [List.length_append, List.length_append]; simp; omega
      · rw [sB_step (by omega) (by omega) (by omega) hlt (by rw [← pk_in hlt]; exact hc) (k + 1) e1]
        refine ih (k + 1) i' _ (by omega) e4 (by omega) ?_ (by omega)
        rw [List.length_append, List.length_append]; simp; omega
    · rw [sB_end hi hc]
      exact ⟨t, _, rfl, .inr ⟨i, rfl, hb, hi, ht⟩⟩
theorem and_tot [Ror] {s : ByteArray} (hs : s.size ≤ 90) {i : Nat} (hi : i ≤ s.size) (hR : ∀ j : Nat, i < j → j ≤ s.size → GivesS (Ror.f s (j : Int)) s j) (k : Nat) (hk : 98 ≤ k) : GivesS (spec_l3And.f k s (i : Int)) s i := by
  obtain ⟨t, n, e1, e2⟩ := atom_tot hs hi hR k (by omega)
  rw [sLead e1]
  rcases e2 with ⟨rfl, e3⟩ | ⟨i', rfl, e3, e4, e5⟩
  · obtain ⟨k, rfl⟩ : ∃ m, k = m + 1 := ⟨k - 1, by omega⟩
    rw [sA_bad]
    exact ⟨t, _, rfl, .inl ⟨rfl, by omega⟩⟩
  · exact sA_tot hs (fun j hj hj2 k hk => atom_tot hs hj2 (fun q hq hq2 => hR q (by omega) hq2) k hk) 90 k i' t e3 e4 (by omega) e5 (by omega)
theorem or_tot [Ror] {s : ByteArray} (hs : s.size ≤ 90) {i : Nat} (hi : i ≤ s.size) (hR : ∀ j : Nat, i < j → j ≤ s.size → GivesS (Ror.f s (j : Int)) s j) : GivesS (spec_l3OrG.f 200 s (i : Int)) s i := by
  obtain ⟨t, n, e1, e2⟩ := and_tot hs hi hR 200 (by omega)
  rw [sLeadB e1]
  rcases e2 with ⟨rfl, e3⟩ | ⟨i', rfl, e3, e4, e5⟩
  · rw [sB_bad]
    exact ⟨t, _, rfl, .inl ⟨rfl, by omega⟩⟩
  · exact sB_tot hs (fun j hj hj2 k hk => and_tot hs hj2 (fun q hq hq2 => hR q (by omega) hq2) k hk) 90 200 i' t e3 e4 (by omega) e5 (by omega)
theorem ror_tot {s : ByteArray} (hs : s.size ≤ 90) : ∀ n i : Nat, i ≤ s.size → s.size - i < n → GivesS ((ror n).f s (i : Int)) s i
  | 0, i, _, h => by omega
  | n + 1, i, hi, h => by
    letI : Ror := ror n
    exact or_tot hs hi (fun j hj hj2 => ror_tot hs n j hj2 (by omega))
theorem l3Or_some {s : ByteArray} (hs : s.size ≤ 80) (k : Nat) : ∃ (t : List S54) (n : Int), spec_l3Or.f k s 0 = some (t, n) ∧ t.length ≤ 200 := by
  obtain ⟨t, n, e1, e2⟩ := ror_tot (s := s) (by omega) 90 0 (by omega) (by omega)
  refine ⟨t, n, e1, ?_⟩
  rcases e2 with ⟨_, e3⟩ | ⟨i', _, _, e4, e5⟩ <;> omega

theorem peek_eq {s : ByteArray} {i : Nat} (h : i ≤ s.size) : impl_termReader_peek.f s (i : Int) = some (pk s i, s, (i : Int)) := by
  unfold impl_termReader_peek.f pk
  by_cases e : i = s.size
  · rw [if_pos (by omega), if_pos e]
  · rw [if_neg (by omega), if_pos (by omega), if_pos (by omega), if_neg e]
theorem mn_at {s : ByteArray} {i : Nat} (h : i < s.size) (hs : s.size ≤ 1000) : mn (wrap64 ((i : Int) + 1)) (s.size : Int) = ((i + 1 : Nat) : Int) := by
  rw [w64 (by omega) (by omega)]; unfold mn; rw [if_neg (by omega)]; omega
theorem part_atom [Rdr] {s : ByteArray} (hs : s.size ≤ 1000) {i : Nat} {a n : Int} (a0 : 0 ≤ a) (a4 : a < 4) (n1 : 1 ≤ n) (n10 : n < 10) (h : Has s i [65 + a, 48 + n]) : impl_termReader_part.f 200 s (i : Int) = some ([⟨0, a, n⟩], s, ((i + 2 : Nat) : Int)) := by
  obtain ⟨h1, e1, h⟩ := has_cons h
  obtain ⟨h2, e2, _⟩ := has_cons h
  unfold impl_termReader_part.f
  rw [peek_eq (by omega), Option.bind_some]; dsimp only
  rw [pk_in h1, e1, if_neg (by omega), mn_at h1 hs, peek_eq (by omega), Option.bind_some]; dsimp only
  rw [pk_in h2, e2, if_neg (by omega), if_neg (by omega), if_neg (by omega), if_neg (by omega), wr (by omega) (by omega), show (65 + a - 65) % 256 = a from by omega, show (48 + n - 48) % 256 = n from by omega]
  rfl
theorem part_wrap [Rdr] {s : ByteArray} (hs : s.size ≤ 1000) {i : Nat} {y : Tr} (h : Has s i (40 :: (chars y ++ [41]))) (hR : Rdr.f s ((i + 1 : Nat) : Int) = some (flat y, s, ((i + 1 + (chars y).length : Nat) : Int))) : impl_termReader_part.f 200 s (i : Int) = some (flat y, s, ((i + (chars y).length + 2 : Nat) : Int)) := by
  obtain ⟨h1, e1, h⟩ := has_cons h
  obtain ⟨h2, e2, _⟩ := has_cons (has_right h)
  have hy := y.len_pos
  unfold impl_termReader_part.f
  rw [peek_eq (by omega), Option.bind_some]; dsimp only
  rw [pk_in h1, e1, if_pos rfl, mn_at h1 hs, hR, Option.bind_some]; dsimp only
  rw [if_neg (by rw [flat_len]; omega), peek_eq (by omega), Option.bind_some]; dsimp only
  rw [pk_in h2, e2, impl_termReader_part.j0, if_neg (by simp), wr (by omega) (by omega)]
  congr 3; omega
theorem stepA [Rdr] {s : ByteArray} (hs : s.size ≤ 1000) {i i' : Nat} {t u : List S54} (ht : 0 < t.length) (ht2 : t.length ≤ 100) (hu : 0 < u.length) (hu2 : u.length ≤ 100) (hi : i < s.size) (hp : pk s i = 38) (hr : impl_termReader_part.f 200 s ((i + 1 : Nat) : Int) = some (u, s, (i' : Int))) (k : Nat) :
    impl_termReader_joinedA.l0 (k + 2) 38 1 t s (i : Int) = impl_termReader_joinedA.l0 k 38 1 (t ++ u ++ [⟨1, 0, 0⟩]) s (i' : Int) := by
  rw [impl_termReader_joinedA.l0, if_pos (by omega), peek_eq (by omega), Option.bind_some]; dsimp only
  rw [hp, impl_termReader_joinedA.j1, if_pos (by simp), wr (by omega) (by omega), show (i : Int) + 1 = ((i + 1 : Nat) : Int) from by omega, hr, Option.bind_some]; dsimp only
  rw [if_neg (by omega), if_pos (by omega), Option.bind_some, if_pos (by rw [List.length_append]; omega)]
theorem endA [Rdr] {s : ByteArray} {i : Nat} {t : List S54} (ht : 0 < t.length) (hi : i ≤ s.size) (hp : pk s i ≠ 38) (k : Nat) : impl_termReader_joinedA.l0 (k + 2) 38 1 t s (i : Int) = some (t, s, (i : Int)) := by
  rw [impl_termReader_joinedA.l0, if_pos (by omega), peek_eq hi, Option.bind_some]; dsimp only
  rw [show (pk s i == 38) = false from by simpa using hp, impl_termReader_joinedA.j1, if_neg (by simp)]
theorem stepB [Rdr] {s : ByteArray} (hs : s.size ≤ 1000) {i i' : Nat} {t u : List S54} (ht : 0 < t.length) (ht2 : t.length ≤ 100) (hu : 0 < u.length) (hu2 : u.length ≤ 100) (hi : i < s.size) (hp : pk s i = 124) (hr : impl_termReader_both.f 200 s ((i + 1 : Nat) : Int) = some (u, s, (i' : Int))) (k : Nat) :
    impl_termReader_joinedB.l0 (k + 2) 124 2 t s (i : Int) = impl_termReader_joinedB.l0 k 124 2 (t ++ u ++ [⟨2, 0, 0⟩]) s (i' : Int) := by
  rw [impl_termReader_joinedB.l0, if_pos (by omega), peek_eq (by omega), Option.bind_some]; dsimp only
  rw [hp, impl_termReader_joinedB.j1, if_pos (by simp), wr (by omega) (by omega), show (i : Int) + 1 = ((i + 1 : Nat) : Int) from by omega, hr, Option.bind_some]; dsimp only
  rw [if_neg (by omega), if_pos (by omega), Option.bind_some, if_pos (by rw [List.length_append]; omega)]
theorem endB [Rdr] {s : ByteArray} {i : Nat} {t : List S54} (ht : 0 < t.length) (hi : i ≤ s.size) (hp : pk s i ≠ 124) (k : Nat) : impl_termReader_joinedB.l0 (k + 2) 124 2 t s (i : Int) = some (t, s, (i : Int)) := by
  rw [impl_termReader_joinedB.l0, if_pos (by omega), peek_eq hi, Option.bind_some]; dsimp only
  rw [show (pk s i == 124) = false from by simpa using hp, impl_termReader_joinedB.j1, if_neg (by simp)]
/-- What a reader within brackets does. -/
def Reads [Rdr] (s : ByteArray) (m : Nat) : Prop := ∀ y : Tr, says y → y.len ≤ m → ∀ i : Nat, Has s i (chars y) → pk s (i + (chars y).length) = 41 → Rdr.f s (i : Int) = some (flat y, s, ((i + (chars y).length : Nat) : Int))
theorem wrapped [Rdr] {s : ByteArray} (hs : s.size ≤ 1000) {m : Nat} (hR : Reads s m) {y : Tr} (hy : says y) (hm : y.len ≤ m) {i : Nat} (h : Has s i (40 :: (chars y ++ [41]))) : impl_termReader_part.f 200 s (i : Int) = some (flat y, s, ((i + (chars y).length + 2 : Nat) : Int)) := by
  refine part_wrap hs h ?_
  obtain ⟨_, _, h2⟩ := has_cons h
  obtain ⟨h3, e3, _⟩ := has_cons (has_right h2)
  exact hR y hy hm (i + 1) (has_left h2) (by rw [pk_in h3, e3])
/-- A body, or what is in brackets. -/
theorem part_eq [Rdr] {s : ByteArray} (hs : s.size ≤ 1000) {m : Nat} (hR : Reads s m) {y : Tr} (hy : says y) (hm : y.len ≤ m) {i : Nat} (h : Has s i (wr2 (isNode y) (chars y))) : impl_termReader_part.f 200 s (i : Int) = some (flat y, s, ((i + (wr2 (isNode y) (chars y)).length : Nat) : Int)) := by
  cases y with
  | atom a n =>
    obtain ⟨a0, a4, n1, n10⟩ := hy
    exact part_atom hs a0 a4 n1 n10 h
  | node o l r =>
    have e : (wr2 (isNode (Tr.node o l r)) (chars (Tr.node o l r))) = 40 :: (chars (Tr.node o l r) ++ [41]) := rfl
    rw [e] at h ⊢
    rw [wrapped hs hR hy hm h]
    congr 3; simp; omega
theorem lead [Rdr] {s : ByteArray} {i i' : Nat} {t : List S54} (hr : impl_termReader_part.f 200 s (i : Int) = some (t, s, (i' : Int))) (k : Nat) (c q : Int) : impl_termReader_joinedA.f k s (i : Int) 0 c q = impl_termReader_joinedA.l0 k c q t s (i' : Int) := by
  unfold impl_termReader_joinedA.f
  rw [hr, Option.bind_some]
theorem ands [Rdr] {s : ByteArray} (hs : s.size ≤ 1000) {m : Nat} (hR : Reads s m) : ∀ x : Tr, says x → isOr x = false → x.len ≤ m + 1 → x.len ≤ 90 → ∀ (i k : Nat), Has s i (chars x) →
    ∃ k', k ≤ k' ∧ impl_termReader_joinedA.f (k + 2 * x.len) s (i : Int) 0 38 1 = impl_termReader_joinedA.l0 k' 38 1 (flat x) s ((i + (chars x).length : Nat) : Int)
  | .atom a n, hx, _, _, _, i, k, h => by
    obtain ⟨a0, a4, n1, n10⟩ := hx
    exact ⟨k + 2, by omega, lead (part_atom hs a0 a4 n1 n10 h) _ _ _⟩
  | .node o l r, hx, ho, hm, h9, i, k, h => by
    have ho : o = false := ho
    subst ho
    simp only [Tr.len] at hm h9 ⊢
    have ll := l.len_pos
    have lr := r.len_pos
    have e : chars (.node false l r) = wr2 (isOr l) (chars l) ++ 38 :: wr2 (isNode r) (chars r) := by simp only [chars]; rfl
    rw [e] at h ⊢
    have hl := has_left h
    obtain ⟨h2, e2, h3⟩ := has_cons (has_right h)
    have pr := part_eq hs hR hx.2 (by omega) h3
    have key : ∃ k', k + 2 ≤ k' ∧ impl_termReader_joinedA.f (k + 2 * (l.len + r.len + 1)) s (i : Int) 0 38 1 = impl_termReader_joinedA.l0 k' 38 1 (flat l) s ((i + (wr2 (isOr l) (chars l)).length : Nat) : Int) := by
      by_cases hq : isOr l = true
      · have el : wr2 (isOr l) (chars l) = 40 :: (chars l ++ [41]) := by unfold wr2; rw [if_pos hq]
        rw [el] at hl ⊢
        refine ⟨k + 2 * (l.len + r.len + 1), by omega, ?_⟩
        rw [lead (wrapped hs hR hx.1 (by omega) hl)]
        congr 2; simp; omega
      · have el : wr2 (isOr l) (chars l) = chars l := by unfold wr2; rw [if_neg hq]
        rw [el] at hl ⊢
        obtain ⟨k', hk', e'⟩ := ands hs hR l hx.1 (by simpa using hq) (by omega) (by omega) i (k + 2 * (r.len + 1)) hl
        exact ⟨k', by omega, by rw [show k + 2 * (l.len + r.len + 1) = k + 2 * (r.len + 1) + 2 * l.len from by omega]; exact e'⟩
    obtain ⟨k', hk', e'⟩ := key
    obtain ⟨k', rfl⟩ : ∃ q, k' = q + 2 := ⟨k' - 2, by omega⟩
    refine ⟨k', by omega, ?_⟩
    rw [e', stepA hs (by rw [flat_len]; omega) (by rw [flat_len]; omega) (by rw [flat_len]; omega) (by rw [flat_len]; omega) h2 (by rw [pk_in h2, e2]) pr k']
    simp only [flat, Bool.false_eq_true, if_false]
    congr 2; rw [List.length_append, List.length_cons]; omega
theorem both_eq [Rdr] {s : ByteArray} (hs : s.size ≤ 1000) {m : Nat} (hR : Reads s m) {x : Tr} (hx : says x) (hm : x.len ≤ m + 1) (h9 : x.len ≤ 90) {i : Nat} (h : Has s i (wr2 (isOr x) (chars x))) (hp : pk s (i + (wr2 (isOr x) (chars x)).length) ≠ 38) (hm2 : isOr x = true → x.len ≤ m) :
    impl_termReader_both.f 200 s (i : Int) = some (flat x, s, ((i + (wr2 (isOr x) (chars x)).length : Nat) : Int)) := by
  have lx := x.len_pos
  unfold impl_termReader_both.f
  by_cases ho : isOr x = true
  · have e : wr2 (isOr x) (chars x) = 40 :: (chars x ++ [41]) := by unfold wr2; rw [if_pos ho]
    rw [e] at h hp ⊢
    have hz := has_size h (by simp)
    have el : (40 :: (chars x ++ [41])).length = (chars x).length + 2 := by simp
    rw [el] at hp hz ⊢
    rw [lead (wrapped hs hR hx (hm2 ho) h), show i + (chars x).length + 2 = i + ((chars x).length + 2) from by omega, endA (k := 198) (by rw [flat_len]; omega) (by omega) hp]
    rfl
  · have e : wr2 (isOr x) (chars x) = chars x := by unfold wr2; rw [if_neg ho]
    rw [e] at h hp ⊢
    have hz := has_size h (by have := chars_pos x; omega)
    obtain ⟨k', hk', e'⟩ := ands hs hR x hx (by simpa using ho) hm h9 i (200 - 2 * x.len) h
    obtain ⟨k', rfl⟩ : ∃ q, k' = q + 2 := ⟨k' - 2, by omega⟩
    rw [show 200 - 2 * x.len + 2 * x.len = 200 from by omega] at e'
    rw [e', endA (by rw [flat_len]; omega) (by omega) hp]
    rfl
theorem leadB [Rdr] {s : ByteArray} {i i' : Nat} {t : List S54} (hr : impl_termReader_both.f 200 s (i : Int) = some (t, s, (i' : Int))) (k : Nat) (c q : Int) : impl_termReader_joinedB.f k s (i : Int) 0 c q = impl_termReader_joinedB.l0 k c q t s (i' : Int) := by
  unfold impl_termReader_joinedB.f
  rw [hr, Option.bind_some]
theorem ors [Rdr] {s : ByteArray} (hs : s.size ≤ 1000) {m : Nat} (hR : Reads s m) : ∀ x : Tr, says x → x.len ≤ m + 1 → x.len ≤ 90 → ∀ (i k : Nat), Has s i (chars x) → pk s (i + (chars x).length) ≠ 38 →
    ∃ k', k ≤ k' ∧ impl_termReader_joinedB.f (k + 2 * x.len) s (i : Int) 0 124 2 = impl_termReader_joinedB.l0 k' 124 2 (flat x) s ((i + (chars x).length : Nat) : Int)
  | .atom a n, hx, hm, h9, i, k, h, hp => by
    refine ⟨k + 2, by omega, ?_⟩
    exact leadB (both_eq (x := .atom a n) hs hR hx hm h9 h hp (fun h => by cases h)) _ _ _
  | .node false l r, hx, hm, h9, i, k, h, hp => by
    refine ⟨k + 2 * (Tr.node false l r).len, by omega, ?_⟩
    exact leadB (both_eq (x := .node false l r) hs hR hx hm h9 h hp (fun h => by cases h)) _ _ _
  | .node true l r, hx, hm, h9, i, k, h, hp => by
    simp only [Tr.len] at hm h9 ⊢
    have ll := l.len_pos
    have lr := r.len_pos
    have e : chars (.node true l r) = chars l ++ 124 :: wr2 (isOr r) (chars r) := by simp only [chars]; rfl
    rw [e] at h hp ⊢
    rw [List.length_append, List.length_cons] at hp
    have hl := has_left h
    obtain ⟨h2, e2, h3⟩ := has_cons (has_right h)
    obtain ⟨k', hk', e'⟩ := ors hs hR l hx.1 (by omega) (by omega) i (k + 2 * (r.len + 1)) hl (by rw [pk_in h2, e2]; omega)
    obtain ⟨k', rfl⟩ : ∃ q, k' = q + 2 := ⟨k' - 2, by omega⟩
    have br := both_eq hs hR hx.2 (by omega) (by omega) h3 (by rw [show i + (chars l).length + 1 + (wr2 (isOr r) (chars r)).length = i + ((chars l).length + ((wr2 (isOr r) (chars r)).length + 1)) from by omega]; exact hp) (fun _ => by omega)
    refine ⟨k', by omega, ?_⟩
    rw [show k + 2 * (l.len + r.len + 1) = k + 2 * (r.len + 1) + 2 * l.len from by omega, e', stepB hs (by rw [flat_len]; omega) (by rw [flat_len]; omega) (by rw [flat_len]; omega) (by rw [flat_len]; omega) h2 (by rw [pk_in h2, e2]) br k']
    simp only [flat, if_true]
    congr 2; rw [List.length_append, List.length_cons]; omega
theorem reads_all {s : ByteArray} (hs : s.size ≤ 1000) : ∀ n : Nat, n ≤ 90 → ∀ x : Tr, says x → x.len ≤ n → ∀ i : Nat, Has s i (chars x) → pk s (i + (chars x).length) ≠ 38 → pk s (i + (chars x).length) ≠ 124 → (rdr n).f s (i : Int) = some (flat x, s, ((i + (chars x).length : Nat) : Int))
  | 0, _, x, _, h0, _, _, _, _ => by have := x.len_pos; omega
  | n + 1, hn, x, hx, hl, i, h, h38, h124 => by
    letI : Rdr := rdr n
    have hR : Reads s n := fun y hy hyl j hj h41 => reads_all hs n (by omega) y hy hyl j hj (by rw [h41]; omega) (by rw [h41]; omega)
    have hz := has_size h (by have := chars_pos x; omega)
    obtain ⟨k', hk', e'⟩ := ors hs hR x hx hl (by omega) i (200 - 2 * x.len) h h38
    obtain ⟨k', rfl⟩ : ∃ q, k' = q + 2 := ⟨k' - 2, by omega⟩
    rw [show 200 - 2 * x.len + 2 * x.len = 200 from by omega] at e'
    show impl_termReader_eitherG.f 200 s (i : Int) = _
    unfold impl_termReader_eitherG.f
    rw [e', endB (by rw [flat_len]; have := x.len_pos; omega) (by omega) h124]
    rfl
theorem either_eq {s : ByteArray} (hs : s.size ≤ 1000) {x : Tr} (hx : says x) (h9 : x.len ≤ 9) (h : nums_ s = chars x) : impl_termReader_either.f s 0 = some (flat x, s, (s.size : Int)) := by
  have hz : (chars x).length = s.size := by rw [← h, nums_len]
  have hp : pk s (0 + (chars x).length) = 0 := by unfold pk; rw [if_pos (by omega)]
  have e := reads_all hs 90 (by omega) x hx (by omega) 0 (has_all h) (by rw [hp]; omega) (by rw [hp]; omega)
  rw [hz, Nat.zero_add] at e
  exact e

/-- A reader's answer from here on. -/
def Gives (o : Option (List S54 × ByteArray × Int)) (s : ByteArray) (i : Nat) : Prop := ∃ (t : List S54) (i' : Nat), o = some (t, s, (i' : Int)) ∧ i ≤ i' ∧ i' ≤ s.size ∧ t.length + 2 * i ≤ 2 * i'
def Tot [Rdr] (s : ByteArray) (i : Nat) : Prop := ∀ j : Nat, i < j → j ≤ s.size → Gives (Rdr.f s (j : Int)) s j
theorem mn_end {s : ByteArray} (hs : s.size ≤ 1000) : mn (wrap64 ((s.size : Int) + 1)) (s.size : Int) = (s.size : Int) := by
  rw [w64 (by omega) (by omega)]; unfold mn; rw [if_pos (by omega)]
theorem pk_end (s : ByteArray) : pk s s.size = 0 := if_pos rfl
theorem part_tot [Rdr] {s : ByteArray} (hs : s.size ≤ 1000) {i : Nat} (hi : i ≤ s.size) (hR : Tot s i) : Gives (impl_termReader_part.f 200 s (i : Int)) s i := by
  unfold impl_termReader_part.f
  rw [peek_eq hi, Option.bind_some]; dsimp only
  by_cases e : i = s.size
  · subst e
    rw [pk_end, if_neg (by omega), mn_end hs, peek_eq (Nat.le_refl _), Option.bind_some]; dsimp only
    rw [if_pos (by omega)]
    exact ⟨[], s.size, rfl, Nat.le_refl _, Nat.le_refl _, by simp⟩
  · have hlt : i < s.size := by omega
    rw [mn_at hlt hs]
    by_cases h40 : pk s i = 40
    · rw [if_pos h40]
      obtain ⟨t, i', e1, e2, e3, e4⟩ := hR (i + 1) (by omega) (by omega)
      rw [e1, Option.bind_some]; dsimp only
      by_cases h0 : (t.length : Int) = 0
      · rw [if_pos h0, impl_termReader_part.j0, if_pos rfl]
        exact ⟨[], i', rfl, by omega, e3, by simp; omega⟩
      · rw [if_neg h0, peek_eq e3, Option.bind_some]; dsimp only
        rw [impl_termReader_part.j0]
        by_cases h41 : pk s i' = 41
        · rw [if_neg (by simp [h41]), wr (by omega) (by omega)]
          have : i' ≠ s.size := fun h => by subst h; rw [pk_end] at h41; omega
          exact ⟨t, i' + 1, rfl, by omega, by omega, by omega⟩
        · rw [if_pos (by simpa using h41)]
          exact ⟨[], i', rfl, by omega, e3, by simp; omega⟩
    · rw [if_neg h40, peek_eq (by omega), Option.bind_some]; dsimp only
      have nil : Gives (some (([] : List S54), s, ((i + 1 : Nat) : Int))) s i := ⟨[], i + 1, rfl, by omega, by omega, by simp; omega⟩
      by_cases c1 : pk s i < 65
      · rw [if_pos c1]; exact nil
      rw [if_neg c1]
      by_cases c2 : pk s i > 68
      · rw [if_pos c2]; exact nil
      rw [if_neg c2]
      by_cases c3 : pk s (i + 1) < 49
      · rw [if_pos c3]; exact nil
      rw [if_neg c3]
      by_cases c4 : pk s (i + 1) > 57
      · rw [if_pos c4]; exact nil
      rw [if_neg c4, wr (by omega) (by omega)]
      have : i + 1 ≠ s.size := fun h => by rw [h, pk_end] at c3; omega
      exact ⟨[_], i + 2, rfl, by omega, by omega, by simp; omega⟩
theorem loopA_tot [Rdr] {s : ByteArray} (hs : s.size ≤ 90) {b : Nat} (hR : ∀ j : Nat, b < j → j ≤ s.size → Gives (impl_termReader_part.f 200 s (j : Int)) s j) (d : Nat) : ∀ (k i : Nat) (t : List S54), b ≤ i → i ≤ s.size → s.size - i ≤ d → t.length + 2 * b ≤ 2 * i → 2 * d + 2 ≤ k → Gives (impl_termReader_joinedA.l0 k 38 1 t s (i : Int)) s b := by
  induction d with
  | zero =>
    intro k i t hb hi hd ht hk
    obtain ⟨k, rfl⟩ : ∃ m, k = m + 2 := ⟨k - 2, by omega⟩
    have e : i = s.size := by omega
    subst e
    rw [impl_termReader_joinedA.l0]
    by_cases h : (t.length : Int) > 0
    · rw [if_pos h, peek_eq hi, Option.bind_some]; dsimp only
      rw [pk_end, impl_termReader_joinedA.j1, if_neg (by simp)]
      exact ⟨t, s.size, rfl, hb, hi, ht⟩
    · rw [if_neg h, impl_termReader_joinedA.j1, if_neg (by simp)]
      exact ⟨t, s.size, rfl, hb, hi, ht⟩
  | succ d ih =>
    intro k i t hb hi hd ht hk
    obtain ⟨k, rfl⟩ : ∃ m, k = m + 2 := ⟨k - 2, by omega⟩
    rw [impl_termReader_joinedA.l0]
    by_cases h : (t.length : Int) > 0
    · rw [if_pos h, peek_eq hi, Option.bind_some]; dsimp only
      rw [impl_termReader_joinedA.j1]
      by_cases hc : pk s i = 38
      · have hne : i ≠ s.size := fun h => by subst h; rw [pk_end] at hc; omega
        obtain ⟨u, i', e1, e2, e3, e4⟩ := hR (i + 1) (by omega) (by omega)
        rw [if_pos (by simpa using hc), wr (by omega) (by omega), show (i : Int) + 1 = ((i + 1 : Nat) : Int) from by omega, e1, Option.bind_some]; dsimp only
        by_cases h0 : (u.length : Int) = 0
        · rw [if_pos h0]
          exact ⟨[], i', rfl, by omega, e3, by simp; omega⟩
        · rw [if_neg h0, if_pos (by omega), Option.bind_some, if_pos (by rw [List.length_append]; omega)]
          refine ih k i' _ (by omega) e3 (by omega) ?_ (by omega)
          rw [List.length_append, List.length_append]; simp; omega
      · rw [if_neg (by simpa using hc)]
        exact ⟨t, i, rfl, hb, hi, ht⟩
    · rw [if_neg h, impl_termReader_joinedA.j1, if_neg (by simp)]
      exact ⟨t, i, rfl, hb, hi, ht⟩
theorem loopB_tot [Rdr] {s : ByteArray} (hs : s.size ≤ 90) {b : Nat} (hR : ∀ j : Nat, b < j → j ≤ s.size → Gives (impl_termReader_both.f 200 s (j : Int)) s j) (d : Nat) : ∀ (k i : Nat) (t : List S54), b ≤ i → i ≤ s.size → s.size - i ≤ d → t.length + 2 * b ≤ 2 * i → 2 * d + 2 ≤ k → Gives (impl_termReader_joinedB.l0 k 124 2 t s (i : Int)) s b := by
  induction d with
  | zero =>
    intro k i t hb hi hd ht hk
    obtain ⟨k, rfl⟩ : ∃ m, k = m + 2 := ⟨k - 2, by omega⟩
    have e : i = s.size := by omega
    subst e
    rw [impl_termReader_joinedB.l0]
    by_cases h : (t.length : Int) > 0
    · rw [if_pos h, peek_eq hi, Option.bind_some]; dsimp only
      rw [pk_end, impl_termReader_joinedB.j1, if_neg (by simp)]
      exact ⟨t, s.size, rfl, hb, hi, ht⟩
    · rw [if_neg h, impl_termReader_joinedB.j1, if_neg (by simp)]
      exact ⟨t, s.size, rfl, hb, hi, ht⟩
  | succ d ih =>
    intro k i t hb hi hd ht hk
    obtain ⟨k, rfl⟩ : ∃ m, k = m + 2 := ⟨k - 2, by omega⟩
    rw [impl_termReader_joinedB.l0]
    by_cases h : (t.length : Int) > 0
    · rw [if_pos h, peek_eq hi, Option.bind_some]; dsimp only
      rw [impl_termReader_joinedB.j1]
      by_cases hc : pk s i = 124
      · have hne : i ≠ s.size := fun h => by subst h; rw [pk_end] at hc; omega
        obtain ⟨u, i', e1, e2, e3, e4⟩ := hR (i + 1) (by omega) (by omega)
        rw [if_pos (by simpa using hc), wr (by omega) (by omega), show (i : Int) + 1 = ((i + 1 : Nat) : Int) from by omega, e1, Option.bind_some]; dsimp only
        by_cases h0 : (u.length : Int) = 0
        · rw [if_pos h0]
          exact ⟨[], i', rfl, by omega, e3, by simp; omega⟩
        · rw [if_neg h0, if_pos (by omega), Option.bind_some, if_pos (by rw [List.length_append]; omega)]
          refine ih k i' _ (by omega) e3 (by omega) ?_ (by omega)
          rw [List.length_append, List.length_append]; simp; omega
      · rw [if_neg (by simpa using hc)]
        exact ⟨t, i, rfl, hb, hi, ht⟩
    · rw [if_neg h, impl_termReader_joinedB.j1, if_neg (by simp)]
      exact ⟨t, i, rfl, hb, hi, ht⟩
theorem both_tot [Rdr] {s : ByteArray} (hs : s.size ≤ 90) {i : Nat} (hi : i ≤ s.size) (hR : Tot s i) : Gives (impl_termReader_both.f 200 s (i : Int)) s i := by
  obtain ⟨t, i', e1, e2, e3, e4⟩ := part_tot (by omega) hi hR
  obtain ⟨u, j, f1, f2, f3, f4⟩ := loopA_tot hs (b := i) (fun j hj hj2 => part_tot (by omega) hj2 (fun q hq hq2 => hR q (by omega) hq2)) 90 200 i' t e2 e3 (by omega) e4 (by omega)
  unfold impl_termReader_both.f
  rw [lead e1, f1, Option.bind_some]
  exact ⟨u, j, rfl, f2, f3, f4⟩
theorem either_tot [Rdr] {s : ByteArray} (hs : s.size ≤ 90) {i : Nat} (hi : i ≤ s.size) (hR : Tot s i) : Gives (impl_termReader_eitherG.f 200 s (i : Int)) s i := by
  obtain ⟨t, i', e1, e2, e3, e4⟩ := both_tot hs hi hR
  obtain ⟨u, j, f1, f2, f3, f4⟩ := loopB_tot hs (b := i) (fun j hj hj2 => both_tot hs hj2 (fun q hq hq2 => hR q (by omega) hq2)) 90 200 i' t e2 e3 (by omega) e4 (by omega)
  unfold impl_termReader_eitherG.f
  rw [leadB e1, f1, Option.bind_some]
  exact ⟨u, j, rfl, f2, f3, f4⟩
theorem rdr_tot {s : ByteArray} (hs : s.size ≤ 90) : ∀ n i : Nat, i ≤ s.size → s.size - i < n → Gives ((rdr n).f s (i : Int)) s i
  | 0, i, _, h => by omega
  | n + 1, i, hi, h => by
    letI : Rdr := rdr n
    exact either_tot hs hi (fun j hj hj2 => rdr_tot hs n j hj2 (by omega))
theorem either_some {s : ByteArray} (hs : s.size ≤ 80) : ∃ (t : List S54) (i : Nat), impl_termReader_either.f s 0 = some (t, s, (i : Int)) ∧ t.length ≤ 200 := by
  obtain ⟨t, i, e1, _, e3, e4⟩ := rdr_tot (s := s) (by omega) 90 0 (by omega) (by omega)
  exact ⟨t, i, e1, by omega⟩

theorem iRead_eq {p : Int} {bs : List Int} {x : Tr} (h : termB p bs (flat x) = true) (hx : x.good bs) (k : Nat) (hk : bs.length + 50 ≤ k) : impl_ReadTerm.f k p bs (txt x) = some (flat x, true) := by
  have hh := (term_tree h).1
  have h9 := (term_tree h).2.1
  rw [flat_len] at h9
  have hb := (houseB_iff.1 hh).2.2
  have hs := txt_size x
  have hy := good_says hb (few hh) x hx
  unfold impl_ReadTerm.f impl_readTerm.f
  rw [if_neg (by omega), either_eq (by omega) hy (by omega) (nums_txt x hy), Option.bind_some]; dsimp only
  rw [if_pos rfl, isTerm_eq (by omega) (by rw [flat_len]; omega) k hk, Option.bind_some, if_pos h, iText_eq hb (few hh) hx (by omega) k (by omega), Option.bind_some, if_pos rfl, Option.bind_some]

theorem loop_toList (s : ByteArray) (n : Nat) : ∀ (i : Nat) (acc : List UInt8), s.size - i = n → ByteArray.toList.loop s i acc = acc.reverse ++ s.data.toList.drop i := by
  induction n with
  | zero =>
    intro i acc h
    rw [ByteArray.toList.loop, if_neg (by omega), List.drop_eq_nil_of_le (by rw [Array.length_toList]; show s.size ≤ i; omega), List.append_nil]
  | succ n ih =>
    intro i acc h
    have hi : i < s.size := by omega
    rw [ByteArray.toList.loop, if_pos hi, ih (i + 1) _ (by omega), List.reverse_cons, List.append_assoc]
    congr 1
    have hl : i < s.data.toList.length := by rw [Array.length_toList]; exact hi
    rw [List.drop_eq_getElem_cons hl, List.singleton_append]
    congr 1
    rw [Array.getElem_toList]
    show s.data[i]! = _
    exact getElem!_pos s.data i hi
theorem toList_data (s : ByteArray) : s.toList = s.data.toList := by
  have := loop_toList s s.size 0 [] (by omega)
  rw [List.reverse_nil, List.nil_append, List.drop_zero] at this
  exact this
theorem toList_inj {s t : ByteArray} (h : s.toList = t.toList) : s = t := by
  rw [toList_data, toList_data] at h
  exact ByteArray.ext (Array.toList_inj.1 h)
/-- A text that a term of the house has. -/
def Told (p : Int) (bs : List Int) (s : ByteArray) (x : Tr) : Prop := termB p bs (flat x) = true ∧ x.good bs ∧ txt x = s
theorem iRead_no {p : Int} {bs : List Int} {s : ByteArray} (hb : bs.length ≤ 1048576) (h : ¬ ∃ x, Told p bs s x) (k : Nat) (hk : bs.length + 50 ≤ k) : impl_ReadTerm.f k p bs s = some (([] : List S54), false) := by
  unfold impl_ReadTerm.f impl_readTerm.f
  by_cases h80 : (s.size : Int) > 80
  · rw [if_pos h80, Option.bind_some]
  rw [if_neg h80]
  obtain ⟨t, i, e1, e2⟩ := either_some (s := s) (by omega)
  rw [e1, Option.bind_some]; dsimp only
  by_cases hi : (i : Int) = (s.size : Int)
  · rw [if_pos hi, isTerm_eq hb (by omega) k hk, Option.bind_some]
    by_cases hT : termB p bs t = true
    · obtain ⟨hh, h9, x, hx, e⟩ := term_tree hT
      rw [← e] at hT h9 ⊢
      rw [flat_len] at h9
      rw [if_pos hT, iText_eq (houseB_iff.1 hh).2.2 (few hh) hx (by omega) k (by omega), Option.bind_some, if_neg (fun h2 => h ⟨x, hT, hx, toList_inj h2⟩), Option.bind_some]
    · rw [if_neg hT, Option.bind_some]
  · rw [if_neg hi, Option.bind_some]

theorem sRead_eq {p : Int} {bs : List Int} {x : Tr} (hbz : ∀ z ∈ bs, z < 2 ^ 63) (h : termB p bs (flat x) = true) (hx : x.good bs) (k : Nat) (hk : bs.length + 200 ≤ k) : spec_ReadTerm.f k p bs (txt x) = some (flat x, true) := by
  have hh := (term_tree h).1
  have h9 := (term_tree h).2.1
  rw [flat_len] at h9
  have hb := (houseB_iff.1 hh).2.2
  have hs := txt_size x
  have hy := good_says hb (few hh) x hx
  unfold spec_ReadTerm.f
  rw [if_neg (by omega), l3Or_eq (by omega) hy (by omega) (nums_txt x hy), Option.bind_some]; dsimp only
  rw [if_pos rfl, sTermOk_eq (by omega) hbz (by rw [flat_len]; omega) k (by rw [flat_len]; omega), Option.bind_some, if_pos h, sText_flat (few hh) x hx (by omega) k (by omega), Option.bind_some, if_pos rfl]
theorem sRead_no {p : Int} {bs : List Int} {s : ByteArray} (hb : bs.length ≤ 1048576) (hbz : ∀ z ∈ bs, z < 2 ^ 63) (h : ¬ ∃ x, Told p bs s x) (k : Nat) (hk : bs.length + 600 ≤ k) : spec_ReadTerm.f k p bs s = some (([] : List S54), false) := by
  unfold spec_ReadTerm.f
  by_cases h80 : (s.size : Int) > 80
  · rw [if_pos h80]
  rw [if_neg h80]
  obtain ⟨t, n, e1, e2⟩ := l3Or_some (s := s) (by omega) k
  rw [e1, Option.bind_some]; dsimp only
  by_cases hi : n = (s.size : Int)
  · rw [if_pos hi, sTermOk_eq hb hbz (by omega) k (by omega), Option.bind_some]
    by_cases hT : termB p bs t = true
    · obtain ⟨hh, h9, x, hx, e⟩ := term_tree hT
      rw [← e] at hT h9 ⊢
      rw [flat_len] at h9
      rw [if_pos hT, sText_flat (few hh) x hx (by omega) k (by omega), Option.bind_some, if_neg (fun h2 => h ⟨x, hT, hx, toList_inj h2⟩)]
    · rw [if_neg hT]
  · rw [if_neg hi]

theorem iTermOk_eq {p : Int} {bs : List Int} {t : List S54} (hb : bs.length ≤ 1048576) (ht : t.length ≤ 1048576) (k : Nat) (hk : bs.length + 50 ≤ k) : impl_TermOk.f k p bs t = some (termB p bs t) := by
  unfold impl_TermOk.f; rw [isTerm_eq hb ht k hk]; rfl

theorem sameMarks_loop {l : List S54} (hm : l.length ≤ 1048576) (d : Nat) : ∀ (k i : Nat), i ≤ l.length → l.length - i = d → d < k → laws_sameMarks.l0 k l l (i : Int) = some true := by
  induction d with
  | zero =>
    intro k i hi hdd hk
    obtain ⟨k, rfl⟩ : ∃ m, k = m + 1 := ⟨k - 1, by omega⟩
    rw [laws_sameMarks.l0, if_neg (by omega)]
  | succ d ih =>
    intro k i hi hdd hk
    obtain ⟨k, rfl⟩ : ∃ m, k = m + 1 := ⟨k - 1, by omega⟩
    rw [laws_sameMarks.l0, if_pos (by omega), if_pos (by omega), if_pos (by omega), if_neg (by simp), wr (by omega) (by omega)]
    exact ih k (i + 1) (by omega) (by omega) (by omega)
theorem sameMarks_eq {l : List S54} (hm : l.length ≤ 1048576) (k : Nat) (hk : l.length < k) : laws_sameMarks.f k l l = some true := by
  unfold laws_sameMarks.f
  rw [if_pos rfl]
  exact sameMarks_loop hm l.length k 0 (by omega) (by omega) hk

theorem iCrowdOk_eq (p c : Int) : impl_CrowdOk.f p c = some (okC p c) := by
  unfold impl_CrowdOk.f; rw [isCrowd_eq]; rfl

theorem alive_eq : laws_alive.f = some true := by
  unfold laws_alive.f
  rw [iCrowdOk_eq, iCrowdOk_eq]; decide

/-- The bytes of a draw: at most 2000. -/
theorem open_eq (l : List Int) : spec_l20Open.f l = some (l.take 2000, 0) := by
  unfold spec_l20Open.f
  by_cases h : (l.length : Int) > 2000
  · rw [if_pos h, if_pos (by omega)]
  · rw [if_neg h, List.take_of_length_le (by omega)]
theorem open_len (l : List Int) : (l.take 2000).length ≤ 2000 := by simp; omega
theorem open_wf {l : List Int} (h : ∀ x ∈ l, (Lit.int .u8 x).wf = true) : ∀ x ∈ l.take 2000, 0 ≤ x ∧ x ≤ 255 := fun x hx => wf_u8 (h x (List.mem_of_mem_take hx))

/-- What a draw gives. -/
theorem pick {l : List Int} (hl : l.length ≤ 2000) (hb : ∀ x ∈ l, 0 ≤ x ∧ x ≤ 255) (p : Int) (hp : 0 ≤ p) (hp' : p ≤ 1000000) (n : Int) :
    ∃ x, (∀ k, 1 ≤ k → spec_l20Rd_pick.f k l p n = some (x, p + 1)) ∧ 0 ≤ x ∧ (1 ≤ n → x < n) := by
  have key : ∃ x, spec_l20Rd_pick.f 1 l p n = some (x, p + 1) ∧ 0 ≤ x ∧ (1 ≤ n → x < n) := by
    have hp1 : wrap64 (p + 1) = p + 1 := w64 (by omega) (by omega)
    have hp2 : wrap64 (p + 1 - 1) = p := by rw [w64 (by omega) (by omega)]; omega
    unfold spec_l20Rd_pick.f
    rw [hp1]
    by_cases hn : n < 1
    · rw [if_pos hn]
      exact ⟨0, by simp [spec_l20Rd_pick.j0], by omega, by omega⟩
    · rw [if_neg hn]
      by_cases h0 : l.length = 0
      · exact ⟨0, by simp [spec_l20Rd_pick.j0, h0], by omega, by omega⟩
      · have hf : ((l.length : Int) == 0) = false := beq_eq_false_iff_ne.mpr (by omega)
        have hrd : ∀ i : Int, 0 ≤ rd l i ∧ rd l i ≤ 255 := by
          intro i
          unfold rd
          by_cases hi : i.toNat < l.length
          · rw [List.getD_eq_getElem?_getD, List.getElem?_eq_getElem hi, Option.getD_some]; exact hb _ (List.getElem_mem hi)
          · rw [List.getD_eq_getElem?_getD, List.getElem?_eq_none (by omega), Option.getD_none]; omega
        have hmod : ∀ x : Int, 0 ≤ x → 0 ≤ Int.tmod x n ∧ Int.tmod x n < n := fun x hx => ⟨Int.tmod_nonneg _ hx, Int.tmod_lt_of_pos _ (by omega)⟩
        simp only [spec_l20Rd_pick.j0, hf, hp2, if_false, Bool.false_eq_true]
        rw [if_pos (show 0 ≤ p from hp)]
        by_cases hlt : p < (l.length : Int)
        · have hr := hrd p
          have hm := hmod (rd l p) hr.1
          refine ⟨Int.tmod (rd l p) n, ?_, hm.1, fun _ => hm.2⟩
          rw [if_pos hlt, if_neg (by omega), w64 (x := rd l p) (by omega) (by omega)]
        · have hL : (0 : Int) < l.length := by omega
          rw [if_neg hlt, if_neg (by omega)]
          have e1 : Int.tmod p l.length = p % l.length := Int.tmod_eq_emod_of_nonneg hp
          have e2 : wrap64 (wrap64 (p * 7) + 3) = p * 7 + 3 := by rw [w64 (x := p * 7) (by omega) (by omega), w64 (by omega) (by omega)]
          have e3 : Int.tmod (p * 7 + 3) l.length = (p * 7 + 3) % l.length := Int.tmod_eq_emod_of_nonneg (by omega)
          have b1 := Int.emod_nonneg p (show (l.length : Int) ≠ 0 by omega)
          have b2 := Int.emod_lt_of_pos p hL
          have b3 := Int.emod_nonneg (p * 7 + 3) (show (l.length : Int) ≠ 0 by omega)
          have b4 := Int.emod_lt_of_pos (p * 7 + 3) hL
          rw [e1, e2, e3, if_pos b1, if_pos b2, if_pos b3, if_pos b4, if_neg (by omega)]
          have r1 := hrd (p % l.length)
          have r2 := hrd ((p * 7 + 3) % l.length)
          have e4 : Int.tdiv p l.length = p / l.length := Int.tdiv_eq_ediv_of_nonneg hp
          have d1 : 0 ≤ p / (l.length : Int) := Int.ediv_nonneg hp (by omega)
          have d2 : p / (l.length : Int) ≤ p := Int.ediv_le_self _ hp
          rw [e4]
          generalize rd l (p % l.length) = a at *
          generalize rd l ((p * 7 + 3) % l.length) = b at *
          generalize p / (l.length : Int) = c at *
          have s : wrap64 (wrap64 (wrap64 (wrap64 (wrap64 a * 131) + wrap64 (wrap64 b * 1117)) + wrap64 (p * 29)) + wrap64 (wrap64 c * 53)) = a * 131 + b * 1117 + p * 29 + c * 53 := by
            rw [w64 (x := a) (by omega) (by omega), w64 (x := b) (by omega) (by omega), w64 (x := c) (by omega) (by omega), w64 (x := a * 131) (by omega) (by omega), w64 (x := b * 1117) (by omega) (by omega),
              w64 (x := a * 131 + b * 1117) (by omega) (by omega), w64 (x := p * 29) (by omega) (by omega), w64 (x := a * 131 + b * 1117 + p * 29) (by omega) (by omega), w64 (x := c * 53) (by omega) (by omega), w64 (by omega) (by omega)]
          rw [s]
          have t0 : 0 ≤ a * 131 + b * 1117 + p * 29 + c * 53 := by omega
          have t1 : a * 131 + b * 1117 + p * 29 + c * 53 < 4611686018427387904 := by omega
          generalize a * 131 + b * 1117 + p * 29 + c * 53 = x at *
          rw [show Int.tdiv x 64 = x / 64 from Int.tdiv_eq_ediv_of_nonneg t0, w64 (x := x / 64) (by omega) (by omega)]
          have hx := bxor_ge (a := x) (b := x / 64) t0 (by omega) t1 (by omega)
          have hm := hmod _ hx.1
          exact ⟨_, rfl, hm.1, fun _ => hm.2⟩
  obtain ⟨x, hx, h0, h1⟩ := key
  exact ⟨x, fun k hk => at_rounds (spec_l20Rd_pick.mono l p n) hk hx, h0, h1⟩

theorem odd_eq {l : List Int} (hl : l.length ≤ 2000) (hb : ∀ x ∈ l, 0 ≤ x ∧ x ≤ 255) (p : Int) (hp : 0 ≤ p) (hp' : p ≤ 900000) (n : Int) (hn : 1 ≤ n) (hn' : n ≤ 1000) :
    ∃ b, (∀ k, 1 ≤ k → spec_l20Rd_odd.f k l p n = some (b, p + 1)) := by
  obtain ⟨A, h1, a0, a1⟩ := pick hl hb p hp (by omega) n
  refine ⟨A == n - 1, fun k hk => ?_⟩
  unfold spec_l20Rd_odd.f
  rw [if_pos (show n > 0 by omega), h1 k hk, Option.bind_some]; dsimp only
  rw [w1s (by omega) (by omega)]

theorem house_loop {l : List Int} (hl : l.length ≤ 2000) (hb : ∀ x ∈ l, 0 ≤ x ∧ x ≤ 255) (n np : Int) (hn : 1 ≤ n) (hn' : n ≤ 1000) (h1 : 1 ≤ np) (h6 : np ≤ 6) (d : Nat) : ∀ (k : Nat) (c p : Int) (bs : List Int), 0 ≤ c → c.toNat = d → 0 ≤ p → p + 10 * c ≤ 800000 → bs.length + d ≤ 10 → d + 3 ≤ k →
    (∀ b ∈ bs, 1 ≤ b ∧ b ≤ full np) →
    ∃ hp hbs p', spec_l20House.l0 k n c l p np bs = some (hp, hbs, p') ∧ 0 ≤ p' ∧ p' ≤ p + c + 20 ∧ hbs.length ≤ bs.length + d + 1 ∧ 0 ≤ hp ∧ hp ≤ 7 ∧ (∀ b ∈ hbs, 0 ≤ b ∧ b ≤ 63) := by
  have hfu := full_le h1 h6
  induction d with
  | zero =>
    intro k c p bs c0 hc p0 hp hbl hk hall
    obtain ⟨k, rfl⟩ : ∃ m, k = m + 1 := ⟨k - 1, by omega⟩
    have hall' : ∀ b ∈ bs, 0 ≤ b ∧ b ≤ 63 := fun b hb' => by have := hall b hb'; omega
    simp only [spec_l20House.l0]
    rw [if_neg (by omega)]
    obtain ⟨b, h4⟩ := odd_eq hl hb p p0 (by omega) n hn hn'
    rw [h4 k (by omega), Option.bind_some]; dsimp only
    cases b with
    | false => rw [if_neg (by simp)]; exact ⟨_, _, _, rfl, by omega, by omega, by omega, by omega, by omega, hall'⟩
    | true =>
      obtain ⟨C, h5, _, _⟩ := pick hl hb (p + 1) (by omega) (by omega) 3
      obtain ⟨D, h6', d0, d1⟩ := pick hl hb (p + 1 + 1) (by omega) (by omega) 2
      replace d1 := d1 (by omega)
      rw [if_pos rfl, h5 k (by omega), Option.bind_some]; dsimp only
      by_cases e0 : C = 0
      · rw [if_pos e0, Option.bind_some, h6' k (by omega), Option.bind_some]; dsimp only
        rw [if_pos d0, if_pos (by simp; omega)]
        have hr : rd [0, 7] D = 0 ∨ rd [0, 7] D = 7 := by
          have : D = 0 ∨ D = 1 := by omega
          rcases this with rfl | rfl
          · left; rfl
          · right; rfl
        exact ⟨_, _, _, rfl, by omega, by omega, by omega, by omega, by omega, hall'⟩
      · rw [if_neg e0]
        by_cases e1 : C = 1
        · rw [if_pos e1, if_pos (by omega)]
          exact ⟨_, _, _, rfl, by omega, by omega, by simp <;> omega, by omega, by omega, fun b hb' => by
            rcases List.mem_append.1 hb' with hb' | hb'
            · exact hall' b hb'
            · have := List.mem_singleton.1 hb'; omega⟩
        · rw [if_neg e1]
          exact ⟨_, _, _, rfl, by omega, by omega, by simp, by omega, by omega, by simp⟩
  | succ d ih =>
    intro k c p bs c0 hc p0 hp hbl hk hall
    obtain ⟨k, rfl⟩ : ∃ m, k = m + 1 := ⟨k - 1, by omega⟩
    simp only [spec_l20House.l0]
    obtain ⟨M, h2, m0, m1⟩ := pick hl hb p (by omega) (by omega) (full np)
    replace m1 := m1 (by omega)
    rw [if_pos (by omega), if_pos (by omega), fullw h1 h6, h2 k (by omega), Option.bind_some]; dsimp only
    rw [if_pos (by omega), w1s (by omega) (by omega), w1 m0 (by omega)]
    obtain ⟨hp', hbs, p', he, q0, q1, q2, q3, q4, q5⟩ := ih k (c - 1) (p + 1) (bs ++ [1 + M]) (by omega) (by omega) (by omega) (by omega) (by simp; omega) (by omega) (fun b hb' => by
      rcases List.mem_append.1 hb' with hb' | hb'
      · exact hall b hb'
      · have := List.mem_singleton.1 hb'; omega)
    exact ⟨hp', hbs, p', he, q0, by omega, by simp at q2; omega, q3, q4, q5⟩
theorem drawHouse {l : List Int} (hl : l.length ≤ 2000) (hb : ∀ x ∈ l, 0 ≤ x ∧ x ≤ 255) (p : Int) (hp : 0 ≤ p) (hp' : p ≤ 700000) (n : Int) (hn : 1 ≤ n) (hn' : n ≤ 1000) :
    ∃ hp hbs p', (∀ k, 10 ≤ k → spec_l20House.f k l p n = some (hp, hbs, p')) ∧ 0 ≤ p' ∧ p' ≤ p + 40 ∧ hbs.length ≤ 10 ∧ 0 ≤ hp ∧ hp ≤ 7 ∧ (∀ b ∈ hbs, 0 ≤ b ∧ b ≤ 63) := by
  suffices h : ∃ hp hbs p', spec_l20House.f 10 l p n = some (hp, hbs, p') ∧ 0 ≤ p' ∧ p' ≤ p + 40 ∧ hbs.length ≤ 10 ∧ 0 ≤ hp ∧ hp ≤ 7 ∧ (∀ b ∈ hbs, 0 ≤ b ∧ b ≤ 63) by
    obtain ⟨hp, hbs, p', h, r⟩ := h
    exact ⟨hp, hbs, p', fun k hk => at_rounds (spec_l20House.mono l p n) hk h, r⟩
  obtain ⟨A, h1, a0, a1⟩ := pick hl hb p (by omega) (by omega) 5
  replace a1 := a1 (by omega)
  obtain ⟨B, h2, b0, b1⟩ := pick hl hb (p + 1) (by omega) (by omega) 9
  replace b1 := b1 (by omega)
  obtain ⟨C, h3, c0, c1⟩ := pick hl hb (p + 1 + 1) (by omega) (by omega) 3
  replace c1 := c1 (by omega)
  unfold spec_l20House.f
  rw [h1 10 (by omega), Option.bind_some]; dsimp only
  rw [h2 10 (by omega), Option.bind_some]; dsimp only
  rw [h3 10 (by omega), Option.bind_some]; dsimp only
  have e : wrap64 (wrap64 (1 + A) + wrap64 (Int.tdiv B 8)) = 1 + A + B / 8 := by
    rw [Int.tdiv_eq_ediv_of_nonneg b0, w1 a0 (by omega), w64 (x := B / 8) (by omega) (by omega), w64 (by omega) (by omega)]
  rw [e, w1 c0 (by omega)]
  clear e
  obtain ⟨q1, q2, q3, he, r0, r1, r2, r3, r4, r5⟩ := house_loop hl hb n (1 + A + B / 8) hn hn' (by omega) (by omega) (1 + C).toNat 10 (1 + C) (p + 1 + 1 + 1) [] (by omega) rfl (by omega) (by omega) (by simp; omega) (by omega) (by simp)
  exact ⟨q1, q2, q3, he, by omega, by omega, by simp at r2; omega, r3, r4, r5⟩

def tot : List (List S54) → Nat
  | [] => 0
  | a :: l => a.length + tot l
theorem tot_append : ∀ a b : List (List S54), tot (a ++ b) = tot a + tot b
  | [], b => by simp [tot]
  | x :: a, b => by simp only [List.cons_append, tot, tot_append a b]; omega
theorem tot_mem : ∀ {l : List (List S54)} {i : Nat} (h : i < l.length), (l[i]).length ≤ tot l
  | x :: l, 0, _ => by simp only [List.getElem_cons_zero, tot]; omega
  | x :: l, i + 1, h => by
    have := tot_mem (l := l) (i := i) (by simpa using h)
    simp only [List.getElem_cons_succ, tot]; omega
theorem rdL_get {l : List (List S54)} {i : Nat} (h : i < l.length) : rd_L3 l (i : Int) = l[i] := by
  unfold rd_L3; rw [Int.toNat_natCast, List.getD_eq_getElem?_getD, List.getElem?_eq_getElem h, Option.getD_some]
theorem tot_join {l : List (List S54)} {i : Nat} (h : i + 1 < l.length) (m : S54) : tot (l.take i ++ [l[i] ++ l[i + 1] ++ [m]] ++ l.drop (i + 2)) = tot l + 1 := by
  have e : l = l.take i ++ (l[i] :: l[i + 1] :: l.drop (i + 2)) := by
    rw [← List.drop_eq_getElem_cons h, ← List.drop_eq_getElem_cons (show i < l.length by omega), List.take_append_drop]
  have e2 := congrArg tot e
  rw [tot_append] at e2
  simp only [tot] at e2
  simp only [tot_append, tot, List.length_append, List.length_singleton]
  omega
theorem term_l1 {l : List Int} (hl : l.length ≤ 2000) (hb : ∀ x ∈ l, 0 ≤ x ∧ x ≤ 255) (d : Nat) : ∀ (k : Nat) (ps : List (List S54)) (p : Int), ps.length = d + 1 → tot ps + ps.length ≤ 10 → 0 ≤ p → p + 10 * d ≤ 800000 → d + 2 ≤ k →
    ∃ t p', spec_l20Term.l1 k ps l p = some (t, p') ∧ t.length ≤ 10 ∧ 0 ≤ p' ∧ p' ≤ p + 10 * d := by
  induction d with
  | zero =>
    intro k ps p hp ht p0 p1 hk
    obtain ⟨k, rfl⟩ : ∃ m, k = m + 1 := ⟨k - 1, by omega⟩
    have h0 : 0 < ps.length := by omega
    have := tot_mem h0
    rw [spec_l20Term.l1, if_neg (by omega), if_pos (by omega), show rd_L3 ps 0 = ps[0] from rdL_get h0]
    exact ⟨_, _, rfl, by omega, by omega, by omega⟩
  | succ d ih =>
    intro k ps p hp ht p0 p1 hk
    obtain ⟨k, rfl⟩ : ∃ m, k = m + 1 := ⟨k - 1, by omega⟩
    obtain ⟨A, h1, a0, a1⟩ := pick hl hb p (by omega) (by omega) ((ps.length : Int) - 1)
    obtain ⟨B, h2, b0, b1⟩ := pick hl hb (p + 1) (by omega) (by omega) 2
    replace a1 := a1 (by omega)
    obtain ⟨n, rfl⟩ := Int.eq_ofNat_of_zero_le a0
    have hn : n + 1 < ps.length := by omega
    have m1 := tot_mem (show n < ps.length by omega)
    have m2 := tot_mem hn
    have e1 : rd_L3 ps (n : Int) = ps[n] := rdL_get (by omega)
    have e2 : rd_L3 ps ((n : Int) + 1) = ps[n + 1] := by rw [show (n : Int) + 1 = ((n + 1 : Nat) : Int) from by omega]; exact rdL_get hn
    have l1 : (ps.take n).length ≤ 10 := by have := List.length_take_le n ps; have := List.length_take_le' n ps; omega
    rw [spec_l20Term.l1, if_pos (by omega), w1s (by omega) (by omega), h1 k (by omega), Option.bind_some]; dsimp only
    rw [Option.bind_some, if_pos (by omega), if_pos (by omega), e1, if_pos (by rw [List.length_nil]; omega), Option.bind_some, List.nil_append, wr (by omega) (by omega), if_pos (by omega), if_pos (by omega), e2, if_pos (by omega), Option.bind_some, h2 k (by omega), Option.bind_some]; dsimp only
    rw [if_pos (by rw [List.length_append]; omega), Option.bind_some, if_pos (by omega), Option.bind_some, Int.toNat_natCast, if_pos (by rw [List.length_nil]; omega), Option.bind_some, List.nil_append, if_pos (by omega), Option.bind_some,
      show wrap64 ((n : Int) + 2) = (n : Int) + 2 from w64 (by omega) (by omega), if_pos (by omega), if_pos (by omega), Option.bind_some, show ((n : Int) + 2).toNat = n + 2 from by omega,
      if_pos (by simp only [List.length_append, List.length_singleton, List.length_drop]; omega)]
    have tj := tot_join hn (⟨wrap64 (1 + B), 0, 0⟩ : S54)
    have ll : (ps.take n ++ [ps[n] ++ ps[n + 1] ++ [(⟨wrap64 (1 + B), 0, 0⟩ : S54)]] ++ ps.drop (n + 2)).length = d + 1 := by
      simp only [List.length_append, List.length_take, List.length_singleton, List.length_drop]; omega
    obtain ⟨t, p', he, q0, q1, q2⟩ := ih k _ (p + 1 + 1) ll (by omega) (by omega) (by omega) (by omega)
    exact ⟨t, p', he, q0, q1, by omega⟩
theorem term_l0 {l bs : List Int} (hl : l.length ≤ 2000) (hb : ∀ x ∈ l, 0 ≤ x ∧ x ≤ 255) (h1 : 1 ≤ bs.length) (h10 : bs.length ≤ 20) (hbs : ∀ b ∈ bs, 0 ≤ b ∧ b ≤ 63) (np : Int) (d : Nat) : ∀ (k : Nat) (c : Int) (ps : List (List S54)) (p : Int), 0 ≤ c → c.toNat = d → tot ps + ps.length + 2 * d ≤ 8 → 1 ≤ ps.length + d → 0 ≤ p → p ≤ 700000 → d + 20 ≤ k →
    ∃ t p', spec_l20Term.l0 k ps c l p np bs = some (t, p') ∧ t.length ≤ 10 ∧ 0 ≤ p' ∧ p' ≤ p + 200 := by
  suffices h : ∀ (k : Nat) (c : Int) (ps : List (List S54)) (p : Int), 0 ≤ c → c.toNat = d → tot ps + ps.length + 2 * d ≤ 8 → 1 ≤ ps.length + d → 0 ≤ p → p ≤ 700000 + 10 * (10 - d) → d + 20 ≤ k →
      ∃ t p', spec_l20Term.l0 k ps c l p np bs = some (t, p') ∧ t.length ≤ 10 ∧ 0 ≤ p' ∧ p' ≤ p + 100 + 10 * d by
    intro k c ps p c0 hc ht hp p0 p1 hk
    obtain ⟨t, p', he, q0, q1, q2⟩ := h k c ps p c0 hc ht hp p0 (by omega) hk
    exact ⟨t, p', he, q0, q1, by omega⟩
  induction d with
  | zero =>
    intro k c ps p c0 hc ht hp p0 p1 hk
    obtain ⟨k, rfl⟩ : ∃ m, k = m + 1 := ⟨k - 1, by omega⟩
    rw [spec_l20Term.l0, if_neg (by omega)]
    obtain ⟨t, p', he, q0, q1, q2⟩ := term_l1 hl hb (ps.length - 1) k ps p (by omega) (by omega) p0 (by omega) (by omega)
    exact ⟨t, p', he, q0, q1, by omega⟩
  | succ d ih =>
    intro k c ps p c0 hc ht hp p0 p1 hk
    obtain ⟨k, rfl⟩ : ∃ m, k = m + 1 := ⟨k - 1, by omega⟩
    obtain ⟨A, g1, a0, a1⟩ := pick hl hb p (by omega) (by omega) (bs.length : Int)
    replace a1 := a1 (by omega)
    have hm := hbs _ (Tr.rd_mem a0 a1)
    have e : mx (rd bs A) 0 = rd bs A := by unfold mx; rw [if_neg (by omega)]
    obtain ⟨B, g2, b0, b1⟩ := pick hl hb (p + 1) (by omega) (by omega) (mx (hd (rd bs A)) 1)
    rw [spec_l20Term.l0, if_pos (by omega), g1 k (by omega), Option.bind_some]; dsimp only
    rw [if_pos a0, if_pos a1, e, sHeads_eq k (by omega) hm.1 (by omega), Option.bind_some, g2 k (by omega), Option.bind_some]; dsimp only
    rw [if_pos (by omega), w1s (by omega) (by omega)]
    obtain ⟨t, p', he, q0, q1, q2⟩ := ih k (c - 1) (ps ++ [[⟨0, A, wrap64 (1 + B)⟩]]) (p + 1 + 1) (by omega) (by omega) (by rw [tot_append, List.length_append]; simp only [tot, List.length_singleton]; omega) (by rw [List.length_append, List.length_singleton]; omega) (by omega) (by omega) (by omega)
    exact ⟨t, p', he, q0, q1, by omega⟩
theorem term_j0 {l bs : List Int} (hl : l.length ≤ 2000) (hb : ∀ x ∈ l, 0 ≤ x ∧ x ≤ 255) (h10 : bs.length ≤ 20) (hbs : ∀ b ∈ bs, 0 ≤ b ∧ b ≤ 63) (np : Int) (b : Bool) (hz : b = false → 1 ≤ bs.length) (k : Nat) (p : Int) (p0 : 0 ≤ p) (p1 : p ≤ 600000) (hk : 30 ≤ k) :
    ∃ t p', spec_l20Term.j0 k b l p np bs = some (t, p') ∧ t.length ≤ 10 ∧ 0 ≤ p' ∧ p' ≤ p + 300 := by
  obtain ⟨k, rfl⟩ : ∃ m, k = m + 1 := ⟨k - 1, by omega⟩
  obtain ⟨A, g1, a0, a1⟩ := pick hl hb p (by omega) (by omega) 4
  replace a1 := a1 (by omega)
  rw [spec_l20Term.j0]
  cases b with
  | true =>
    rw [if_pos rfl, Option.bind_some, g1 k (by omega), Option.bind_some]; dsimp only
    rw [if_pos a0, if_pos (by simp; omega)]
    refine ⟨_, _, rfl, ?_, by omega, by omega⟩
    have : A = 0 ∨ A = 1 ∨ A = 2 ∨ A = 3 := by omega
    rcases this with rfl | rfl | rfl | rfl <;> decide
  | false =>
    have := hz rfl
    rw [if_neg (by simp), g1 k (by omega), Option.bind_some]; dsimp only
    rw [w1 a0 (by omega)]
    obtain ⟨t, p', he, q0, q1, q2⟩ := term_l0 hl hb this h10 hbs np (1 + A).toNat k (1 + A) [] (p + 1) (by omega) rfl (by simp only [tot, List.length_nil]; omega) (by omega) (by omega) (by omega) (by omega)
    exact ⟨t, p', he, q0, q1, by omega⟩
theorem drawTerm {l bs : List Int} (hl : l.length ≤ 2000) (hb : ∀ x ∈ l, 0 ≤ x ∧ x ≤ 255) (h10 : bs.length ≤ 20) (hbs : ∀ b ∈ bs, 0 ≤ b ∧ b ≤ 63) (np : Int) (p : Int) (p0 : 0 ≤ p) (p1 : p ≤ 500000) (n : Int) (hn : 1 ≤ n) (hn' : n ≤ 1000) :
    ∃ t p', (∀ k, 40 ≤ k → spec_l20Term.f k l p np bs n = some (t, p')) ∧ t.length ≤ 10 ∧ 0 ≤ p' ∧ p' ≤ p + 400 := by
  suffices h : ∃ t p', spec_l20Term.f 40 l p np bs n = some (t, p') ∧ t.length ≤ 10 ∧ 0 ≤ p' ∧ p' ≤ p + 400 by
    obtain ⟨t, p', h, r⟩ := h
    exact ⟨t, p', fun k hk => at_rounds (spec_l20Term.mono l p np bs n) hk h, r⟩
  unfold spec_l20Term.f
  by_cases h0 : (bs.length : Int) = 0
  · rw [if_pos h0]
    obtain ⟨t, p', he, q0, q1, q2⟩ := term_j0 hl hb h10 hbs np true (by simp) 40 p p0 (by omega) (by omega)
    exact ⟨t, p', he, q0, q1, by omega⟩
  · rw [if_neg h0]
    obtain ⟨b, h4⟩ := odd_eq hl hb p p0 (by omega) n hn hn'
    rw [h4 40 (by omega), Option.bind_some]; dsimp only
    obtain ⟨t, p', he, q0, q1, q2⟩ := term_j0 hl hb h10 hbs np b (fun _ => by omega) 40 (p + 1) (by omega) (by omega) (by omega)
    exact ⟨t, p', he, q0, q1, by omega⟩

theorem drawTermed {l : List Int} (hl : l.length ≤ 2000) (hb : ∀ x ∈ l, 0 ≤ x ∧ x ≤ 255) (p : Int) (p0 : 0 ≤ p) (p1 : p ≤ 400000) (n : Int) (hn : 1 ≤ n) (hn' : n ≤ 1000) :
    ∃ hp bs t p', (∀ k, 40 ≤ k → spec_l20Termed.f k l p n = some (hp, bs, t, p')) ∧ bs.length ≤ 10 ∧ t.length ≤ 10 ∧ (∀ z ∈ bs, z < 2 ^ 63) ∧ 0 ≤ hp ∧ hp ≤ 7 ∧ 0 ≤ p' ∧ p' ≤ p + 500 ∧ (∀ b ∈ bs, 0 ≤ b ∧ b ≤ 63) := by
  obtain ⟨hp, bs, p', h1, a0, a1, a2, a3, a4, a5⟩ := drawHouse hl hb p p0 (by omega) 20 (by omega) (by omega)
  obtain ⟨t, q', h2, b0, b1, b2⟩ := drawTerm hl hb (bs := bs) (by omega) a5 hp p' a0 (by omega) n hn hn'
  refine ⟨hp, bs, t, q', fun k hk => ?_, a2, b0, fun z hz => ?_, a3, a4, b1, by omega, a5⟩
  · unfold spec_l20Termed.f
    rw [h1 k (by omega), Option.bind_some]; dsimp only
    rw [h2 k hk, Option.bind_some]
  · have := a5 z hz
    exact Int.lt_of_le_of_lt this.2 (by decide)

theorem nums_wrap (s : ByteArray) : nums_ (((⟨#[40]⟩ : ByteArray) ++ s) ++ (⟨#[41]⟩ : ByteArray)) = 40 :: (nums_ s ++ [41]) := by
  rw [nums_app, nums_app]; rfl
theorem either_wrap {s : ByteArray} (hs : s.size ≤ 1000) {x : Tr} (hx : says x) (h9 : x.len ≤ 9) (h : nums_ s = 40 :: (chars x ++ [41])) : impl_termReader_either.f s 0 = some (flat x, s, (s.size : Int)) := by
  have hz : (chars x).length + 2 = s.size := by have := nums_len s; rw [h] at this; simp at this; omega
  have lx := x.len_pos
  have hp : pk s s.size = 0 := pk_end s
  letI : Rdr := rdr 89
  have hR : Reads s 89 := fun y hy hyl j hj h41 => reads_all hs 89 (by omega) y hy hyl j hj (by rw [h41]; omega) (by rw [h41]; omega)
  have w := wrapped hs hR hx (by omega) (has_all h)
  rw [show 0 + (chars x).length + 2 = s.size from by omega] at w
  have b : impl_termReader_both.f 200 s ((0 : Nat) : Int) = some (flat x, s, (s.size : Int)) := by
    unfold impl_termReader_both.f
    rw [lead w, endA (k := 198) (by rw [flat_len]; omega) (Nat.le_refl _) (by rw [hp]; omega)]; rfl
  show impl_termReader_eitherG.f 200 s ((0 : Nat) : Int) = _
  unfold impl_termReader_eitherG.f
  rw [leadB b, endB (k := 198) (by rw [flat_len]; omega) (Nat.le_refl _) (by rw [hp]; omega)]; rfl
theorem iRead_wrap {p : Int} {bs : List Int} {x : Tr} (h : termB p bs (flat x) = true) (hx : x.good bs) (hb : bs.length ≤ 1048576) (k : Nat) (hk : bs.length + 50 ≤ k) : impl_ReadTerm.f k p bs (((⟨#[40]⟩ : ByteArray) ++ txt x) ++ (⟨#[41]⟩ : ByteArray)) = some (([] : List S54), false) := by
  refine iRead_no hb ?_ k hk
  rintro ⟨y, hT, hy, e⟩
  have hh := (term_tree h).1
  have h9 := (term_tree h).2.1
  have g9 := (term_tree hT).2.1
  rw [flat_len] at h9 g9
  have hb4 := (houseB_iff.1 hh).2.2
  have sx := good_says hb4 (few hh) x hx
  have sy := good_says hb4 (few hh) y hy
  have zx := txt_size x
  have zs : (((⟨#[40]⟩ : ByteArray) ++ txt x) ++ (⟨#[41]⟩ : ByteArray)).size = (txt x).size + 2 := by simp only [ByteArray.size_append, s40, s41]; omega
  have e1 := either_wrap (s := ((⟨#[40]⟩ : ByteArray) ++ txt x) ++ (⟨#[41]⟩ : ByteArray)) (by omega) sx (by omega) (by rw [nums_wrap, nums_txt x sx])
  have e2 := either_eq (s := ((⟨#[40]⟩ : ByteArray) ++ txt x) ++ (⟨#[41]⟩ : ByteArray)) (by omega) sy (by omega) (by rw [← e, nums_txt y sy])
  rw [e1] at e2
  have ef : flat x = flat y := congrArg Prod.fst (Option.some.inj e2)
  have t1 := iText_eq hb4 (few hh) hx (by omega) 12 (Nat.le_refl _)
  have t2 := iText_eq hb4 (few hh) hy (by omega) 12 (Nat.le_refl _)
  rw [ef, t2] at t1
  have := Option.some.inj t1
  rw [e] at this
  have := congrArg ByteArray.size this
  omega
theorem ext_le (s : ByteArray) (a b : Nat) : (s.extract a b).size ≤ s.size := by rw [ByteArray.size_extract]; omega
theorem rd_le (c : Int) : (rdOf ByteArray.empty ([(⟨#[]⟩ : ByteArray), (⟨#[40]⟩ : ByteArray), (⟨#[41]⟩ : ByteArray), (⟨#[38]⟩ : ByteArray), (⟨#[124]⟩ : ByteArray), (⟨#[65, 49]⟩ : ByteArray), (⟨#[57]⟩ : ByteArray), (⟨#[69]⟩ : ByteArray)] : List ByteArray) c).size ≤ 2 := by
  unfold rdOf
  generalize c.toNat = n
  match n with
  | 0 => decide
  | 1 => decide
  | 2 => decide
  | 3 => decide
  | 4 => decide
  | 5 => decide
  | 6 => decide
  | 7 => decide
  | n + 8 => exact Nat.zero_le 2
theorem drawCut {l : List Int} (hl : l.length ≤ 2000) (hb : ∀ x ∈ l, 0 ≤ x ∧ x ≤ 255) (p : Int) (p0 : 0 ≤ p) (p1 : p ≤ 400000) (q : Int) (bs : List Int) (s : ByteArray) (hs : s.size ≤ 1000) (b : Bool) (hbz : b = true → 0 < s.size) (k : Nat) (hk : 1 ≤ k) : ∃ s', spec_DrawReadTerm.j0 (k + 1) s b l p q bs = some (q, bs, s') := by
  rw [spec_DrawReadTerm.j0]
  cases b with
  | false => exact ⟨s, rfl⟩
  | true =>
    have hz := hbz rfl
    obtain ⟨u, hu, u0, u1⟩ := pick hl hb p p0 (by omega) (s.size : Int)
    obtain ⟨c, hc, c0, c1⟩ := pick hl hb (p + 1) (by omega) (by omega) 8
    obtain ⟨d, hd, d0, d1⟩ := pick hl hb (p + 1 + 1) (by omega) (by omega) 2
    have u2 := u1 (by omega)
    have c2 := c1 (by omega)
    have d2 := d1 (by omega)
    have a1 := ext_le s 0 u.toNat
    have a2 := rd_le c
    have ew : wrap64 (u + d) = u + d := w64 (by omega) (by omega)
    have a3 := ext_le s (u + d).toNat s.size
    rw [if_pos rfl, hu k hk, Option.bind_some]; dsimp only
    rw [if_pos u0, if_pos (by clear ew; omega), Option.bind_some, hc k hk, Option.bind_some]; dsimp only
    rw [if_pos c0, if_pos (by clear ew; simp only [List.length_cons, List.length_nil]; omega), if_pos (by clear ew; omega), hd k hk, Option.bind_some]; dsimp only
    rw [ew]
    clear ew
    rw [if_pos (by omega), if_pos (by omega), if_pos (by rw [ByteArray.size_append]; omega)]
    exact ⟨_, rfl⟩
theorem drawRead {l : List Int} (h : ∀ x ∈ l, (Lit.int .u8 x).wf = true) (k : Nat) (hk : 1000 ≤ k) : ∃ p bs s, spec_DrawReadTerm.f (k + 1) l = some (p, bs, s) ∧ bs.length ≤ 10 ∧ ∀ z ∈ bs, z < 2 ^ 63 := by
  obtain ⟨p, bs, t, p', hdr, hb, ht, hbs, _, _, p0, p1, _⟩ := drawTermed (open_len l) (open_wf h) 0 (by omega) (by omega) 30 (by omega) (by omega)
  have key : ∃ s, spec_TermText.f (k + 1) p bs t = some s ∧ s.size ≤ 1000 := by
    by_cases hT : termB p bs t = true
    · obtain ⟨hh, h9, x, hx, rfl⟩ := term_tree hT
      have := txt_size x
      rw [flat_len] at h9
      exact ⟨_, sTermText_eq hbs hT hx _ (by omega), by omega⟩
    · exact ⟨_, sTermText_no (by omega) hbs (by omega) hT _ (by omega), by decide⟩
  obtain ⟨s, hs, hz⟩ := key
  obtain ⟨v, hv, v0, _⟩ := pick (open_len l) (open_wf h) p' p0 (by omega) 3
  unfold spec_DrawReadTerm.f
  rw [open_eq, Option.bind_some]; dsimp only
  rw [hdr (k + 1) (by omega), Option.bind_some]; dsimp only
  rw [hs, Option.bind_some, hv (k + 1) (by omega), Option.bind_some]; dsimp only
  by_cases e : v = 0
  · rw [if_pos e]
    obtain ⟨s', h'⟩ := drawCut (open_len l) (open_wf h) (p' + 1) (by omega) (by omega) p bs s hz (decide ((s.size : Int) > 0)) (fun h => by have := of_decide_eq_true h; omega) k (by omega)
    exact ⟨p, bs, s', h', hb, hbs⟩
  · rw [if_neg e]
    obtain ⟨s', h'⟩ := drawCut (open_len l) (open_wf h) (p' + 1) (by omega) (by omega) p bs s hz false (fun h => by cases h) k (by omega)
    exact ⟨p, bs, s', h', hb, hbs⟩
theorem main : laws_FnReadTerm.Pure := by
  intro l _ _ h
  refine ⟨1999 + 1, ?_⟩
  unfold laws_FnReadTerm.f
  by_cases hl : (l.length : Int) > 1048576
  · rw [if_pos hl]
  rw [if_neg hl]
  obtain ⟨p, bs, s, hdr, hb, hbs⟩ := drawRead h 1999 (by omega)
  rw [hdr, Option.bind_some]; dsimp only
  by_cases hx : ∃ x, Told p bs s x
  · obtain ⟨x, hT, hg, rfl⟩ := hx
    have h9 := (term_tree hT).2.1
    rw [flat_len] at h9
    have hz := txt_size x
    rw [iRead_eq hT hg _ (by omega), Option.bind_some, sRead_eq hbs hT hg _ (by omega), Option.bind_some]; dsimp only
    rw [sameMarks_eq (by rw [flat_len]; omega) _ (by rw [flat_len]; omega), Option.bind_some, if_pos rfl, laws_FnReadTerm.j0, if_neg (by simp), if_pos rfl, if_pos (by omega), if_pos (by rw [ByteArray.size_append, s40]; omega), iRead_wrap hT hg (by omega) _ (by omega), Option.bind_some]; dsimp only
    rw [iTermText_eq hT hg _ (by omega), Option.bind_some, if_pos rfl, iTermOk_eq (by omega) (by rw [flat_len]; omega) _ (by omega), Option.bind_some, if_pos hT]; rfl
  · rw [iRead_no (by omega) hx _ (by omega), Option.bind_some, sRead_no (by omega) hbs hx _ (by omega), Option.bind_some]; dsimp only
    rw [sameMarks_eq (by simp) _ (by simp), Option.bind_some, if_pos rfl, laws_FnReadTerm.j0, if_neg (by simp), if_neg (by simp), if_pos (by simp), alive_eq, Option.bind_some]

end Go.Proofs.YtoifikhcnioagaaDoor.Pure.fnReadTerm
namespace Go.Proofs.YtoifikhcnioagaaDoor.Pure
open Go.Proofs.YtoifikhcnioagaaDoor.PFnReadTerm
theorem FnReadTerm : laws_FnReadTerm.Pure := fnReadTerm.main
end Go.Proofs.YtoifikhcnioagaaDoor.Pure
