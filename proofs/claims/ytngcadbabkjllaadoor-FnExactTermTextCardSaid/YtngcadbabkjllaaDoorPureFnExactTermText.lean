/- TermText returns what the reference's returns, for all arguments. No condition. -/
import Derived.Test.YtngcadbabkjllaaDoorPFnExactTermTextx11
import Derived.Test.YtngcadbabkjllaaDoorBase
import Derived.Test.YtngcadbabkjllaaDoorBaseHouse
import Derived.Test.YtngcadbabkjllaaDoorBaseTerm
set_option linter.unusedVariables false
set_option linter.unusedSimpArgs false
namespace Go.Proofs.YtngcadbabkjllaaDoor.Pure.fnExactTermText
open Go.RowKit Go.Proofs.YtngcadbabkjllaaDoor.PFnExactTermText Go.Proofs.YtngcadbabkjllaaDoorW.PrintWords Go.Proofs.YtngcadbabkjllaaDoorW.PrintLast Go.Proofs.YtngcadbabkjllaaDoorW.PrintMore Go.Proofs.YtngcadbabkjllaaDoor.Base

theorem toIntS_loop {l : List Int} (hm : l.length ≤ 1000000000) (d : Nat) : ∀ (k i : Nat) (out : List Int), i ≤ l.length → l.length - i = d → out.length = l.length → (∀ j, j < i → out[j]? = l[j]?) → d < k → laws_toIntS.l0 k l out (i : Int) = some l := by
  induction d with
  | zero =>
    intro k i out hi hd hl ho hk
    obtain ⟨k, rfl⟩ : ∃ m, k = m + 1 := ⟨k - 1, by omega⟩
    simp only [laws_toIntS.l0]
    rw [if_neg (by omega), copied hl (fun j hj => ho j (by omega))]
  | succ d ih =>
    intro k i out hi hd hl ho hk
    obtain ⟨k, rfl⟩ : ∃ m, k = m + 1 := ⟨k - 1, by omega⟩
    simp only [laws_toIntS.l0]
    have hlt : i < l.length := by omega
    rw [if_pos (by omega), if_pos (by omega), if_pos (by omega), rd_at hlt, Int.toNat_natCast, wr (by omega) (by omega)]
    exact ih k (i + 1) _ (by omega) (by omega) (by simpa using hl) (copied_step hlt hl ho) (by omega)
theorem toIntS_eq {l : List Int} (hm : l.length ≤ 1048576) (k : Nat) (hk : l.length < k) : laws_toIntS.f k l = some l := by
  unfold laws_toIntS.f
  rw [if_pos (by omega), if_pos (by omega)]
  exact toIntS_loop (by omega) l.length k 0 _ (by omega) (by omega) (by simp) (fun j hj => absurd hj (by omega)) hk

theorem toHouse_eq {l : List Int} (p : Int) (hm : l.length ≤ 1048576) (k : Nat) (hk : l.length < k) : laws_toHouse.f k p l = some (p, l) := by
  unfold laws_toHouse.f; rw [toIntS_eq hm k hk]; rfl

theorem eqIntS_loop {l : List Int} (hm : l.length ≤ 1048576) (d : Nat) : ∀ (k i : Nat), i ≤ l.length → l.length - i = d → d < k → laws_eqIntS.l0 k l l (i : Int) = some true := by
  induction d with
  | zero =>
    intro k i hi hd hk
    obtain ⟨k, rfl⟩ : ∃ m, k = m + 1 := ⟨k - 1, by omega⟩
    simp only [laws_eqIntS.l0]
    rw [if_neg (by omega)]
  | succ d ih =>
    intro k i hi hd hk
    obtain ⟨k, rfl⟩ : ∃ m, k = m + 1 := ⟨k - 1, by omega⟩
    simp only [laws_eqIntS.l0]
    rw [if_pos (by omega), if_pos (by omega), if_pos (by omega), if_pos trivial, wr (by omega) (by omega)]
    exact ih k (i + 1) (by omega) (by omega) (by omega)
theorem eqIntS_eq {l : List Int} (hm : l.length ≤ 1048576) (k : Nat) (hk : l.length < k) : laws_eqIntS.f k l l = some true := by
  unfold laws_eqIntS.f
  rw [if_pos rfl]
  exact eqIntS_loop hm l.length k 0 (by omega) (by omega) hk

theorem eqHouse_eq {l : List Int} (p : Int) (hm : l.length ≤ 1048576) (k : Nat) (hk : l.length < k) : laws_eqHouse.f k p l p l = some true := by
  unfold laws_eqHouse.f; rw [if_pos rfl, eqIntS_eq hm k hk]; rfl

theorem szHouse_eq (p : Int) (l : List Int) (hm : l.length ≤ maxLen) (a : Int) (ha : 0 ≤ a) (ha' : a ≤ 1048576) : laws_szHouse.f p l a = some (if a < l.length then -1 else a - l.length) := by
  unfold maxLen at hm
  unfold laws_szHouse.f laws_szIntS.f
  rw [w64 (by omega) (by omega)]
  by_cases h : a < l.length
  · rw [if_pos (by omega), if_pos h]; rfl
  · rw [if_neg (by omega), if_neg h, Option.bind_some, if_neg (by omega)]

def cv (m : S43) : S41 := ⟨m.f0, m.f1, m.f2⟩
theorem rdL_at {l : List S43} {i : Nat} (h : i < l.length) : rd_T43 l (i : Int) = l[i] := by
  unfold rd_T43; rw [Int.toNat_natCast, List.getD_eq_getElem?_getD, List.getElem?_eq_getElem h, Option.getD_some]

theorem rdT_at {l : List S41} {i : Nat} (h : i < l.length) : rd_T41 l (i : Int) = l[i] := by
  unfold rd_T41; rw [Int.toNat_natCast, List.getD_eq_getElem?_getD, List.getElem?_eq_getElem h, Option.getD_some]
def flat : Tr → List S41
  | .atom a n => [⟨0, a, n⟩]
  | .node o l r => flat l ++ flat r ++ [⟨if o = true then 2 else 1, 0, 0⟩]
theorem flat_len : ∀ t : Tr, (flat t).length = t.len
  | .atom _ _ => rfl
  | .node _ l r => by simp only [flat, Tr.len, List.length_append, flat_len l, flat_len r, List.length_singleton]
/-- What a row of marks does to the number of parts; at the end one is to be left. -/
def tgo (bs : List Int) : List S41 → Int → Bool
  | [], p => p == 1
  | m :: t, p =>
    if m.f0 = 0 then (if 0 ≤ m.f1 ∧ m.f1 < bs.length ∧ 1 ≤ m.f2 ∧ m.f2 ≤ hd (rd bs m.f1) then tgo bs t (p + 1) else false)
    else if m.f0 = 1 ∨ m.f0 = 2 then (if m.f1 = 0 ∧ m.f2 = 0 ∧ 2 ≤ p then tgo bs t (p - 1) else false)
    else false
def termB (p : Int) (bs : List Int) (t : List S41) : Bool := houseB p bs && (decide (1 ≤ t.length ∧ t.length ≤ 9) && tgo bs t 0)
def flats : List Tr → List S41
  | [] => []
  | t :: ts => flat t ++ flats ts
theorem flats_append : ∀ a b : List Tr, flats (a ++ b) = flats a ++ flats b
  | [], b => rfl
  | t :: a, b => by simp only [List.cons_append, flats, flats_append a b, List.append_assoc]
theorem two_last {l : List Tr} (h : 2 ≤ l.length) : ∃ s a b, l = s ++ [a, b] := by
  obtain ⟨b, hb⟩ : ∃ b, b = l.length - 2 := ⟨_, rfl⟩
  refine ⟨l.take b, l[b]'(by omega), l[b + 1]'(by omega), ?_⟩
  have e : l.drop b = [l[b]'(by omega), l[b + 1]'(by omega)] := by
    rw [List.drop_eq_getElem_cons (by omega), List.drop_eq_getElem_cons (by omega), List.drop_of_length_le (by omega)]
  rw [← e, List.take_append_drop]
/-- A row of marks that leaves one part is a tree, written down. -/
theorem parse {bs : List Int} : ∀ (t : List S41) (st : List Tr), (∀ x ∈ st, x.good bs) → tgo bs t (st.length : Int) = true → ∃ x : Tr, x.good bs ∧ flat x = flats st ++ t
  | [], st, hg, h => by
    simp only [tgo, beq_iff_eq] at h
    match st, h with
    | [x], _ => exact ⟨x, hg x (by simp), by simp [flats]⟩
  | m :: t, st, hg, h => by
    simp only [tgo] at h
    by_cases h0 : m.f0 = 0
    · rw [if_pos h0] at h
      by_cases hc : 0 ≤ m.f1 ∧ m.f1 < bs.length ∧ 1 ≤ m.f2 ∧ m.f2 ≤ hd (rd bs m.f1)
      · rw [if_pos hc] at h
        obtain ⟨x, hx, e⟩ := parse t (st ++ [.atom m.f1 m.f2]) (fun x hx => by
          rcases List.mem_append.1 hx with hx | hx
          · exact hg x hx
          · rw [List.mem_singleton.1 hx]; exact hc) (by rw [List.length_append]; simpa using h)
        refine ⟨x, hx, ?_⟩
        rw [e, flats_append, List.append_assoc]
        congr 1
        simp only [flats, flat, List.append_nil, List.singleton_append]
        congr 1
        rw [← h0]
      · rw [if_neg hc] at h; exact absurd h (by simp)
    · rw [if_neg h0] at h
      by_cases h1 : m.f0 = 1 ∨ m.f0 = 2
      · rw [if_pos h1] at h
        by_cases hc : m.f1 = 0 ∧ m.f2 = 0 ∧ 2 ≤ (st.length : Int)
        · rw [if_pos hc] at h
          obtain ⟨s, a, b, rfl⟩ := two_last (l := st) (by omega)
          obtain ⟨x, hx, e⟩ := parse t (s ++ [.node (decide (m.f0 = 2)) a b]) (fun x hx => by
            rcases List.mem_append.1 hx with hx | hx
            · exact hg x (by simp [hx])
            · rw [List.mem_singleton.1 hx]; exact ⟨hg a (by simp), hg b (by simp)⟩) (by
              have : (((s ++ [a, b]).length : Nat) : Int) - 1 = (((s ++ [Tr.node (decide (m.f0 = 2)) a b]).length : Nat) : Int) := by simp; omega
              rw [← this]; exact h)
          refine ⟨x, hx, ?_⟩
          rw [e, flats_append, flats_append, List.append_assoc, List.append_assoc]
          congr 1
          simp only [flats, flat, List.append_nil, List.append_assoc, List.singleton_append]
          congr 3
          obtain ⟨m0, m1, m2⟩ := m
          simp only at h1 hc
          obtain ⟨rfl, rfl, _⟩ := hc
          rcases h1 with rfl | rfl <;> rfl
        · rw [if_neg hc] at h; exact absurd h (by simp)
      · rw [if_neg h1] at h; exact absurd h (by simp)
theorem flat_go {bs : List Int} : ∀ (x : Tr), x.good bs → ∀ (t : List S41) (p : Int), 0 ≤ p → tgo bs (flat x ++ t) p = tgo bs t (p + 1)
  | .atom a n, h, t, p, hp => by
    simp only [flat, List.singleton_append, tgo, if_true]
    exact if_pos h
  | .node o l r, h, t, p, hp => by
    simp only [flat, List.append_assoc]
    rw [flat_go l h.1 _ p hp, flat_go r h.2 _ (p + 1) (by omega)]
    simp only [List.singleton_append, tgo]
    rw [if_neg (by cases o <;> simp), if_pos (by cases o <;> simp), if_pos ⟨trivial, trivial, by omega⟩]
    congr 1; omega
theorem term_tree {p : Int} {bs : List Int} {t : List S41} (h : termB p bs t = true) : houseB p bs = true ∧ t.length ≤ 9 ∧ ∃ x : Tr, x.good bs ∧ flat x = t := by
  simp only [termB, Bool.and_eq_true, decide_eq_true_eq] at h
  obtain ⟨x, hx, e⟩ := parse t [] (by simp) (by simpa using h.2.2)
  exact ⟨h.1, h.2.1.2, x, hx, by simpa [flats] using e⟩
theorem tree_term {p : Int} {bs : List Int} {x : Tr} (hh : houseB p bs = true) (hx : x.good bs) (hl : x.len ≤ 9) : termB p bs (flat x) = true := by
  have := flat_go x hx [] 0 (by omega)
  rw [List.append_nil] at this
  simp only [termB, Bool.and_eq_true, decide_eq_true_eq, flat_len]
  exact ⟨hh, ⟨x.len_pos, hl⟩, by rw [this]; rfl⟩

theorem toMarkS_loop {l : List S43} (hm : l.length ≤ 1048576) (d : Nat) : ∀ (k i : Nat) (out : List S41), i ≤ l.length → l.length - i = d → out.length = l.length → (∀ j, j < i → out[j]? = (l.map cv)[j]?) → d < k → laws_toMarkS.l0 k l out (i : Int) = some (l.map cv) := by
  induction d with
  | zero =>
    intro k i out hi hdd hl ho hk
    obtain ⟨k, rfl⟩ : ∃ m, k = m + 1 := ⟨k - 1, by omega⟩
    rw [laws_toMarkS.l0, if_neg (by omega), copied (l := l.map cv) (by simpa using hl) (fun j hj => ho j (by simp at hj; omega))]
  | succ d ih =>
    intro k i out hi hdd hl ho hk
    obtain ⟨k, rfl⟩ : ∃ m, k = m + 1 := ⟨k - 1, by omega⟩
    have hlt : i < l.length := by omega
    rw [laws_toMarkS.l0, if_pos (by omega), if_pos (by omega), rdL_at hlt, laws_toMark.f, Option.bind_some]; dsimp only
    rw [if_pos (by omega), Int.toNat_natCast, wr (by omega) (by omega)]
    refine ih k (i + 1) _ (by omega) (by omega) (by simpa using hl) ?_ (by omega)
    have := copied_step (l := l.map cv) (out := out) (i := i) (by simpa using hlt) (by simpa using hl) ho
    rw [List.getElem_map] at this
    exact this
theorem toMarkS_eq {l : List S43} (hm : l.length ≤ 1048576) (k : Nat) (hk : l.length < k) : laws_toMarkS.f k l = some (l.map cv) := by
  unfold laws_toMarkS.f
  rw [if_pos (by omega), if_pos (by omega)]
  exact toMarkS_loop hm l.length k 0 _ (by omega) (by omega) (by simp) (fun j hj => absurd hj (by omega)) hk

theorem eqMarkS_loop {l : List S41} (hm : l.length ≤ 1048576) (d : Nat) : ∀ (k i : Nat), i ≤ l.length → l.length - i = d → d < k → laws_eqMarkS.l0 k l l (i : Int) = some true := by
  induction d with
  | zero =>
    intro k i hi hdd hk
    obtain ⟨k, rfl⟩ : ∃ m, k = m + 1 := ⟨k - 1, by omega⟩
    rw [laws_eqMarkS.l0, if_neg (by omega)]
  | succ d ih =>
    intro k i hi hdd hk
    obtain ⟨k, rfl⟩ : ∃ m, k = m + 1 := ⟨k - 1, by omega⟩
    rw [laws_eqMarkS.l0, if_pos (by omega), if_pos (by omega), if_pos (by omega), laws_eqMark.f, if_pos rfl, if_pos rfl, if_pos rfl, Option.bind_some, if_pos rfl, wr (by omega) (by omega)]
    exact ih k (i + 1) (by omega) (by omega) (by omega)
theorem eqMarkS_eq {l : List S41} (hm : l.length ≤ 1048576) (k : Nat) (hk : l.length < k) : laws_eqMarkS.f k l l = some true := by
  unfold laws_eqMarkS.f
  rw [if_pos rfl]
  exact eqMarkS_loop hm l.length k 0 (by omega) (by omega) hk

theorem szMarkS_eq (l : List S43) (hm : l.length ≤ maxLen) (a : Int) (ha : 0 ≤ a) (ha' : a ≤ 1048576) : laws_szMarkS.f l a = some (if a < l.length then -1 else a - l.length) := by
  unfold maxLen at hm
  unfold laws_szMarkS.f
  rw [w64 (by omega) (by omega)]
  by_cases h : a < l.length
  · rw [if_pos (by omega), if_pos h]
  · rw [if_neg (by omega), if_neg h]

/-- A house's bodies are numbers of Go's. -/
theorem small {bs : List Int} (h : ∀ z ∈ bs, (Lit.int .i64 z).wf = true) : ∀ z ∈ bs, z < 2 ^ 63 := fun z hz => by have := wf_i64 (h z hz); omega
theorem cv_len (t : List S43) : (t.map cv).length = t.length := List.length_map _

/-- In brackets, if it is told so. -/
def wrp (b : Bool) (s : ByteArray) : ByteArray := if b = true then (((⟨#[40]⟩ : ByteArray) ++ s) ++ (⟨#[41]⟩ : ByteArray)) else s
def dig (n : Int) : ByteArray := strOfNums [(wrap64 (48 + (mx n 0))) % 256]
def let1 (a : Int) : ByteArray := strOfNums [(wrap64 (65 + a)) % 256]
def isOr : Tr → Bool
  | .atom _ _ => false
  | .node o _ _ => o
def isNode : Tr → Bool
  | .atom _ _ => false
  | .node _ _ _ => true
/-- The text of a term. -/
def txt : Tr → ByteArray
  | .atom a n => let1 a ++ dig n
  | .node o l r => if o = true then (txt l ++ (⟨#[124]⟩ : ByteArray)) ++ wrp (isOr r) (txt r) else (wrp (isOr l) (txt l) ++ (⟨#[38]⟩ : ByteArray)) ++ wrp (isNode r) (txt r)
theorem s40 : (⟨#[40]⟩ : ByteArray).size = 1 := rfl
theorem s41 : (⟨#[41]⟩ : ByteArray).size = 1 := rfl
theorem s38 : (⟨#[38]⟩ : ByteArray).size = 1 := rfl
theorem s124 : (⟨#[124]⟩ : ByteArray).size = 1 := rfl
theorem dig_size (n : Int) : (dig n).size = 1 := rfl
theorem let_size (a : Int) : (let1 a).size = 1 := rfl
theorem wrp_size (b : Bool) (s : ByteArray) : (wrp b s).size ≤ s.size + 2 := by
  unfold wrp; split
  · simp only [ByteArray.size_append, s40, s41]; omega
  · omega
theorem txt_size : ∀ x : Tr, (txt x).size ≤ 8 * x.len
  | .atom a n => by simp only [txt, ByteArray.size_append, dig_size, let_size, Tr.len]; omega
  | .node o l r => by
    have hl := txt_size l
    have hr := txt_size r
    have a := wrp_size (isOr r) (txt r)
    have b := wrp_size (isOr l) (txt l)
    have c := wrp_size (isNode r) (txt r)
    simp only [txt, Tr.len]
    split
    · simp only [ByteArray.size_append, s124]; omega
    · simp only [ByteArray.size_append, s38]; omega
/-- The kind of a term's last mark. -/
def kindT : Tr → Int
  | .atom _ _ => 0
  | .node o _ _ => if o = true then 2 else 1
theorem kind_or (x : Tr) : kindT x = 2 ↔ isOr x = true := by
  cases x with
  | atom a n => simp [kindT, isOr]
  | node o l r => cases o <;> simp [kindT, isOr]
theorem kind_atom (x : Tr) : kindT x = 0 ↔ isNode x = false := by
  cases x with
  | atom a n => simp [kindT, isNode]
  | node o l r => cases o <;> simp [kindT, isNode]
theorem last_kind : ∀ (x : Tr) (h : x.len - 1 < (flat x).length), ((flat x)[x.len - 1]'h).f0 = kindT x
  | .atom a n, _ => rfl
  | .node o l r, h => by
    have e : (flat (.node o l r)) = (flat l ++ flat r) ++ [(⟨if o = true then 2 else 1, 0, 0⟩ : S41)] := by simp only [flat]
    have hl : (flat l ++ flat r).length = l.len + r.len := by rw [List.length_append, flat_len, flat_len]
    have key : ∀ (T : List S41) (hT : T = (flat l ++ flat r) ++ [(⟨if o = true then 2 else 1, 0, 0⟩ : S41)]) (i : Nat) (hi : i = l.len + r.len) (hb : i < T.length), (T[i]'hb).f0 = kindT (.node o l r) := by
      rintro T rfl i rfl hb
      rw [List.getElem_append_right (by omega)]
      simp [hl, kindT]
    exact key _ e _ (by simp only [Tr.len]; omega) h

theorem arePeople_eq (p : Int) : impl_arePeople.f p = some (decide (1 ≤ p ∧ p ≤ 6)) := by
  unfold impl_arePeople.f
  by_cases h : p ≥ 1
  · rw [if_pos h]; congr 1; simp [show 1 ≤ p from h]
  · rw [if_neg h]; congr 1; simp; omega
theorem isCrowd_eq (p c : Int) : impl_isCrowd.f p c = some (okC p c) := by
  unfold impl_isCrowd.f
  rw [arePeople_eq]
  simp only [Option.bind_some]
  by_cases h : 1 ≤ p ∧ p ≤ 6
  · rw [if_pos (by simpa using h)]
    by_cases h0 : c ≥ 0
    · rw [if_pos h0, if_pos (by omega), shl1 (by omega) h.2]
      congr 1
      rw [Bool.eq_iff_iff, okC_iff]; simp; omega
    · rw [if_neg h0]; congr 1
      symm; rw [Bool.eq_false_iff]; intro hc; rw [okC_iff] at hc; omega
  · rw [if_neg (by simpa using h)]; congr 1
    symm; rw [Bool.eq_false_iff]; intro hc; rw [okC_iff] at hc; omega

theorem isHouse_loop {p : Int} {bs : List Int} (hm : bs.length ≤ 1048576) (d : Nat) : ∀ (k i : Nat), i ≤ bs.length → bs.length - i = d → d < k →
    impl_isHouse.l0 k bs (bs.length : Int) (i : Int) p bs = some ((bs.drop i).all (goodB p) && (decide (1 ≤ p ∧ p ≤ 6) && decide ((bs.length : Int) ≤ 4))) := by
  induction d with
  | zero =>
    intro k i hi hd hk
    obtain ⟨k, rfl⟩ : ∃ m, k = m + 1 := ⟨k - 1, by omega⟩
    simp only [impl_isHouse.l0]
    rw [if_neg (by omega), List.drop_of_length_le (by omega), arePeople_eq, Option.bind_some]
    by_cases h : 1 ≤ p ∧ p ≤ 6
    · rw [if_pos (by simpa using h)]; simp [h]
    · rw [if_neg (by simpa using h)]; simp [h]
  | succ d ih =>
    intro k i hi hd hk
    obtain ⟨k, rfl⟩ : ∃ m, k = m + 1 := ⟨k - 1, by omega⟩
    simp only [impl_isHouse.l0]
    have hlt : i < bs.length := by omega
    rw [if_pos (by omega), if_pos (by omega), if_pos (by omega), rd_at hlt, isCrowd_eq, Option.bind_some, all_drop hlt]
    by_cases hg : okC p bs[i] = true
    · rw [if_pos hg]
      by_cases hz : bs[i] = 0
      · rw [if_pos hz]; simp [goodB, hz]
      · rw [if_neg hz, wr (by omega) (by omega)]
        rw [show goodB p bs[i] = true from by simp [goodB, hg, hz], Bool.true_and]
        exact ih k (i + 1) (by omega) (by omega) (by omega)
    · rw [if_neg hg]; simp [goodB, hg]
theorem isHouse_eq {bs : List Int} (p : Int) (hm : bs.length ≤ 1048576) (k : Nat) (hk : bs.length < k) : impl_isHouse.f k p bs = some (houseB p bs) := by
  unfold impl_isHouse.f houseB
  exact isHouse_loop hm bs.length k 0 (by omega) (by omega) hk

theorem heads_all : ∀ c : Fin 64, impl_headsOf.f c.val = some (hd c.val) := by decide +kernel
theorem iHeads_eq {c : Int} (h0 : 0 ≤ c) (h1 : c < 64) : impl_headsOf.f c = some (hd c) := all64 (P := fun c => impl_headsOf.f c = some (hd c)) heads_all c h0 h1

theorem isTerm_loop {p : Int} {bs : List Int} {t : List S41} (hh : houseB p bs = true) (ht : t.length ≤ 9) (d : Nat) : ∀ (k i : Nat) (ps : Int), i ≤ t.length → t.length - i = d → 0 ≤ ps → ps ≤ 100 + i → 2 * d + 1 ≤ k →
    impl_isTerm.l0 k ps t (t.length : Int) (i : Int) p bs = some (tgo bs (t.drop i) ps) := by
  have hl := (houseB_iff.1 hh).2.2
  induction d with
  | zero =>
    intro k i ps hi hdd _ _ hk
    obtain ⟨k, rfl⟩ : ∃ m, k = m + 1 := ⟨k - 1, by omega⟩
    rw [impl_isTerm.l0, if_neg (by omega), List.drop_of_length_le (by omega)]
    rfl
  | succ d ih =>
    intro k i ps hi hdd p0 p1 hk
    obtain ⟨k, rfl⟩ : ∃ m, k = m + 2 := ⟨k - 2, by omega⟩
    have hlt : i < t.length := by omega
    have up := ih (k + 1) (i + 1) (ps + 1) (by omega) (by omega) (by omega) (by omega) (by omega)
    have e1 : (((i + 1 : Nat)) : Int) = (i : Int) + 1 := by omega
    rw [e1] at up
    rw [impl_isTerm.l0, if_pos (by omega), if_pos (by omega), if_pos (by omega), rdT_at hlt, List.drop_eq_getElem_cons hlt, tgo]
    generalize t[i] = m
    by_cases h0 : m.f0 = 0
    · rw [if_pos h0, if_pos h0]
      by_cases a : m.f1 < 0
      · rw [if_pos a, if_neg (by omega)]
      · rw [if_neg a]
        by_cases b : m.f1 ≥ bs.length
        · rw [if_pos b, if_neg (by omega)]
        · rw [if_neg b]
          by_cases c : m.f2 < 1
          · rw [if_pos c, if_neg (by omega)]
          · obtain ⟨_, _, c0, c64, _⟩ := okC_lt (Tr.body_ok hh (a := m.f1) (by omega) (by omega))
            rw [if_neg c, if_pos (by omega), if_pos (by omega), iHeads_eq c0 c64, Option.bind_some]
            by_cases e : m.f2 > hd (rd bs m.f1)
            · rw [if_pos e, if_neg (by omega)]
            · rw [if_neg e, if_pos (by omega), wr p0 (by omega), wr (by omega) (by omega)]
              exact up
    · have j : ∀ b : Bool, b = decide (m.f0 = 1 ∨ m.f0 = 2) → impl_isTerm.j2 (k + 1) ps t (t.length : Int) (i : Int) b p bs m.f0 m.f1 m.f2 = some (if m.f0 = 1 ∨ m.f0 = 2 then (if m.f1 = 0 ∧ m.f2 = 0 ∧ 2 ≤ ps then tgo bs (t.drop (i + 1)) (ps - 1) else false) else false) := by
        intro b hb
        rw [impl_isTerm.j2]
        by_cases h1 : m.f0 = 1 ∨ m.f0 = 2
        · rw [decide_eq_true h1] at hb
          rw [if_pos hb, if_pos h1]
          by_cases a : m.f1 = 0
          · by_cases c : m.f2 = 0
            · by_cases e : ps < 2
              · rw [if_pos a, if_pos c, if_pos e, if_neg (by omega)]
              · have dn := ih k (i + 1) (ps - 1) (by omega) (by omega) (by omega) (by omega) (by omega)
                rw [e1] at dn
                rw [if_pos a, if_pos c, if_neg e, if_pos (by omega), w64 (x := ps - 1) (by omega) (by omega), wr (by omega) (by omega)]
                exact dn
            · rw [if_pos a, if_neg c, if_neg (by omega)]
          · rw [if_neg a, if_neg (by omega)]
        · rw [decide_eq_false h1] at hb
          rw [if_neg (by simp [hb]), if_neg h1]
      rw [if_neg h0, if_neg h0]
      by_cases h1 : m.f0 = 1
      · rw [if_pos h1]; exact j _ (by rw [Bool.eq_iff_iff]; simp [h1])
      · rw [if_neg h1]; exact j _ (by rw [Bool.eq_iff_iff]; simp [h1])
theorem isTerm_eq {p : Int} {bs : List Int} {t : List S41} (hb : bs.length ≤ 1048576) (ht : t.length ≤ 1048576) (k : Nat) (hk : bs.length + 50 ≤ k) : impl_isTerm.f k p bs t = some (termB p bs t) := by
  have j : ∀ (k : Nat) (b : Bool), 40 ≤ k → houseB p bs = true → b = decide (t.length > 9) → impl_isTerm.j0 k t b p bs = some (if t.length ≤ 9 then tgo bs t 0 else false) := by
    intro k b hk hh hb
    obtain ⟨k, rfl⟩ : ∃ m, k = m + 1 := ⟨k - 1, by omega⟩
    rw [impl_isTerm.j0]
    by_cases h : t.length > 9
    · rw [decide_eq_true h] at hb
      rw [if_pos hb, if_neg (by omega)]
    · rw [decide_eq_false h] at hb
      rw [if_neg (by simp [hb]), if_pos (by omega)]
      exact isTerm_loop hh (by omega) t.length k 0 0 (by omega) (by omega) (by omega) (by omega) (by omega)
  have j1 : ∀ k, 1 ≤ k → impl_isTerm.j0 k t true p bs = some false := by
    intro k hk
    obtain ⟨k, rfl⟩ : ∃ m, k = m + 1 := ⟨k - 1, by omega⟩
    rw [impl_isTerm.j0, if_pos rfl]
  unfold impl_isTerm.f termB
  rw [isHouse_eq p hb k (by omega), Option.bind_some]
  by_cases hh : houseB p bs = true
  · rw [if_pos hh, hh, Bool.true_and]
    by_cases h1 : (t.length : Int) < 1
    · rw [if_pos h1, j1 k (by omega), decide_eq_false (by omega), Bool.false_and]
    · rw [if_neg h1, j k _ (by omega) hh (by rw [decide_eq_decide]; omega)]
      by_cases h9 : t.length ≤ 9
      · rw [if_pos h9, decide_eq_true (by omega), Bool.true_and]
      · rw [if_neg h9, decide_eq_false (by omega), Bool.false_and]
  · rw [if_neg hh, j1 k (by omega)]; simp [hh]

theorem at_drop {α : Type} {l : List α} {i : Nat} {m : α} {post : List α} (h : l.drop i = m :: post) : ∃ hlt : i < l.length, l[i] = m ∧ l.drop (i + 1) = post := by
  have hlt : i < l.length := by
    by_cases hi : i < l.length
    · exact hi
    · rw [List.drop_of_length_le (by omega)] at h; cases h
  rw [List.drop_eq_getElem_cons hlt] at h
  injection h with h1 h2
  exact ⟨hlt, h1, h2⟩
theorem drop_more {α : Type} {l a post : List α} {i n : Nat} (h : l.drop i = a ++ post) (hn : a.length = n) : l.drop (i + n) = post := by
  rw [← List.drop_drop, h, ← hn, List.drop_left]

theorem rdP_at {l : List S54} {i : Nat} (h : i < l.length) : rd_T54 l (i : Int) = l[i] := by
  unfold rd_T54; rw [Int.toNat_natCast, List.getD_eq_getElem?_getD, List.getElem?_eq_getElem h, Option.getD_some]
def part (x : Tr) : S54 := ⟨txt x, isOr x, (x.len : Int)⟩
theorem letter {a : Int} (h0 : 0 ≤ a) (h4 : a < 4) : (⟨#[65, 66, 67, 68]⟩ : ByteArray).extract a.toNat (a + 1).toNat = let1 a := by
  have : a = 0 ∨ a = 1 ∨ a = 2 ∨ a = 3 := by omega
  rcases this with rfl | rfl | rfl | rfl <;> decide +kernel
theorem itoa_eq (k : Nat) {n : Int} (h0 : 0 ≤ n) (h1 : n < 10) : strconv_Itoa.f k n = some (strOfNums [(wrap64 (48 + (mx n 0))) % 256]) := if_pos ⟨h0, h1⟩
theorem wrapped_eq (b : Bool) (s : ByteArray) (h : s.size ≤ 1000) : impl_wrapped.f s b = some (wrp b s) := by
  unfold impl_wrapped.f wrp
  cases b with
  | true => rw [if_pos rfl, if_pos (by omega), if_pos (by rw [ByteArray.size_append, s40]; omega), if_pos rfl]
  | false => rw [if_neg (by simp), if_neg (by simp)]
theorem tx_atom {t : List S41} (ht : t.length ≤ 9) {a n : Int} (a0 : 0 ≤ a) (a4 : a < 4) (n0 : 0 ≤ n) (n10 : n < 10) {i : Nat} {post : List S41} (h : t.drop i = ⟨0, a, n⟩ :: post) (st : List S54) (hs : st.length ≤ 100) (k : Nat) (hk : 1 ≤ k) :
    impl_termText.l0 (k + 1) st t (t.length : Int) (i : Int) = impl_termText.l0 k (st ++ [part (.atom a n)]) t (t.length : Int) ((i + 1 : Nat) : Int) := by
  obtain ⟨hlt, e, _⟩ := at_drop h
  have hl := letter a0 a4
  have hit := itoa_eq k n0 n10
  rw [impl_termText.l0, if_pos (by omega), if_pos (by omega), if_pos (by omega), rdT_at hlt, e]; dsimp only
  rw [if_pos rfl, if_pos a0, w64 (x := a + 1) (by omega) (by omega), if_pos (by omega), if_pos (by omega), hit, Option.bind_some, hl, if_pos (by rw [let_size]; show 1 + (dig n).size ≤ _; rw [dig_size]; omega), if_pos (by omega), wr (by omega) (by omega)]
  rfl
theorem rdP_last2 (s : List S54) (A B : S54) : rd_T54 (s ++ [A, B]) ((s.length : Nat) : Int) = A ∧ rd_T54 (s ++ [A, B]) (((s.length : Nat) : Int) + 1) = B := by
  constructor
  · unfold rd_T54
    rw [Int.toNat_natCast, List.getD_eq_getElem?_getD, List.getElem?_append_right (Nat.le_refl _)]; simp
  · unfold rd_T54
    rw [show (((s.length : Nat) : Int) + 1).toNat = s.length + 1 from by omega, List.getD_eq_getElem?_getD, List.getElem?_append_right (by omega)]
    simp
theorem tx_node {t : List S41} (ht : t.length ≤ 9) (o : Bool) {i : Nat} {post : List S41} (h : t.drop i = ⟨if o = true then 2 else 1, 0, 0⟩ :: post) (s : List S54) (l r : Tr) (hs : s.length ≤ 100) (hlr : l.len + r.len ≤ 90) (k : Nat) :
    impl_termText.l0 (k + 1) (s ++ [part l, part r]) t (t.length : Int) (i : Int) = impl_termText.l0 k (s ++ [part (.node o l r)]) t (t.length : Int) ((i + 1 : Nat) : Int) := by
  obtain ⟨hlt, e, _⟩ := at_drop h
  have hl : (s ++ [part l, part r]).length = s.length + 2 := by simp
  have e2 : wrap64 (((s ++ [part l, part r]).length : Int) - 2) = (s.length : Int) := by rw [hl, w64 (by omega) (by omega)]; omega
  have e1 : wrap64 (((s ++ [part l, part r]).length : Int) - 1) = (s.length : Int) + 1 := by rw [hl, w64 (by omega) (by omega)]; omega
  obtain ⟨rA, rB⟩ := rdP_last2 s (part l) (part r)
  have tk : (s ++ [part l, part r]).take s.length = s := List.take_left
  have hp : (s.length : Int) ≤ ((s.length + 2 : Nat) : Int) := by omega
  have hq : s.length < 4398046511104 := by omega
  have sl := txt_size l
  have sr := txt_size r
  have em : wrap64 (wrap64 ((l.len : Int) + (r.len : Int)) + 1) = ((l.len + r.len + 1 : Nat) : Int) := by rw [w64 (x := (l.len : Int) + r.len) (by omega) (by omega), w64 (by omega) (by omega)]; omega
  have ew : wrap64 ((i : Int) + 1) = ((i + 1 : Nat) : Int) := by rw [wr (by omega) (by omega)]; omega
  have lr := r.len_pos
  have mk : ∀ inst : Decidable ((part r).f2 > 1), @decide ((part r).f2 > 1) inst = isNode r := by
    intro inst
    cases r with
    | atom a n => exact decide_eq_false (by simp only [part, Tr.len]; omega)
    | node o l' r' => exact decide_eq_true (by have := l'.len_pos; simp only [part, Tr.len]; omega)
  rw [impl_termText.l0, if_pos (by clear e1 e2 em ew; omega), if_pos (by clear e1 e2 em ew; omega), if_pos (by clear e1 e2 em ew; omega), rdT_at hlt, e, e2, e1, hl]; dsimp only
  rw [if_neg (by cases o <;> simp), if_pos (by clear e1 e2 em ew; omega), if_pos (by clear e1 e2 em ew; omega), if_pos (by clear e1 e2 em ew; omega), if_pos (by clear e1 e2 em ew; omega), rA, rB, Int.toNat_natCast, tk, mk]
  simp only [if_pos hp, Option.bind_some, if_pos hq, part, em, ew]
  clear e1 e2 em ew
  have w1 := wrp_size (isOr r) (txt r)
  have w2 := wrp_size (isOr l) (txt l)
  have w3 := wrp_size (isNode r) (txt r)
  cases o with
  | true =>
    rw [if_pos (by simp), if_pos (by omega), wrapped_eq _ _ (by omega), Option.bind_some, if_pos (by rw [ByteArray.size_append, s124]; omega)]
    simp only [txt, isOr, Tr.len]
    rfl
  | false =>
    rw [if_neg (by simp), wrapped_eq _ _ (by omega), Option.bind_some, if_pos (by omega), wrapped_eq _ _ (by omega), Option.bind_some, if_pos (by rw [ByteArray.size_append, s38]; omega)]
    simp only [txt, isOr, Tr.len]
    rfl
theorem tx_flat {bs : List Int} {t : List S41} (hbl : bs.length ≤ 4) (hbs : ∀ a : Int, 0 ≤ a → a < bs.length → hd (rd bs a) ≤ 6) (ht : t.length ≤ 9) : ∀ (x : Tr), x.good bs → ∀ (i : Nat) (post : List S41) (st : List S54) (k : Nat), t.drop i = flat x ++ post → st.length + x.len ≤ 90 → 1 ≤ k →
    impl_termText.l0 (k + x.len) st t (t.length : Int) (i : Int) = impl_termText.l0 k (st ++ [part x]) t (t.length : Int) ((i + x.len : Nat) : Int)
  | .atom a n, hg, i, post, st, k, h, hs, hk => by
    obtain ⟨g0, g1, g2, g3⟩ := hg
    have := hbs a g0 g1
    exact tx_atom ht g0 (by omega) (by omega) (by omega) h st (by simp only [Tr.len] at hs; omega) k hk
  | .node o l r, hg, i, post, st, k, h, hs, hk => by
    simp only [flat, List.append_assoc] at h
    simp only [Tr.len] at hs ⊢
    have h2 := drop_more h (flat_len l)
    have h3 := drop_more h2 (flat_len r)
    rw [show k + (l.len + r.len + 1) = (k + 1 + r.len) + l.len from by omega, tx_flat hbl hbs ht l hg.1 i _ st _ h (by omega) (by omega), tx_flat hbl hbs ht r hg.2 _ _ _ _ h2 (by simp; omega) (by omega)]
    rw [List.append_assoc]
    have := tx_node ht o h3 st l r (by omega) (by omega) k
    rw [show i + l.len + r.len + 1 = i + (l.len + r.len + 1) from by omega] at this
    exact this
theorem iText_eq {bs : List Int} {x : Tr} (hbl : bs.length ≤ 4) (hbs : ∀ a : Int, 0 ≤ a → a < bs.length → hd (rd bs a) ≤ 6) (hx : x.good bs) (hl : x.len ≤ 9) (k : Nat) (hk : 12 ≤ k) : impl_termText.f k (flat x) = some (txt x) := by
  unfold impl_termText.f
  obtain ⟨j, rfl⟩ : ∃ j, k = j + 1 + x.len := ⟨k - 1 - x.len, by omega⟩
  have := tx_flat (t := flat x) hbl hbs (by rw [flat_len]; exact hl) x hx 0 [] [] (j + 1) (by simp) (by simp; omega) (by omega)
  rw [show ((0 : Nat) : Int) = 0 from rfl] at this
  rw [this, impl_termText.l0, if_neg (by rw [flat_len]; omega), List.nil_append, if_pos (by simp)]
  rfl

theorem starts_flat {t : List S41} (ht : t.length ≤ 9) : ∀ (x : Tr) (i : Nat) (post : List S41) (need : Int) (k : Nat), t.drop i = flat x ++ post → 1 ≤ need → need + x.len ≤ 100 →
    spec_l3Starts.l0 (k + x.len) t need (((i + x.len : Nat) : Int) - 1) = spec_l3Starts.l0 k t (need - 1) ((i : Int) - 1)
  | .atom a n, i, post, need, k, h, hn, hs => by
    obtain ⟨hlt, e, _⟩ := at_drop (m := ⟨0, a, n⟩) (post := post) h
    simp only [Tr.len]
    rw [show ((i + 1 : Nat) : Int) - 1 = (i : Int) from by omega, spec_l3Starts.l0, if_pos (by omega), if_pos (by omega), if_pos (by omega), rdT_at hlt, e]; dsimp only
    rw [if_pos rfl, w64 (x := need - 1) (by omega) (by omega), w64 (x := (i : Int) - 1) (by omega) (by omega)]
  | .node o l r, i, post, need, k, h, hn, hs => by
    simp only [flat, List.append_assoc] at h
    simp only [Tr.len] at hs ⊢
    have h2 := drop_more h (flat_len l)
    have h3 := drop_more h2 (flat_len r)
    obtain ⟨hlt, e, _⟩ := at_drop (m := (⟨if o = true then 2 else 1, 0, 0⟩ : S41)) (post := post) h3
    rw [show k + (l.len + r.len + 1) = (k + l.len + r.len) + 1 from by omega, show ((i + (l.len + r.len + 1) : Nat) : Int) - 1 = ((i + l.len + r.len : Nat) : Int) from by omega, spec_l3Starts.l0, if_pos (by omega), if_pos (by omega), if_pos (by omega), rdT_at hlt, e]; dsimp only
    rw [if_neg (by cases o <;> simp), wr (A := need) (by omega) (by omega), w64 (x := ((i + l.len + r.len : Nat) : Int) - 1) (by omega) (by omega)]
    rw [starts_flat ht r _ _ (need + 1) (k + l.len) h2 (by omega) (by omega), show need + 1 - 1 = need from by omega, starts_flat ht l i _ need k h hn (by omega)]
theorem starts_eq {l r : Tr} {m : S41} (hl : l.len + r.len ≤ 8) (k : Nat) (hk : 10 ≤ k) : spec_l3Starts.f k (flat l ++ (flat r ++ [m])) (((l.len + r.len : Nat) : Int) - 1) = some (l.len : Int) := by
  unfold spec_l3Starts.f
  obtain ⟨j, rfl⟩ : ∃ j, k = j + 1 + r.len := ⟨k - 1 - r.len, by omega⟩
  have := starts_flat (t := flat l ++ (flat r ++ [m])) (by simp [flat_len]; omega) r l.len [m] 1 (j + 1) (by rw [← flat_len l, List.drop_left]) (by omega) (by omega)
  rw [this, show (1 : Int) - 1 = 0 from rfl, spec_l3Starts.l0, if_neg (by omega), w64 (by omega) (by omega)]
  congr 1; omega

theorem number_eq {n : Int} (h : n < 10) (k : Nat) (hk : 1 ≤ k) : spec_l1Number.f k n = some (strOfNums [(wrap64 (48 + (mx n 0))) % 256]) := by
  obtain ⟨k, rfl⟩ : ∃ m, k = m + 1 := ⟨k - 1, by omega⟩
  rw [spec_l1Number.f, if_pos h]

theorem sText_flat {bs : List Int} (hbs : ∀ a : Int, 0 ≤ a → a < bs.length → hd (rd bs a) ≤ 6) : ∀ (x : Tr), x.good bs → x.len ≤ 9 → ∀ k, x.len + 20 ≤ k → spec_l3Text.f k (flat x) = some (txt x)
  | .atom a n, hg, hl, k, hk => by
    obtain ⟨k, rfl⟩ : ∃ m, k = m + 1 := ⟨k - 1, by omega⟩
    obtain ⟨g0, g1, g2, g3⟩ := hg
    have h6 := hbs a g0 g1
    have e : (flat (.atom a n)).length = 1 := rfl
    have hm : ∀ h, (flat (.atom a n))[0]'h = ⟨0, a, n⟩ := fun _ => rfl
    have sz : (strOfNums [(wrap64 (65 + a)) % 256]).size + (strOfNums [(wrap64 (48 + (mx n 0))) % 256]).size ≤ 9223372036854775807 := by
      rw [show (strOfNums [(wrap64 (65 + a)) % 256]).size = 1 from rfl, show (strOfNums [(wrap64 (48 + (mx n 0))) % 256]).size = 1 from rfl]; decide
    rw [spec_l3Text.f, e, show wrap64 (((1 : Nat) : Int) - 1) = ((0 : Nat) : Int) from by rw [w64 (by omega) (by omega)]; rfl, if_pos (by omega), if_pos (by omega), rdT_at (by rw [e]; omega), hm]; dsimp only
    rw [if_pos rfl, Option.bind_some, number_eq (by omega) k (by omega), Option.bind_some, if_pos sz]
    rfl
  | .node o l r, hg, hl, k, hk => by
    obtain ⟨k, rfl⟩ : ∃ m, k = m + 1 := ⟨k - 1, by omega⟩
    simp only [Tr.len] at hl hk
    have ll := l.len_pos
    have lr := r.len_pos
    have e : (flat (.node o l r)) = flat l ++ (flat r ++ [⟨if o = true then 2 else 1, 0, 0⟩]) := by simp only [flat, List.append_assoc]
    have el : (flat l ++ (flat r ++ [(⟨if o = true then 2 else 1, 0, 0⟩ : S41)])).length = l.len + r.len + 1 := by simp [flat_len]; omega
    have hlast : (flat l ++ (flat r ++ [(⟨if o = true then 2 else 1, 0, 0⟩ : S41)]))[l.len + r.len]'(by rw [el]; omega) = ⟨if o = true then 2 else 1, 0, 0⟩ := by
      rw [List.getElem_append_right (by rw [flat_len]; omega), List.getElem_append_right (by simp [flat_len])]
      simp [flat_len]
    have il := sText_flat hbs l hg.1 (by omega) k (by omega)
    have ir := sText_flat hbs r hg.2 (by omega) k (by omega)
    have tl : (flat l ++ (flat r ++ [(⟨if o = true then 2 else 1, 0, 0⟩ : S41)])).take l.len = flat l := by rw [← flat_len l, List.take_left]
    have tr : ((flat l ++ (flat r ++ [(⟨if o = true then 2 else 1, 0, 0⟩ : S41)])).take (l.len + r.len)).drop l.len = flat r := by
      rw [← List.append_assoc, show l.len + r.len = (flat l ++ flat r).length from by simp [flat_len], List.take_left, ← flat_len l, List.drop_left]
    have kr : (rd_T41 (flat l ++ (flat r ++ [(⟨if o = true then 2 else 1, 0, 0⟩ : S41)])) ((l.len + r.len - 1 : Nat) : Int)).f0 = kindT r := by
      rw [rdT_at (by rw [el]; omega)]
      have h1 : ∀ hb, ((flat l ++ (flat r ++ [(⟨if o = true then 2 else 1, 0, 0⟩ : S41)]))[l.len + r.len - 1]'hb) = (flat r)[r.len - 1]'(by rw [flat_len]; omega) := by
        intro hb
        rw [List.getElem_append_right (by rw [flat_len]; omega), List.getElem_append_left (by rw [flat_len, flat_len]; omega)]
        congr 1; rw [flat_len]; omega
      rw [h1, last_kind r]
    have kl : (rd_T41 (flat l ++ (flat r ++ [(⟨if o = true then 2 else 1, 0, 0⟩ : S41)])) ((l.len - 1 : Nat) : Int)).f0 = kindT l := by
      rw [rdT_at (by rw [el]; omega)]
      have h1 : ∀ hb, ((flat l ++ (flat r ++ [(⟨if o = true then 2 else 1, 0, 0⟩ : S41)]))[l.len - 1]'hb) = (flat l)[l.len - 1]'(by rw [flat_len]; omega) := by
        intro hb
        rw [List.getElem_append_left (by rw [flat_len]; omega)]
      rw [h1, last_kind l]
    have e1 : wrap64 (((l.len + r.len + 1 : Nat) : Int) - 1) = ((l.len + r.len : Nat) : Int) := by rw [w64 (by omega) (by omega)]; omega
    have e2 : wrap64 (((l.len + r.len : Nat) : Int) - 1) = ((l.len + r.len - 1 : Nat) : Int) := by rw [w64 (by omega) (by omega)]; omega
    have e3 : wrap64 ((l.len : Int) - 1) = ((l.len - 1 : Nat) : Int) := by rw [w64 (by omega) (by omega)]; omega
    have st : spec_l3Starts.f k (flat l ++ (flat r ++ [(⟨if o = true then 2 else 1, 0, 0⟩ : S41)])) ((l.len + r.len - 1 : Nat) : Int) = some (l.len : Int) := by
      rw [show ((l.len + r.len - 1 : Nat) : Int) = ((l.len + r.len : Nat) : Int) - 1 from by omega]
      exact starts_eq (by omega) k (by omega)
    rw [e, spec_l3Text.f, el, e1]
    simp only [e2]
    rw [if_pos (by clear e1 e2 e3; omega), if_pos (by clear e1 e2 e3; omega), rdT_at (by rw [el]; omega), hlast, st, Option.bind_some]
    simp only [e3]
    clear e1 e2 e3
    have sl := txt_size l
    have sr := txt_size r
    have q0 : (0 : Int) ≤ (l.len : Int) := by omega
    have q1 : (l.len : Int) ≤ ((l.len + r.len + 1 : Nat) : Int) := by omega
    have q2 : (l.len : Int) ≤ ((l.len + r.len : Nat) : Int) := by omega
    have q3 : ((l.len + r.len : Nat) : Int) ≤ ((l.len + r.len + 1 : Nat) : Int) := by omega
    have q4 : (0 : Int) ≤ ((l.len + r.len - 1 : Nat) : Int) := by omega
    have q5 : ((l.len + r.len - 1 : Nat) : Int) < ((l.len + r.len + 1 : Nat) : Int) := by omega
    have q6 : (0 : Int) ≤ ((l.len - 1 : Nat) : Int) := by omega
    have q7 : ((l.len - 1 : Nat) : Int) < ((l.len + r.len + 1 : Nat) : Int) := by omega
    have z1 : 1 + (txt r).size ≤ 9223372036854775807 := by omega
    have z2 : ((⟨#[40]⟩ : ByteArray) ++ txt r).size + 1 ≤ 9223372036854775807 := by rw [ByteArray.size_append, s40]; omega
    have z3 : (txt l).size + 1 ≤ 9223372036854775807 := by omega
    have z4 : 1 + (txt l).size ≤ 9223372036854775807 := by omega
    have z5 : ((⟨#[40]⟩ : ByteArray) ++ txt l).size + 1 ≤ 9223372036854775807 := by rw [ByteArray.size_append, s40]; omega
    have z6 : (((⟨#[40]⟩ : ByteArray) ++ txt l) ++ (⟨#[41]⟩ : ByteArray)).size + 1 ≤ 9223372036854775807 := by simp only [ByteArray.size_append, s40, s41]; omega
    have z7 : (txt l ++ (⟨#[124]⟩ : ByteArray)).size + (((⟨#[40]⟩ : ByteArray) ++ txt r) ++ (⟨#[41]⟩ : ByteArray)).size ≤ 9223372036854775807 := by simp only [ByteArray.size_append, s40, s41, s124]; omega
    have z8 : (txt l ++ (⟨#[124]⟩ : ByteArray)).size + (txt r).size ≤ 9223372036854775807 := by simp only [ByteArray.size_append, s124]; omega
    have z9 : ((((⟨#[40]⟩ : ByteArray) ++ txt l) ++ (⟨#[41]⟩ : ByteArray)) ++ (⟨#[38]⟩ : ByteArray)).size + (txt r).size ≤ 9223372036854775807 := by simp only [ByteArray.size_append, s40, s41, s38]; omega
    have z10 : ((((⟨#[40]⟩ : ByteArray) ++ txt l) ++ (⟨#[41]⟩ : ByteArray)) ++ (⟨#[38]⟩ : ByteArray)).size + (((⟨#[40]⟩ : ByteArray) ++ txt r) ++ (⟨#[41]⟩ : ByteArray)).size ≤ 9223372036854775807 := by simp only [ByteArray.size_append, s40, s41, s38]; omega
    have z11 : (txt l ++ (⟨#[38]⟩ : ByteArray)).size + (txt r).size ≤ 9223372036854775807 := by simp only [ByteArray.size_append, s38]; omega
    have z12 : (txt l ++ (⟨#[38]⟩ : ByteArray)).size + (((⟨#[40]⟩ : ByteArray) ++ txt r) ++ (⟨#[41]⟩ : ByteArray)).size ≤ 9223372036854775807 := by simp only [ByteArray.size_append, s40, s41, s38]; omega
    have e3 : wrap64 ((l.len : Int) - 1) = ((l.len - 1 : Nat) : Int) := by rw [w64 (by omega) (by omega)]; omega
    simp only [e3, if_pos q0, if_pos q1, if_pos q2, if_pos q3, if_pos q4, if_pos q5, if_pos q6, if_pos q7, Int.toNat_natCast, tl, tr, il, ir, Option.bind_some, kr, kl, if_pos z1, if_pos z2, if_pos z3, if_pos z4, if_pos z5, if_pos z6, if_pos z7, if_pos z8, if_pos z9, if_pos z10, if_pos z11, if_pos z12]
    clear e3 q0 q1 q2 q3 q4 q5 q6 q7 z1 z2 z3 z4 z5 z6 z7 z8 z9 z10 z11 z12 tl tr il ir kr kl st hlast el e
    simp only [txt, wrp]
    cases o with
    | true =>
      rw [if_neg (by simp), if_pos (by simp), if_pos rfl]
      by_cases h : isOr r = true
      · rw [if_pos ((kind_or r).2 h), if_pos h]
      · rw [if_neg (fun h2 => h ((kind_or r).1 h2)), if_neg h]
    | false =>
      simp only [Bool.false_eq_true, if_false]
      rw [if_neg (by simp), if_neg (by simp)]
      by_cases h : isOr l = true
      · rw [if_pos ((kind_or l).2 h), if_pos h]
        cases h2 : isNode r with
        | true => rw [if_neg (fun h3 => by rw [(kind_atom r).1 h3] at h2; cases h2), if_pos rfl]
        | false => rw [if_pos ((kind_atom r).2 h2), if_neg (by simp)]
      · rw [if_neg (fun h2 => h ((kind_or l).1 h2)), if_neg h]
        cases h2 : isNode r with
        | true => rw [if_neg (fun h3 => by rw [(kind_atom r).1 h3] at h2; cases h2), if_pos rfl]
        | false => rw [if_pos ((kind_atom r).2 h2), if_neg (by simp)]

theorem l1In_eq (n a b : Int) : spec_l1In.f n a b = some (decide (a ≤ n ∧ n ≤ b)) := by
  unfold spec_l1In.f
  by_cases h : n ≥ a
  · rw [if_pos h]; congr 1; simp [show a ≤ n from h]
  · rw [if_neg h]; congr 1; simp; omega
theorem sCrowdOk_eq (p c : Int) : spec_CrowdOk.f p c = some (okC p c) := by
  unfold spec_CrowdOk.f
  rw [l1In_eq]
  simp only [Option.bind_some]
  by_cases h : 1 ≤ p ∧ p ≤ 6
  · have hf := full_le h.1 h.2
    rw [if_pos (by simpa using h), if_pos (by omega), shl1 (by omega) h.2, l1In_eq, w64 (by omega) (by omega)]
    simp only [Option.bind_some]
    congr 1
    rw [Bool.eq_iff_iff, okC_iff]; simp; omega
  · rw [if_neg (by simpa using h)]; congr 1
    symm; rw [Bool.eq_false_iff]; intro hc; rw [okC_iff] at hc; omega

theorem sHouse_loop {p : Int} {bs : List Int} (hm : bs.length ≤ 1048576) (d : Nat) : ∀ (k i : Nat), i ≤ bs.length → bs.length - i = d → d < k →
    spec_HouseOk.l0 k (i : Int) p bs = some ((bs.drop i).all (goodB p) && (decide (1 ≤ p ∧ p ≤ 6) && decide ((bs.length : Int) ≤ 4))) := by
  induction d with
  | zero =>
    intro k i hi hd hk
    obtain ⟨k, rfl⟩ : ∃ m, k = m + 1 := ⟨k - 1, by omega⟩
    simp only [spec_HouseOk.l0]
    rw [if_neg (by omega), List.drop_of_length_le (by omega), l1In_eq, Option.bind_some]
    by_cases h : 1 ≤ p ∧ p ≤ 6
    · rw [if_pos (by simpa using h)]; simp [h]
    · rw [if_neg (by simpa using h)]; simp [h]
  | succ d ih =>
    intro k i hi hd hk
    obtain ⟨k, rfl⟩ : ∃ m, k = m + 1 := ⟨k - 1, by omega⟩
    simp only [spec_HouseOk.l0]
    have hlt : i < bs.length := by omega
    rw [if_pos (by omega), if_pos (by omega), rd_at hlt, sCrowdOk_eq, Option.bind_some, all_drop hlt]
    by_cases hg : okC p bs[i] = true
    · rw [if_pos hg]
      by_cases hz : bs[i] = 0
      · rw [if_pos hz]; simp [goodB, hz]
      · rw [if_neg hz, wr (by omega) (by omega)]
        rw [show goodB p bs[i] = true from by simp [goodB, hg, hz], Bool.true_and]
        exact ih k (i + 1) (by omega) (by omega) (by omega)
    · rw [if_neg hg]; simp [goodB, hg]
theorem sHouseOk_eq {bs : List Int} (p : Int) (hm : bs.length ≤ 1048576) (k : Nat) (hk : bs.length < k) : spec_HouseOk.f k p bs = some (houseB p bs) := by
  unfold spec_HouseOk.f houseB
  exact sHouse_loop hm bs.length k 0 (by omega) (by omega) hk

theorem l1Heads_all : ∀ c : Fin 64, spec_l1Heads.f 7 c.val = some (hd c.val) := by decide +kernel
theorem sHeads_eq {c : Int} (k : Nat) (hk : 7 ≤ k) (h0 : 0 ≤ c) (h1 : c < 64) : spec_l1Heads.f k c = some (hd c) :=
  at_rounds (spec_l1Heads.mono c) hk (all64 (P := fun c => spec_l1Heads.f 7 c = some (hd c)) l1Heads_all c h0 h1)

theorem heads_some (d : Nat) : ∀ (k : Nat) (c n : Int), c < 2 ^ d → d < k → ∃ r, spec_l1Heads.l0 k c n = some r := by
  induction d with
  | zero =>
    intro k c n hc hk
    obtain ⟨k, rfl⟩ : ∃ m, k = m + 1 := ⟨k - 1, by omega⟩
    rw [spec_l1Heads.l0, if_neg (by simp at hc; omega)]
    exact ⟨_, rfl⟩
  | succ d ih =>
    intro k c n hc hk
    obtain ⟨k, rfl⟩ : ∃ m, k = m + 1 := ⟨k - 1, by omega⟩
    rw [spec_l1Heads.l0]
    by_cases h : c > 0
    · rw [if_pos h]
      have e : Int.tdiv c 2 = c / 2 := Int.tdiv_eq_ediv_of_nonneg (by omega)
      refine ih k _ _ ?_ (by omega)
      have hp : (2 : Int) ^ (d + 1) = 2 ^ d * 2 := Int.pow_succ ..
      have h1 : c / 2 < 2 ^ d := by omega
      have h2 : wrap64 (c / 2) ≤ c / 2 := by
        unfold wrap64; omega
      rw [e]
      omega
    · rw [if_neg h]; exact ⟨_, rfl⟩
theorem rd_any {bs : List Int} (hb : ∀ z ∈ bs, z < 2 ^ 63) (i : Int) : rd bs i < 2 ^ 63 := by
  unfold rd
  by_cases hi : i.toNat < bs.length
  · rw [List.getD_eq_getElem?_getD, List.getElem?_eq_getElem hi, Option.getD_some]; exact hb _ (List.getElem_mem hi)
  · rw [List.getD_eq_getElem?_getD, List.getElem?_eq_none (by omega), Option.getD_none]; decide
theorem sTerm_j {p : Int} {bs : List Int} {t : List S41} {i : Nat} (hlt : i < t.length) (ps : Int) (p0 : 0 ≤ ps) (p1 : ps ≤ 10000000) (hi : i ≤ 10000000) (k : Nat) (R : Bool)
    (dn : 2 ≤ ps → (t[i].f0 = 1 ∨ t[i].f0 = 2) → t[i].f1 = 0 → t[i].f2 = 0 → spec_TermOk.l0 k t (ps - 1) ((i : Int) + 1) p bs = some R)
    (no : ¬ (2 ≤ ps ∧ (t[i].f0 = 1 ∨ t[i].f0 = 2) ∧ t[i].f1 = 0 ∧ t[i].f2 = 0) → R = false) : spec_TermOk.j1 (k + 1) t ps (i : Int) false p bs = some R := by
  rw [spec_TermOk.j1, if_neg (by simp), if_pos (by omega), if_pos (by omega), rdT_at hlt]
  generalize t[i] = m at *
  by_cases h1 : m.f0 = 1 ∧ m.f1 = 0 ∧ m.f2 = 0
  · rw [if_pos (by simp [h1])]
    by_cases e : ps ≥ 2
    · rw [if_pos e, w64 (x := ps - 1) (by omega) (by omega), wr (by omega) (by omega)]
      exact dn e (.inl h1.1) h1.2.1 h1.2.2
    · rw [if_neg e, no (by omega)]
  · rw [if_neg (by simpa using h1)]
    by_cases h2 : m.f0 = 2 ∧ m.f1 = 0 ∧ m.f2 = 0
    · rw [if_pos (by simp [h2])]
      by_cases e : ps ≥ 2
      · rw [if_pos e, w64 (x := ps - 1) (by omega) (by omega), wr (by omega) (by omega)]
        exact dn e (.inr h2.1) h2.2.1 h2.2.2
      · rw [if_neg e, no (by omega)]
    · rw [if_neg (by simpa using h2), no (by omega)]
theorem sTerm_house {p : Int} {bs : List Int} {t : List S41} (hh : houseB p bs = true) (ht : t.length ≤ 1048576) (d : Nat) : ∀ (k i : Nat) (ps : Int), i ≤ t.length → t.length - i = d → 0 ≤ ps → ps ≤ i → 2 * d + 20 ≤ k →
    spec_TermOk.l0 k t ps (i : Int) p bs = some (tgo bs (t.drop i) ps && decide ((t.length : Int) ≤ 9)) := by
  have hl := (houseB_iff.1 hh).2.2
  induction d with
  | zero =>
    intro k i ps hi hdd _ _ hk
    obtain ⟨k, rfl⟩ : ∃ m, k = m + 1 := ⟨k - 1, by omega⟩
    rw [spec_TermOk.l0, if_neg (by omega), List.drop_of_length_le (by omega), sHouseOk_eq p (by omega) k (by omega), hh, Option.bind_some, if_pos rfl, tgo]
    by_cases h : ps = 1
    · rw [if_pos h, h]; rfl
    · rw [if_neg h, show (ps == 1) = false from beq_eq_false_iff_ne.mpr h]; rfl
  | succ d ih =>
    intro k i ps hi hdd p0 p1 hk
    obtain ⟨k, rfl⟩ : ∃ m, k = m + 2 := ⟨k - 2, by omega⟩
    have hlt : i < t.length := by omega
    have up := ih k (i + 1) (ps + 1) (by omega) (by omega) (by omega) (by omega) (by omega)
    have e1 : (((i + 1 : Nat)) : Int) = (i : Int) + 1 := by omega
    rw [e1] at up
    have dn : 2 ≤ ps → spec_TermOk.l0 k t (ps - 1) ((i : Int) + 1) p bs = some (tgo bs (t.drop (i + 1)) (ps - 1) && decide ((t.length : Int) ≤ 9)) := fun h2 => by
      have := ih k (i + 1) (ps - 1) (by omega) (by omega) (by omega) (by omega) (by omega)
      rw [e1] at this; exact this
    have J := fun R => sTerm_j (p := p) (bs := bs) hlt ps p0 (by omega) (by omega) k R
    rw [spec_TermOk.l0, if_pos (by omega), if_pos (by omega), rdT_at hlt, List.drop_eq_getElem_cons hlt, tgo]
    by_cases h0 : t[i].f0 = 0
    · rw [if_pos h0, if_pos h0, l1In_eq, Option.bind_some, w64 (x := (bs.length : Int) - 1) (by omega) (by omega)]
      have no := J false (fun _ h => by omega) (fun _ => rfl)
      by_cases a : 0 ≤ t[i].f1 ∧ t[i].f1 ≤ (bs.length : Int) - 1
      · obtain ⟨_, _, c0, c64, _⟩ := okC_lt (Tr.body_ok hh (a := t[i].f1) (by omega) (by omega))
        rw [if_pos (decide_eq_true a), if_pos (by omega), if_pos (by omega), sHeads_eq (k + 1) (by omega) c0 c64, Option.bind_some, l1In_eq, Option.bind_some]
        by_cases b : 1 ≤ t[i].f2 ∧ t[i].f2 ≤ hd (rd bs t[i].f1)
        · rw [decide_eq_true b, if_pos (by omega), spec_TermOk.j1, if_pos rfl, wr p0 (by omega), wr (by omega) (by omega)]
          exact up
        · rw [decide_eq_false b, if_neg (by omega), no]; rfl
      · rw [if_neg (by simpa using a), if_neg (by omega), no]; rfl
    · rw [if_neg h0, if_neg h0]
      refine J _ (fun h2 hk' h3 h4 => ?_) (fun hn => ?_)
      · rw [if_pos hk', if_pos ⟨h3, h4, h2⟩]; exact dn h2
      · by_cases h1 : t[i].f0 = 1 ∨ t[i].f0 = 2
        · rw [if_pos h1, if_neg (by omega)]; rfl
        · rw [if_neg h1]; rfl
theorem sTerm_none {p : Int} {bs : List Int} {t : List S41} (hh : houseB p bs = false) (hbl : bs.length ≤ 1048576) (hb : ∀ z ∈ bs, z < 2 ^ 63) (ht : t.length ≤ 1048576) (d : Nat) : ∀ (k i : Nat) (ps : Int), i ≤ t.length → t.length - i = d → 0 ≤ ps → ps ≤ i → 2 * d + bs.length + 80 ≤ k →
    spec_TermOk.l0 k t ps (i : Int) p bs = some false := by
  induction d with
  | zero =>
    intro k i ps hi hdd _ _ hk
    obtain ⟨k, rfl⟩ : ∃ m, k = m + 1 := ⟨k - 1, by omega⟩
    rw [spec_TermOk.l0, if_neg (by omega), sHouseOk_eq p (by omega) k (by omega), hh, Option.bind_some, if_neg (by simp)]
  | succ d ih =>
    intro k i ps hi hdd p0 p1 hk
    obtain ⟨k, rfl⟩ : ∃ m, k = m + 2 := ⟨k - 2, by omega⟩
    have hlt : i < t.length := by omega
    have up := ih k (i + 1) (ps + 1) (by omega) (by omega) (by omega) (by omega) (by omega)
    have e1 : (((i + 1 : Nat)) : Int) = (i : Int) + 1 := by omega
    rw [e1] at up
    have no := sTerm_j (p := p) (bs := bs) hlt ps p0 (by omega) (by omega) k false (fun h2 _ _ _ => by
      have := ih k (i + 1) (ps - 1) (by omega) (by omega) (by omega) (by omega) (by omega)
      rw [e1] at this; exact this) (fun _ => rfl)
    have J : ∀ b, spec_TermOk.j1 (k + 1) t ps (i : Int) b p bs = some false := by
      intro b
      cases b with
      | false => exact no
      | true => rw [spec_TermOk.j1, if_pos rfl, wr p0 (by omega), wr (by omega) (by omega)]; exact up
    rw [spec_TermOk.l0, if_pos (by omega), if_pos (by omega), rdT_at hlt]
    by_cases h0 : t[i].f0 = 0
    · rw [if_pos h0, l1In_eq, Option.bind_some, w64 (x := (bs.length : Int) - 1) (by omega) (by omega)]
      by_cases a : 0 ≤ t[i].f1 ∧ t[i].f1 ≤ (bs.length : Int) - 1
      · obtain ⟨r, hr⟩ := heads_some 63 (k + 1) (rd bs t[i].f1) 0 (rd_any hb _) (by omega)
        rw [if_pos (decide_eq_true a), if_pos (by omega), if_pos (by omega), show spec_l1Heads.f (k + 1) (rd bs t[i].f1) = some r from hr, Option.bind_some, l1In_eq, Option.bind_some]
        exact J _
      · rw [if_neg (by simpa using a)]; exact J _
    · rw [if_neg h0]; exact J _
theorem sTermOk_eq {p : Int} {bs : List Int} {t : List S41} (hbl : bs.length ≤ 1048576) (hb : ∀ z ∈ bs, z < 2 ^ 63) (ht : t.length ≤ 1048576) (k : Nat) (hk : 2 * t.length + bs.length + 100 ≤ k) : spec_TermOk.f k p bs t = some (termB p bs t) := by
  unfold spec_TermOk.f termB
  by_cases hh : houseB p bs = true
  · have this : spec_TermOk.l0 k t 0 0 p bs = some (tgo bs t 0 && decide ((t.length : Int) ≤ 9)) := sTerm_house hh ht t.length k 0 0 (by omega) (by omega) (by omega) (by omega) (by omega)
    rw [this, hh, Bool.true_and]
    congr 1
    by_cases h : t.length = 0
    · rw [List.eq_nil_of_length_eq_zero h]; rfl
    · rw [Bool.and_comm]
      congr 1
      rw [decide_eq_decide]; omega
  · have hf : houseB p bs = false := by simpa using hh
    rw [hf, Bool.false_and]
    exact sTerm_none hf hbl hb ht t.length k 0 0 (by omega) (by omega) (by omega) (by omega) (by omega)

theorem few {p : Int} {bs : List Int} (hh : houseB p bs = true) : ∀ a : Int, 0 ≤ a → a < bs.length → hd (rd bs a) ≤ 6 := fun a h0 h1 => by
  obtain ⟨_, _, m0, m64, _⟩ := okC_lt (Tr.body_ok hh h0 h1)
  exact (hd_le m0 m64).2
theorem iTermText_eq {p : Int} {bs : List Int} {x : Tr} (h : termB p bs (flat x) = true) (hx : x.good bs) (k : Nat) (hk : bs.length + 50 ≤ k) : impl_TermText.f k p bs (flat x) = some (txt x) := by
  have hh := (term_tree h).1
  have h9 := (term_tree h).2.1
  have hb := (houseB_iff.1 hh).2.2
  unfold impl_TermText.f
  rw [isTerm_eq (by omega) (by omega) k hk, Option.bind_some, if_pos h, iText_eq hb (few hh) hx (by rw [flat_len] at h9; exact h9) k (by omega), Option.bind_some]
theorem iTermText_no {p : Int} {bs : List Int} {t : List S41} (hb : bs.length ≤ 1048576) (ht : t.length ≤ 1048576) (h : ¬ termB p bs t = true) (k : Nat) (hk : bs.length + 50 ≤ k) : impl_TermText.f k p bs t = some (⟨#[]⟩ : ByteArray) := by
  unfold impl_TermText.f
  rw [isTerm_eq hb ht k hk, Option.bind_some, if_neg h]
theorem sTermText_eq {p : Int} {bs : List Int} {x : Tr} (hb : ∀ z ∈ bs, z < 2 ^ 63) (h : termB p bs (flat x) = true) (hx : x.good bs) (k : Nat) (hk : bs.length + 150 ≤ k) : spec_TermText.f k p bs (flat x) = some (txt x) := by
  have hh := (term_tree h).1
  have h9 := (term_tree h).2.1
  have hb4 := (houseB_iff.1 hh).2.2
  unfold spec_TermText.f
  rw [sTermOk_eq (by omega) hb (by omega) k (by omega), Option.bind_some, if_pos h, sText_flat (few hh) x hx (by rw [flat_len] at h9; exact h9) k (by rw [flat_len] at h9; omega), Option.bind_some]
theorem sTermText_no {p : Int} {bs : List Int} {t : List S41} (hbl : bs.length ≤ 1048576) (hb : ∀ z ∈ bs, z < 2 ^ 63) (ht : t.length ≤ 1048576) (h : ¬ termB p bs t = true) (k : Nat) (hk : 2 * t.length + bs.length + 150 ≤ k) : spec_TermText.f k p bs t = some (⟨#[]⟩ : ByteArray) := by
  unfold spec_TermText.f
  rw [sTermOk_eq hbl hb ht k (by omega), Option.bind_some, if_neg h]

theorem main (p : Int) (bs : List Int) (hm : bs.length ≤ maxLen) (hw : ∀ z ∈ bs, (Lit.int .i64 z).wf = true) (t : List S43) (ht : t.length ≤ maxLen)
    (_ : ∀ m ∈ t, (Lit.int .i64 m.f0).wf = true ∧ (Lit.int .i64 m.f1).wf = true ∧ (Lit.int .i64 m.f2).wf = true) : ∃ k, laws_FnExactTermText.f k p bs t = some true := by
  refine ⟨2 * t.length + bs.length + 200, ?_⟩
  unfold laws_FnExactTermText.f
  rw [szHouse_eq p bs hm 1048576 (by omega) (by omega), Option.bind_some]
  by_cases h : (1048576 : Int) < bs.length
  · rw [if_pos h, if_pos (by omega)]
  rw [if_neg h, if_neg (by omega), szMarkS_eq t ht _ (by omega) (by omega), Option.bind_some]
  by_cases h2 : 1048576 - (bs.length : Int) < t.length
  · rw [if_pos h2, if_pos (by omega)]
  rw [if_neg h2, if_neg (by omega)]
  have hl : bs.length ≤ 1048576 := by omega
  have hl2 : t.length ≤ 1048576 := by omega
  have hl3 : (t.map cv).length ≤ 1048576 := by rw [cv_len]; exact hl2
  have key : ∃ s, spec_TermText.f (2 * t.length + bs.length + 200) p bs (t.map cv) = some s ∧ impl_TermText.f (2 * t.length + bs.length + 200) p bs (t.map cv) = some s := by
    by_cases hT : termB p bs (t.map cv) = true
    · obtain ⟨hh, h9, x, hx, e⟩ := term_tree hT
      rw [← e] at hT ⊢
      exact ⟨_, sTermText_eq (small hw) hT hx _ (by omega), iTermText_eq hT hx _ (by omega)⟩
    · exact ⟨_, sTermText_no hl (small hw) hl3 hT _ (by rw [cv_len]; omega), iTermText_no hl hl3 hT _ (by omega)⟩
  obtain ⟨s, hs, hi⟩ := key
  rw [toHouse_eq p hl _ (by omega), Option.bind_some, toMarkS_eq hl2 _ (by omega), Option.bind_some]; dsimp only
  rw [hs, Option.bind_some, Option.bind_some, Option.bind_some]; dsimp only
  rw [hi, Option.bind_some, if_pos rfl, Option.bind_some]; dsimp only
  rw [eqHouse_eq p hl _ (by omega), Option.bind_some, if_pos rfl, Option.bind_some, eqMarkS_eq hl3 _ (by rw [cv_len]; omega)]; rfl

end Go.Proofs.YtngcadbabkjllaaDoor.Pure.fnExactTermText
