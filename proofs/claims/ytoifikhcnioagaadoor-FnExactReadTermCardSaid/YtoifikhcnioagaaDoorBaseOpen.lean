/- Arguments that are structs of whole numbers, a house, or a slice of marks, opened to their cells: no condition. -/
import Derived.Test.YtoifikhcnioagaaDoorV
import Derived.Lib.SmallJoins
import Derived.Deep.Slices
import Derived.Deep.Fields
import Derived.ChangeSame
import Derived.OpenShut
import Derived.ProofKit
set_option linter.unusedVariables false
set_option linter.unusedSimpArgs false
namespace Go.Proofs.YtoifikhcnioagaaDoor.BaseOpen
open Go.RowKit Go.ChangeShapes Go.WideShapes Go.ChangeAt Go.Deep Go.Joins Go.Proofs.YtoifikhcnioagaaDoorW.PrintWords Go.Proofs.YtoifikhcnioagaaDoorW.PrintMore

section
variable {H : Type} {enc : TypeId × Value → H} {P : Program} {w : World} {base : Nat} {held : Bool} {r : Reach} {b0 : Nat}

/-- A struct of two whole numbers. -/
theorem open_two {t : TypeId} {f0 f1 : Field} {v : Value} {d : DataW H} {p : List MemPlace} (hs : P.underlying t = some (.struct #[f0, f1])) (hone : oneCellFields P #[f0, f1] = true) (hC : P.cellsOf t = 2)
    (h0 : P.underlying f0.type = some (.int .i64)) (h1 : P.underlying f1.type = some (.int .i64)) (hv : Value.okWide P w r b0 t v) (h : DataW.Trod enc P w base (fun _ => true) held t v d p) :
    ∃ x y, v = .agg #[.int .i64 x, .int .i64 y] ∧ (Lit.int .i64 x).wf = true ∧ (Lit.int .i64 y).wf = true := by
  obtain ⟨c0, c1, y0, y1, n, rfl, _, _, t0, t1⟩ := open_agg2 hs hone hC hv h
  obtain ⟨x, e0, _, w0⟩ := DataW.trod_int h0 t0
  obtain ⟨y, e1, _, w1⟩ := DataW.trod_int h1 t1
  obtain rfl := List.singleton_inj.1 e0
  obtain rfl := List.singleton_inj.1 e1
  exact ⟨x, y, rfl, w0, w1⟩

/-- A struct of a whole number and a slice of whole numbers. -/
theorem open_house {t e : TypeId} {f0 f1 : Field} {v : Value} {d : DataW H} {p : List MemPlace} (hs : P.underlying t = some (.struct #[f0, f1])) (hone : oneCellFields P #[f0, f1] = true) (hC : P.cellsOf t = 2)
    (h0 : P.underlying f0.type = some (.int .i64)) (h1 : P.underlying f1.type = some (.slice e)) (he : P.underlying e = some (.int .i64)) (hce : P.cellsOf e = 1)
    (hv : Value.okWide P w r b0 t v) (h : DataW.Trod enc P w base (fun _ => true) held t v d p) :
    ∃ (x : Int) (A : Option Addr) (cap : Nat) (l : List Int), v = .agg #[.int .i64 x, .slice A l.length cap] ∧ (Lit.int .i64 x).wf = true ∧ Kd.C (Kd.int .i64) w A l.length l ∧ l.length ≤ cap ∧ l.length ≤ maxLen ∧ ∀ z ∈ l, (Lit.int .i64 z).wf = true := by
  obtain ⟨c0, c1, y0, y1, n, rfl, _, _, t0, t1⟩ := open_agg2 hs hone hC hv h
  obtain ⟨x, e0, _, w0⟩ := DataW.trod_int h0 t0
  obtain rfl := List.singleton_inj.1 e0
  rcases open_ints h1 he hce t1 with ⟨hcs, _⟩ | ⟨a, len, cap, zs, hcs, _, hl, hm, hz, _, hcell, hwz⟩
  · obtain rfl := List.singleton_inj.1 hcs
    obtain ⟨l, hl, hr, hm, hw, hc⟩ := ReadsInt.ofRowC (w := w) (k := .i64) (a := none) (len := 0) (cap := 0) (zs := []) (.inl ⟨rfl, rfl, rfl, rfl⟩)
    exact ⟨x, none, 0, l, by rw [← hl], w0, Kd.C_of_reads (d := (0 : Int)) (h1 := fun _ => rfl) hr, hc, hm, hw⟩
  · obtain rfl := List.singleton_inj.1 hcs
    obtain ⟨l, hl, hr, hm, hw, hc⟩ := ReadsInt.ofRowC (w := w) (k := .i64) (a := some a) (len := len) (cap := cap) (zs := zs) (.inr ⟨a, rfl, hl, hm, by simpa using hz, hcell, hwz⟩)
    exact ⟨x, some a, cap, l, by rw [← hl], w0, Kd.C_of_reads (d := (0 : Int)) (h1 := fun _ => rfl) hr, hc, hm, hw⟩

/-- A slice of structs of three whole numbers. -/
theorem open_marks {t e : TypeId} {f0 f1 f2 : Field} {a : Option Addr} {len cap : Nat} {d : DataW H} {p : List MemPlace} (ht : P.underlying t = some (.slice e)) (hs : P.underlying e = some (.struct #[f0, f1, f2]))
    (hone : oneCellFields P #[f0, f1, f2] = true) (hC : P.cellsOf e = 3) (h0 : P.underlying f0.type = some (.int .i64)) (h1 : P.underlying f1.type = some (.int .i64)) (h2 : P.underlying f2.type = some (.int .i64))
    (h : DataW.Trod enc P w base (fun _ => true) held t (.slice a len cap) d p) :
    ∃ l : List (Int × Int × Int), l.length = len ∧ len ≤ cap ∧ len ≤ maxLen ∧ (∀ m ∈ l, (Lit.int .i64 m.1).wf = true ∧ (Lit.int .i64 m.2.1).wf = true ∧ (Lit.int .i64 m.2.2).wf = true) ∧
      (0 < len → ∃ x, a = some x ∧ ∀ j m, l[j]? = some m → w.cell? (x.add (j * 3)) = some (.int .i64 m.1) ∧ w.cell? (x.add (j * 3 + 1)) = some (.int .i64 m.2.1) ∧ w.cell? (x.add (j * 3 + 2)) = some (.int .i64 m.2.2)) := by
  obtain ⟨fuel, hf⟩ := h
  rcases open_slice ht hf with ⟨hcs, _⟩ | ⟨x, len', cap', m, n, D, Pl, hcs, _, hl, hm, hmm, _, hi⟩
  · simp [Value.cells] at hcs
    obtain ⟨rfl, rfl, rfl⟩ := hcs
    exact ⟨[], rfl, by omega, by simp, by simp, fun h => absurd h (by omega)⟩
  · simp [Value.cells] at hcs
    obtain ⟨rfl, rfl, rfl⟩ := hcs
    have key : ∀ i, i < len → ∃ m : Int × Int × Int, ((Lit.int .i64 m.1).wf = true ∧ (Lit.int .i64 m.2.1).wf = true ∧ (Lit.int .i64 m.2.2).wf = true) ∧ w.cell? (x.add (i * 3)) = some (.int .i64 m.1) ∧ w.cell? (x.add (i * 3 + 1)) = some (.int .i64 m.2.1) ∧ w.cell? (x.add (i * 3 + 2)) = some (.int .i64 m.2.2) := by
      intro i hlt
      obtain ⟨cs', hc, ht'⟩ := hi i (by simp at hmm; omega)
      rw [hC] at hc
      obtain ⟨ys, n', _, _, hlen, hyl, hff⟩ := DataW.trod_struct hs ht'
      obtain ⟨_, hcl, hat⟩ := World.cells?_some hc
      have one : ∀ (j : Nat) (f : Field), (#[f0, f1, f2] : Array Field)[j]? = some f → P.underlying f.type = some (.int .i64) → ∃ z : Int, (Lit.int .i64 z).wf = true ∧ w.cell? (x.add (i * 3 + j)) = some (.int .i64 z) := by
        intro j f hj hu
        obtain ⟨ho, hk⟩ := hone_of hone j f hj
        have hjl : j < 3 := by have := (Array.getElem?_eq_some_iff.1 hj).1; simpa using this
        have q := hff j f hj
        rw [ho, hk, List.drop_eq_getElem_cons (by omega)] at q
        have hys : ys[j]? = some (ys[j]'(by simp at hyl; omega)) := List.getElem?_eq_getElem _
        rw [hys] at q
        obtain ⟨z, e, _, hw⟩ := DataW.trod_int hu q
        simp only [List.take_succ_cons, List.take_zero] at e
        have e' := List.singleton_inj.1 e
        have hcell := hat j hjl
        rw [← Go.Deep.add_add, hcell, List.getElem?_eq_getElem (by omega), e']
        exact ⟨z, hw, rfl⟩
      obtain ⟨z0, a0, b0⟩ := one 0 f0 rfl h0
      obtain ⟨z1, a1, b1⟩ := one 1 f1 rfl h1
      obtain ⟨z2, a2, b2⟩ := one 2 f2 rfl h2
      exact ⟨(z0, z1, z2), ⟨a0, a1, a2⟩, b0, b1, b2⟩
    have key' : ∀ i, ∃ m : Int × Int × Int, i < len → ((Lit.int .i64 m.1).wf = true ∧ (Lit.int .i64 m.2.1).wf = true ∧ (Lit.int .i64 m.2.2).wf = true) ∧ w.cell? (x.add (i * 3)) = some (.int .i64 m.1) ∧ w.cell? (x.add (i * 3 + 1)) = some (.int .i64 m.2.1) ∧ w.cell? (x.add (i * 3 + 2)) = some (.int .i64 m.2.2) := by
      intro i
      by_cases hlt : i < len
      · obtain ⟨m, hm⟩ := key i hlt
        exact ⟨m, fun _ => hm⟩
      · exact ⟨(0, 0, 0), fun h => absurd h hlt⟩
    obtain ⟨g, hg⟩ := Classical.axiomOfChoice key'
    refine ⟨(List.range len).map g, by simp, hl, by omega, fun m hm' => ?_, fun _ => ⟨x, rfl, fun j m hj => ?_⟩⟩
    · obtain ⟨i, hi', rfl⟩ := List.mem_map.1 hm'
      exact (hg i (List.mem_range.1 hi')).1
    · rw [List.getElem?_map] at hj
      by_cases hlt : j < len
      · rw [List.getElem?_range hlt] at hj
        simp at hj
        rw [← hj]
        exact (hg j hlt).2
      · rw [List.getElem?_eq_none (by simp; omega)] at hj
        simp at hj

/-- The same, as the walks ask it. -/
theorem reads_marks {β : Type} (f : β → Int × Int × Int) (g : Int × Int × Int → β) (hfg : ∀ m, f (g m) = m) {a : Option Addr} {l : List (Int × Int × Int)} (hn : l.length ≤ maxLen)
    (h : 0 < l.length → ∃ x, a = some x ∧ ∀ j m, l[j]? = some m → w.cell? (x.add (j * 3)) = some (.int .i64 m.1) ∧ w.cell? (x.add (j * 3 + 1)) = some (.int .i64 m.2.1) ∧ w.cell? (x.add (j * 3 + 2)) = some (.int .i64 m.2.2)) :
    Kd.C (Kd.iso (Kd.pair (Kd.int .i64) (Kd.pair (Kd.int .i64) (Kd.int .i64))) f) w a (l.map g).length (l.map g) := by
  refine ⟨rfl, by unfold maxLen at hn; simpa using hn, fun hp => ?_⟩
  obtain ⟨x, rfl, hx⟩ := h (by simpa using hp)
  refine ⟨x, rfl, fun j p hj => ?_⟩
  rw [List.getElem?_map] at hj
  obtain ⟨m, hm, rfl⟩ := Option.map_eq_some_iff.1 hj
  obtain ⟨e0, e1, e2⟩ := hx j m hm
  refine ⟨[.int .i64 m.1, .int .i64 m.2.1, .int .i64 m.2.2], rfl, ?_, fun i u hu => ?_⟩
  · show ∃ c0 c1, _ ∧ _ ∧ _
    rw [hfg]
    exact ⟨[.int .i64 m.1], [.int .i64 m.2.1, .int .i64 m.2.2], rfl, rfl, [.int .i64 m.2.1], [.int .i64 m.2.2], rfl, rfl, rfl⟩
  · show w.cell? (x.add (j * 3 + i)) = some u
    match i with
    | 0 => simp at hu; subst hu; simpa using e0
    | 1 => simp at hu; subst hu; exact e1
    | 2 => simp at hu; subst hu; exact e2
    | i + 3 => simp at hu
end
end Go.Proofs.YtoifikhcnioagaaDoor.BaseOpen
