/- Walks of the functions that this law reaches, one by one, written by a program. No condition. -/
import Derived.Test.YtoifikhcnioagaaDoorPFnReadTermx0
import Derived.Test.YtoifikhcnioagaaDoorPFnReadTermx10
import Derived.Test.YtoifikhcnioagaaDoorPFnReadTermx12
import Derived.Test.YtoifikhcnioagaaDoorPFnReadTermx95
namespace Go.Proofs.YtoifikhcnioagaaDoor.PFnReadTerm
open Go.RowKit Go.Proofs.YtoifikhcnioagaaDoorW.PrintWords Go.Proofs.YtoifikhcnioagaaDoorW.PrintLast Go.Proofs.YtoifikhcnioagaaDoorW.PrintMore
attribute [local go_sem] max2_int min2_int max_two min_two max_three min_three max_four min_four   -- for this text's walks alone
set_option linter.unusedVariables false
set_option linter.unusedSimpArgs false

/-- A state of type 66 at block g of W; what its slices lead to came in by w0. -/
def IsS66 (w0 W : World) (g : Nat) (f0 : ByteArray) (f1 : Int) : Prop := W.heap[g]? = some (.cells #[.string f0, .int .i64 f1] 66 (0, 0)) ∧ w0.heap.size ≤ g
theorem IsS66.grown {w0 W : World} {g : Nat} {f0 : ByteArray} {f1 : Int} {W1 : World} {row : Option Nat} (h : IsS66 w0 W g f0 f1) (hw : W.grownBy W1 row) (hne : some g ≠ row) : IsS66 w0 W1 g f0 f1 := by
 obtain ⟨hb, hg⟩ := h
 exact ⟨blk_grown hb hw hne, hg⟩
theorem IsS66.own_neN {w0 W : World} {g : Nat} {f0 : ByteArray} {f1 : Int} {α : Type} {d : Kd α} {e : Nat} {base : Nat} {ok : Nat → Prop} {v : Value} {xs : List α} (h : IsS66 w0 W g f0 f1) (ho : Kd.N d e W base ok v xs) (ht : e ≠ 66) : some g ≠ v.ownBlock := by
 obtain ⟨hb, hg⟩ := h
 exact Kd.N_ne ho hb ht
theorem IsS66.fresh {w0 W : World} {g : Nat} {f0 : ByteArray} {f1 : Int} (h : IsS66 w0 W g f0 f1) : ∀ k, W.heap.size ≤ k → k ≠ g := by
 obtain ⟨hb, hg⟩ := h
 exact Kd.freshB hb
theorem IsS66.kept {w0 W : World} {g : Nat} {f0 : ByteArray} {f1 : Int} {W1 : World} {S : Nat → Prop} (h : IsS66 w0 W g f0 f1) (hk : Kept W W1 S) (hne : ¬ S g) : IsS66 w0 W1 g f0 f1 := by
 obtain ⟨hb, hg⟩ := h
 exact ⟨blk_kept hb hk hne, hg⟩
theorem IsS66.below {w0 W : World} {g : Nat} {f0 : ByteArray} {f1 : Int} {W1 : World} (h : IsS66 w0 W g f0 f1) (hw : Below W.heap.size W W1) : IsS66 w0 W1 g f0 f1 := h.grown (grown_of_below hw none) (by simp)
theorem IsS66.alloc {w0 W : World} {g : Nat} {f0 : ByteArray} {f1 : Int} (h : IsS66 w0 W g f0 f1) (o : Obj) : IsS66 w0 (W.alloc o) g f0 f1 := h.below (below_alloc (Below.refl _ _) o)
theorem IsS66.drewN {w0 W : World} {g : Nat} {f0 : ByteArray} {f1 : Int} (h : IsS66 w0 W g f0 f1) (m : Nat) : IsS66 w0 (W.drewN m) g f0 f1 := h
theorem IsS66.drew {w0 W : World} {g : Nat} {f0 : ByteArray} {f1 : Int} (h : IsS66 w0 W g f0 f1) : IsS66 w0 W.drew g f0 f1 := h
theorem IsS66.at_ {w0 W : World} {g : Nat} {f0 : ByteArray} {f1 : Int} {w' : World} {m : Nat} (hq : W.drewN m = w') (h : IsS66 w0 W g f0 f1) : IsS66 w0 w' g f0 f1 := by subst hq; exact IsS66.drewN h m
theorem IsS66.apart {w0 W : World} {g : Nat} {f0 : ByteArray} {f1 : Int} {α : Type} {d : Kd α} {e : Nat} {base : Nat} {ok : Nat → Prop} {v : Value} {xs : List α} (h : IsS66 w0 W g f0 f1) (ho : d.R e W base ok v xs) (ht : ∀ q, q ∈ e :: d.E → q ≠ 66) : d.R e W base (fun k => ok k ∧ k ≠ g) v xs := by
 obtain ⟨hb, hg⟩ := h
 exact Kd.R_types ho hb ht
theorem IsS66.own_ne {w0 W : World} {g : Nat} {f0 : ByteArray} {f1 : Int} {α : Type} {d : Kd α} {e : Nat} {base : Nat} {ok : Nat → Prop} {v : Value} {xs : List α} (h : IsS66 w0 W g f0 f1) (ho : d.R e W base ok v xs) (ht : e ≠ 66) : some g ≠ v.ownBlock := by
 obtain ⟨hb, hg⟩ := h
 exact Kd.R_ne ho hb ht
theorem IsS66.apartQ {w0 W : World} {g : Nat} {f0 : ByteArray} {f1 : Int} {α : Type} {d : Kd α} {e : Nat} {base : Nat} {ok : Nat → Prop} {v : Value} {xs : List α} (h : IsS66 w0 W g f0 f1) (ho : d.Q e W base ok v xs) (ht : ∀ q, q ∈ e :: d.E → q ≠ 66) : d.Q e W base (fun k => ok k ∧ k ≠ g) v xs := by
 obtain ⟨hb, hg⟩ := h
 exact Kd.Q_types ho hb ht
theorem IsS66.own_neQ {w0 W : World} {g : Nat} {f0 : ByteArray} {f1 : Int} {α : Type} {d : Kd α} {e : Nat} {base : Nat} {ok : Nat → Prop} {v : Value} {xs : List α} (h : IsS66 w0 W g f0 f1) (ho : d.Q e W base ok v xs) (ht : e ≠ 66) : some g ≠ v.ownBlock := by
 obtain ⟨hb, hg⟩ := h
 exact Kd.Q_ne ho hb ht
theorem IsS66.apartS {w0 W : World} {g : Nat} {f0 : ByteArray} {f1 : Int} {α : Type} {d : Kd α} {e : Nat} {base : Nat} {ok : Nat → Prop} {v : Value} {xs : List α} (h : IsS66 w0 W g f0 f1) (ho : d.S e W base ok v xs) (ht : ∀ q, q ∈ e :: d.E → q ≠ 66) : d.S e W base (fun k => ok k ∧ k ≠ g) v xs := by
 obtain ⟨hb, hg⟩ := h
 exact Kd.S_types ho hb ht
theorem IsS66.own_neS {w0 W : World} {g : Nat} {f0 : ByteArray} {f1 : Int} {α : Type} {d : Kd α} {e : Nat} {base : Nat} {ok : Nat → Prop} {v : Value} {xs : List α} (h : IsS66 w0 W g f0 f1) (ho : d.S e W base ok v xs) (ht : e ≠ 66) : some g ≠ v.ownBlock := by
 obtain ⟨hb, hg⟩ := h
 exact Kd.S_ne ho hb ht
theorem IsS66.lt {w0 W : World} {g : Nat} {f0 : ByteArray} {f1 : Int} (h : IsS66 w0 W g f0 f1) : g < W.heap.size := by
 obtain ⟨hb, hg⟩ := h
 exact blk_lt hb
theorem IsS66.ge {w0 W : World} {g : Nat} {f0 : ByteArray} {f1 : Int} (h : IsS66 w0 W g f0 f1) : w0.heap.size ≤ g := by
 obtain ⟨hb, hg⟩ := h
 exact hg
theorem IsS66.ne_blk {w0 W : World} {g : Nat} {f0 : ByteArray} {f1 : Int} {a : Nat} {cs : Array Value} {t : TypeId} {fr : Nat × Nat} (h : IsS66 w0 W g f0 f1) (hb2 : W.heap[a]? = some (.cells cs t fr)) (ht : t ≠ 66) : g ≠ a := by
 obtain ⟨hb, hg⟩ := h; rintro rfl
 rw [hb] at hb2
 injection hb2 with hb2
 injection hb2 with _ ht2
 exact ht ht2.symm
theorem IsS66.far {w0 W : World} {g : Nat} {f0 : ByteArray} {f1 : Int} {p : Addr} (h : IsS66 w0 W g f0 f1) (hne : g ≠ p.block) (u : Value) : IsS66 w0 (W.setCell p u) g f0 f1 := by
 obtain ⟨hb, hg⟩ := h
 exact ⟨blk_far hb hne u, hg⟩
theorem cellS66_0 {W : World} {g : Nat} {f0 : ByteArray} {f1 : Int} (h : W.heap[g]? = some (.cells #[.string f0, .int .i64 f1] 66 (0, 0))) : W.cell? ⟨g, 0, none⟩ = some (.string f0) := (blk_cell h 0).trans rfl
theorem IsS66.set_0 {w0 W : World} {g : Nat} {f0 : ByteArray} {f1 : Int} (h : IsS66 w0 W g f0 f1) (x : ByteArray) : IsS66 w0 (W.setCell ⟨g, 0, none⟩ (.string x)) g x f1 := by
 obtain ⟨hb, hg⟩ := h
 exact ⟨by simpa using blk_set hb 0 (.string x), hg⟩
theorem cellS66_1 {W : World} {g : Nat} {f0 : ByteArray} {f1 : Int} (h : W.heap[g]? = some (.cells #[.string f0, .int .i64 f1] 66 (0, 0))) : W.cell? ⟨g, 1, none⟩ = some (.int .i64 f1) := (blk_cell h 1).trans rfl
theorem IsS66.set_1 {w0 W : World} {g : Nat} {f0 : ByteArray} {f1 : Int} (h : IsS66 w0 W g f0 f1) (x : Int) : IsS66 w0 (W.setCell ⟨g, 1, none⟩ (.int .i64 x)) g f0 x := by
 obtain ⟨hb, hg⟩ := h
 exact ⟨by simpa using blk_set hb 1 (.int .i64 x), hg⟩
theorem IsS66.new (w0 W : World) (f0 : ByteArray) (f1 : Int) (hB : Below w0.heap.size w0 W) : IsS66 w0 (W.alloc (.cells #[.string f0, .int .i64 f1] 66)) W.heap.size f0 f1 := ⟨by simpa using heap_alloc_new W _, hB.size⟩
theorem is66_0 {P Q R0 : Prop} (h : P) (g0 : R0) (k : P → R0 → Q := by intro h g0; repeat (first | (with_reducible first | exact h | apply IsS66.alloc | apply IsS66.drewN | apply IsS66.drew | apply IsS66.set_0 | apply IsS66.set_1 | refine IsS66.far ?_ g0 _) | exact h)) : Q := k h g0
theorem is66_1 {P Q : Prop} (h : P) (k : P → Q := by intro h ; repeat (first | (with_reducible first | exact h | apply IsS66.alloc | apply IsS66.drewN | apply IsS66.drew | apply IsS66.set_0 | apply IsS66.set_1) | exact h)) : Q := k h 

/-! ### impl_termReader_peek: function 59 -/
def impl_termReader_peek.f (s0_0 : ByteArray) (s0_1 : Int) : Option (Int × ByteArray × Int) := if s0_1 = (s0_0.size : Int) then (some (0, s0_0, s0_1)) else (if 0 ≤ s0_1 then (if s0_1 < (s0_0.size : Int) then (some (bt s0_0 s0_1, s0_0, s0_1)) else (none)) else (none))
set_option maxHeartbeats 8000000 in
set_option maxRecDepth 100000 in
theorem impl_termReader_peek.calls (g : Nat) (s0_0 : ByteArray) (s0_1 : Int) (r1 : Int) (r2 : ByteArray) (r3 : Int) (w0 w : World) (hI : IsS66 w0 w g s0_0 s0_1) (hB : Below w0.heap.size w0 w) (h : impl_termReader_peek.f s0_0 s0_1 = some (r1, r2, r3)) :
  Calls Tryd.prog 59 #[.pointer (some ⟨g, 0, none⟩)] w fun e w' => e = .returned (.int .u8 r1) ∧ IsS66 w0 w' g r2 r3 ∧ Below w0.heap.size w0 w' ∧ KeepBut w w' g none := by
 have HI0 := Aside0.mk hI; have HK := Aside0.mk (KeepBut.refl w g none); have HL := Aside0.mk hB.size; clear hI; have HW0 := Aside0.mk hB.size; have HB := Aside0.mk hB; clear hB; have H : (if s0_1 = (s0_0.size : Int) then (some (0, s0_0, s0_1)) else (if 0 ≤ s0_1 then (if s0_1 < (s0_0.size : Int) then (some (bt s0_0 s0_1, s0_0, s0_1)) else (none)) else (none))) = some (r1, r2, r3) := h; clear h
 by_cases c2 : s0_1 = (s0_0.size : Int)
 ·rw [if_pos c2] at H
  have c2b0 : (s0_1 == (s0_0.size : Int)) = true := beq_iff_eq.mpr c2; have c2b1 : (s0_1 != (s0_0.size : Int)) = false := bne_eq_false_iff_eq.mpr c2; clear c2
  simp only [Option.some.injEq, Prod.mk.injEq] at H
  obtain ⟨rfl, rfl, rfl⟩ := H; obtain ⟨HGz3, hgz3⟩ := HI0.out; have hcz3_0 := cellS66_0 HGz3; have hcz3_1 := cellS66_1 HGz3; have hfz3_0 := blk_frozen HGz3 0; have hfz3_1 := blk_frozen HGz3 1; clear HGz3 hgz3
  go_enter Tryd.func59, Tryd.ntmps59
  go_wp2
  repeat (go_quiet (fail); try go_wp2)
  go_ret
  exact ⟨sr_, by exact is66_1 HI0.out, bs_ HB.out (IsS66.ge HI0.out), ke_ HK.out⟩
 ·rw [if_neg c2] at H
  have c2b0 : (s0_1 == (s0_0.size : Int)) = false := beq_eq_false_iff_ne.mpr c2; have c2b1 : (s0_1 != (s0_0.size : Int)) = true := bne_iff_ne.mpr c2
  by_cases c4 : 0 ≤ s0_1; rotate_left
  ·rw [if_neg c4] at H; exact absurd H (by simp)
  rw [if_pos c4] at H
  have c4b0 : decide (0 ≤ s0_1) = true := decide_eq_true c4; clear c4
  by_cases c5 : s0_1 < (s0_0.size : Int); rotate_left
  ·rw [if_neg c5] at H; exact absurd H (by simp)
  rw [if_pos c5] at H
  have c5b0 : decide (s0_1 < (s0_0.size : Int)) = true := decide_eq_true c5; clear c5
  simp only [Option.some.injEq, Prod.mk.injEq] at H
  obtain ⟨rfl, rfl, rfl⟩ := H; obtain ⟨HGz7, hgz7⟩ := HI0.out; have hcz7_0 := cellS66_0 HGz7; have hcz7_1 := cellS66_1 HGz7; have hfz7_0 := blk_frozen HGz7 0; have hfz7_1 := blk_frozen HGz7 1; clear HGz7 hgz7; have p6 : 0 ≤ (s0_1 : Int) := of_decide_eq_true as_; have q6 : s0_1 < (s0_0.size : Int) := of_decide_eq_true as_; have hx6 := bt_at s0_0 s0_1; replace p6 := eq_true p6; replace q6 := eq_true q6
  go_enter Tryd.func59, Tryd.ntmps59
  go_wp2
  repeat (go_quiet (fail); try go_wp2)
  go_ret
  exact ⟨sr_, by exact is66_1 HI0.out, bs_ HB.out (IsS66.ge HI0.out), ke_ HK.out⟩

/-- What may be called where the reader's own function is called: a function with its contract. -/
class Rdr where
 f : ByteArray → Int → Option ((List (S54)) × ByteArray × Int)
 calls : ∀ (g : Nat) (s0_0 : ByteArray) (s0_1 : Int) (r1 : List (S54)) (r2 : ByteArray) (r3 : Int) (w0 w : World) (hI : IsS66 w0 w g s0_0 s0_1) (hB : Below w0.heap.size w0 w) (h : f s0_0 s0_1 = some (r1, r2, r3)), Calls Tryd.prog 39 #[.pointer (some ⟨g, 0, none⟩)] w fun e w' => ∃ v0_ : Value, e = .returned (v0_) ∧ Kd.R k54 54 w' w.heap.size (fun _ => True) v0_ r1 ∧ IsS66 w0 w' g r2 r3 ∧ Below w0.heap.size w0 w' ∧ KeepBut w w' g none
def impl_termReader_part.T2 : Bool × List (List Nat × List Nat) := (true, [([], []), ([], []), ([1], [1]), ([2], [2]), ([3], [3]), ([4], [4]), ([], []), ([6], [6]), ([7], [7]), ([8], [8]), ([9], [9]), ([5, 10], [5, 10]), ([0, 0, 1, 2, 3, 4, 5, 6, 7, 8, 9, 10, 11], [0]), ([12, 0, 1, 2, 3, 4, 5, 6, 7, 8, 9, 10, 11], [12]), ([13, 11, 0, 1, 2, 3, 4, 5, 6, 7, 8, 9, 10, 11], [11, 13])])
def impl_termReader_part.B2 : List Nat := [0, 0, 2, 6, 14, 30, 0, 64, 192, 448, 960, 2046, 4095, 8191, 16383]
theorem impl_termReader_part.tab2 : rtab .any (opsOf Tryd.f60 2) = impl_termReader_part.T2 := by kernel_rfl
theorem impl_termReader_part.bits2 : waitsOk impl_termReader_part.T2.2 impl_termReader_part.B2 = true := by kernel_rfl
section
variable [Rdr]
/-! ### impl_termReader_part: function 60 -/
def impl_termReader_part.j0 : Nat → List (S54) → Bool → ByteArray → Int → Option ((List (S54)) × ByteArray × Int)
 | 0, _, _, _, _ => none
 | k + 1, x4, x33, x1000, x1001 => if x33 = true then (some (([] : List (S54)), x1000, x1001)) else (some (x4, x1000, wrap64 (x1001 + 1)))
def impl_termReader_part.f (k : Nat) (s0_0 : ByteArray) (s0_1 : Int) : Option ((List (S54)) × ByteArray × Int) := (impl_termReader_peek.f s0_0 s0_1).bind fun bt110 => (if bt110.1 = 40 then ((Rdr.f bt110.2.1 (mn (wrap64 (bt110.2.2 + 1)) (bt110.2.1.size : Int))).bind fun bt113 => (if (bt113.1.length : Int) = 0 then (impl_termReader_part.j0 k bt113.1 true bt113.2.1 bt113.2.2) else ((impl_termReader_peek.f bt113.2.1 bt113.2.2).bind fun bt118 => (impl_termReader_part.j0 k bt113.1 (bt118.1 != 41) bt118.2.1 bt118.2.2)))) else ((impl_termReader_peek.f bt110.2.1 (mn (wrap64 (bt110.2.2 + 1)) (bt110.2.1.size : Int))).bind fun bt121 => (if bt110.1 < 65 then (some (([] : List (S54)), bt121.2.1, bt121.2.2)) else (if bt110.1 > 68 then (some (([] : List (S54)), bt121.2.1, bt121.2.2)) else (if bt121.1 < 49 then (some (([] : List (S54)), bt121.2.1, bt121.2.2)) else (if bt121.1 > 57 then (some (([] : List (S54)), bt121.2.1, bt121.2.2)) else (some ((([(⟨0, (bt110.1 - 65) % 256, (bt121.1 - 48) % 256⟩ : S54)] : List (S54))), bt121.2.1, wrap64 (bt121.2.2 + 1)))))))))
set_option maxHeartbeats 8000000 in
set_option maxRecDepth 100000 in
theorem impl_termReader_part.calls (k : Nat) (g : Nat) (s0_0 : ByteArray) (s0_1 : Int) (r1 : List (S54)) (r2 : ByteArray) (r3 : Int) (w0 w : World) (hI : IsS66 w0 w g s0_0 s0_1) (hB : Below w0.heap.size w0 w) (h : impl_termReader_part.f k s0_0 s0_1 = some (r1, r2, r3)) :
  Calls Tryd.prog 60 #[.pointer (some ⟨g, 0, none⟩)] w fun e w' => ∃ v0_ : Value, e = .returned (v0_) ∧ Kd.R k54 54 w' w.heap.size (fun _ => True) v0_ r1 ∧ IsS66 w0 w' g r2 r3 ∧ Below w0.heap.size w0 w' ∧ KeepBut w w' g none := by
 have hu54 := Tryd.underlying54; have HI0 := Aside0.mk hI; have HK := Aside0.mk (KeepBut.refl w g none); have HL := Aside0.mk hB.size; clear hI; have HW0 := Aside0.mk hB.size; have HB := Aside0.mk hB; clear hB; have H : ((impl_termReader_peek.f s0_0 s0_1).bind fun bt110 => (if bt110.1 = 40 then ((Rdr.f bt110.2.1 (mn (wrap64 (bt110.2.2 + 1)) (bt110.2.1.size : Int))).bind fun bt113 => (if (bt113.1.length : Int) = 0 then (impl_termReader_part.j0 k bt113.1 true bt113.2.1 bt113.2.2) else ((impl_termReader_peek.f bt113.2.1 bt113.2.2).bind fun bt118 => (impl_termReader_part.j0 k bt113.1 (bt118.1 != 41) bt118.2.1 bt118.2.2)))) else ((impl_termReader_peek.f bt110.2.1 (mn (wrap64 (bt110.2.2 + 1)) (bt110.2.1.size : Int))).bind fun bt121 => (if bt110.1 < 65 then (some (([] : List (S54)), bt121.2.1, bt121.2.2)) else (if bt110.1 > 68 then (some (([] : List (S54)), bt121.2.1, bt121.2.2)) else (if bt121.1 < 49 then (some (([] : List (S54)), bt121.2.1, bt121.2.2)) else (if bt121.1 > 57 then (some (([] : List (S54)), bt121.2.1, bt121.2.2)) else (some ((([(⟨0, (bt110.1 - 65) % 256, (bt121.1 - 48) % 256⟩ : S54)] : List (S54))), bt121.2.1, wrap64 (bt121.2.2 + 1)))))))))) = some (r1, r2, r3) := h; clear h; replace H := Option.bind_eq_some_iff.mp H; obtain ⟨⟨t110, t111, t112⟩, A20, H⟩ := H; replace H : (if t110 = 40 then ((Rdr.f t111 (mn (wrap64 (t112 + 1)) (t111.size : Int))).bind fun bt113 => (if (bt113.1.length : Int) = 0 then (impl_termReader_part.j0 k bt113.1 true bt113.2.1 bt113.2.2) else ((impl_termReader_peek.f bt113.2.1 bt113.2.2).bind fun bt118 => (impl_termReader_part.j0 k bt113.1 (bt118.1 != 41) bt118.2.1 bt118.2.2)))) else ((impl_termReader_peek.f t111 (mn (wrap64 (t112 + 1)) (t111.size : Int))).bind fun bt121 => (if t110 < 65 then (some (([] : List (S54)), bt121.2.1, bt121.2.2)) else (if t110 > 68 then (some (([] : List (S54)), bt121.2.1, bt121.2.2)) else (if bt121.1 < 49 then (some (([] : List (S54)), bt121.2.1, bt121.2.2)) else (if bt121.1 > 57 then (some (([] : List (S54)), bt121.2.1, bt121.2.2)) else (some ((([(⟨0, (t110 - 65) % 256, (bt121.1 - 48) % 256⟩ : S54)] : List (S54))), bt121.2.1, wrap64 (bt121.2.2 + 1))))))))) = some (r1, r2, r3) := H; have A2 := Aside0.mk A20; clear A20; obtain ⟨ji3, hji3⟩ : ∃ j_ : Int, (mn (wrap64 (t112 + 1)) (t111.size : Int)) = j_ := ⟨_, rfl⟩
 replace H : (if t110 = 40 then ((Rdr.f t111 (ji3)).bind fun bt113 => (if (bt113.1.length : Int) = 0 then (impl_termReader_part.j0 k bt113.1 true bt113.2.1 bt113.2.2) else ((impl_termReader_peek.f bt113.2.1 bt113.2.2).bind fun bt118 => (impl_termReader_part.j0 k bt113.1 (bt118.1 != 41) bt118.2.1 bt118.2.2)))) else ((impl_termReader_peek.f t111 (ji3)).bind fun bt121 => (if t110 < 65 then (some (([] : List (S54)), bt121.2.1, bt121.2.2)) else (if t110 > 68 then (some (([] : List (S54)), bt121.2.1, bt121.2.2)) else (if bt121.1 < 49 then (some (([] : List (S54)), bt121.2.1, bt121.2.2)) else (if bt121.1 > 57 then (some (([] : List (S54)), bt121.2.1, bt121.2.2)) else (some ((([(⟨0, (t110 - 65) % 256, (bt121.1 - 48) % 256⟩ : S54)] : List (S54))), bt121.2.1, wrap64 (bt121.2.2 + 1))))))))) = some (r1, r2, r3) := by first | (rw [hji3] at H; exact H) | (simp only [hji3] at H ⊢; exact H)
 (try rw [hji3] at A2)
 have hji3_ : (if (t111.size : Int) < (wrap64 (t112 + 1)) then (t111.size : Int) else (wrap64 (t112 + 1))) = ji3 := hji3
 by_cases c4 : t110 = 40
 ·rw [if_pos c4] at H
  have c4b0 : (t110 == 40) = true := beq_iff_eq.mpr c4; have c4b1 : (t110 != 40) = false := bne_eq_false_iff_eq.mpr c4; clear c4; replace H := Option.bind_eq_some_iff.mp H; obtain ⟨⟨t113, t116, t117⟩, A50, H⟩ := H; replace H : (if (t113.length : Int) = 0 then (impl_termReader_part.j0 k t113 true t116 t117) else ((impl_termReader_peek.f t116 t117).bind fun bt118 => (impl_termReader_part.j0 k t113 (bt118.1 != 41) bt118.2.1 bt118.2.2))) = some (r1, r2, r3) := H; have A5 := Aside0.mk A50; clear A50; have HC6 := Aside0.mk H; clear H
  go_enter Tryd.func60, Tryd.ntmps60
  go_upto_region 2 with (first | ((with_reducible refine gate_callee (f := 59) rfl ?_); refine goesL_ (some 7) rfl rfl Tryd.func59 (by kernel_rfl) rfl #[.pointer (some ⟨g, 0, none⟩)] rfl ga_ ?_; (with_reducible refine (impl_termReader_peek.calls g s0_0 s0_1 t110 t111 t112 w0 _ ?side1 ?side2 A2.out).mono ?_); (case side1 => exact is66_1 HI0.out); (case side2 => exact bs_ HB.out (IsS66.ge HI0.out)); rintro e w7 ⟨rfl, hi, hb, hk⟩; refine ⟨_, rfl, ?_⟩; have n0_ := Aside0.mk (KeepBut.trans (ke_ HK.out) hk (.inl rfl)); have n1_ := Aside0.mk (hb); have n2_ := Aside0.mk (hi); clear HK; clear HB; clear HI0; have HK := n0_; have HB := n1_; have HI0 := n2_; clear n0_ n1_ n2_; (try clear hb); (try clear hb2); (try clear hk); (try clear hi); obtain ⟨HGz8, hgz8⟩ := HI0.out; have hcz8_0 := cellS66_0 HGz8; have hcz8_1 := cellS66_1 HGz8; have hfz8_0 := blk_frozen HGz8 0; have hfz8_1 := blk_frozen HGz8 1; clear HGz8 hgz8) | ((with_reducible refine gate_callee (f := 39) rfl ?_); refine goesL_ (some 25) rfl rfl Tryd.func39 (by kernel_rfl) rfl #[.pointer (some ⟨g, 0, none⟩)] rfl ga_ ?_; (with_reducible refine (Rdr.calls g t111 ji3 t113 t116 t117 w0 _ ?side1 ?side2 A5.out).mono ?_); (case side1 => exact is66_1 HI0.out); (case side2 => exact bs_ HB.out (IsS66.ge HI0.out)); rintro e w9 ⟨v114, rfl, ho0, hi, hb, hk⟩; refine ⟨_, rfl, ?_⟩; have n0_ := Aside0.mk (Kd.R_lower ho0 (keep_size (w := w) (g := g) (row := none) (ke_ HK.out))); have n1_ := Aside0.mk (KeepBut.trans (ke_ HK.out) hk (.inl rfl)); have n2_ := Aside0.mk (hb); have n3_ := Aside0.mk (hi); clear HK; clear HB; clear HI0; have HO115 := n0_; have HK := n1_; have HB := n2_; have HI0 := n3_; clear n0_ n1_ n2_ n3_; (try clear hb); (try clear hb2); (try clear hk); (try clear hi); (try clear ho0)))
  obtain ⟨HGq, hgq⟩ := IsS66.drew HI0.out; have hcq_0 := cellS66_0 HGq; have hcq_1 := cellS66_1 HGq; have hfq_0 := blk_frozen HGq 0; have hfq_1 := blk_frozen HGq 1
  refine start_ (n := 15) (S := fun w' => w'.cell? ⟨g, 1, none⟩ = some (.int .i64 t112) ∧ w'.cell? ⟨g, 0, none⟩ = some (.string t111)) (ds := [14]) #[false, false, false, false, false, false, false, false, false, false, false, false, false, false, false] (by kernel_rfl) rfl rfl ⟨(cellS66_1 HGq), (cellS66_0 HGq)⟩ (fun hHeld => ?_)
  refine with_tabW impl_termReader_part.tab2 impl_termReader_part.bits2 (fun HT_ HW_ => ?_)
  refine pr_ HT_.out 0 (some 8) #[true, false, false, false, false, false, false, false, false, false, false, false, false, false, false] ?_
  refine pr_ HT_.out 1 (some 9) #[true, true, false, false, false, false, false, false, false, false, false, false, false, false, false] ?_
  refine pr_ HT_.out 2 (some 10) #[true, true, true, false, false, false, false, false, false, false, false, false, false, false, false] ?_
  refine pr_ HT_.out 3 (some 11) #[true, true, true, true, false, false, false, false, false, false, false, false, false, false, false] ?_
  refine pr_ HT_.out 6 (some 14) #[true, true, true, true, false, false, true, false, false, false, false, false, false, false, false] ?_
  refine pr_ HT_.out 7 (some 15) #[true, true, true, true, false, false, true, true, false, false, false, false, false, false, false] ?_
  refine pr_ HT_.out 8 (some 16) #[true, true, true, true, false, false, true, true, true, false, false, false, false, false, false] ?_
  refine tk_ HT_.out HW_.out hHeld 4 (some 12) #[true, true, true, true, true, false, true, true, true, false, false, false, false, false, false] ?_
  refine pr_ HT_.out 5 (some 13) #[true, true, true, true, true, true, true, true, true, false, false, false, false, false, false] ?_
  refine tk_ HT_.out HW_.out hHeld 9 (some 17) #[true, true, true, true, true, true, true, true, true, true, false, false, false, false, false] ?_
  refine pr_ HT_.out 10 (some 18) #[true, true, true, true, true, true, true, true, true, true, true, false, false, false, false] ?_
  refine pr_ HT_.out 11 (some 19) #[true, true, true, true, true, true, true, true, true, true, true, true, false, false, false] ?_
  refine pr_ HT_.out 12 (some 20) #[true, true, true, true, true, true, true, true, true, true, true, true, true, false, false] ?_
  refine pr_ HT_.out 13 (some 21) #[true, true, true, true, true, true, true, true, true, true, true, true, true, true, false] ?_
  refine last_ (i := 14) (N := none) #[true, true, true, true, true, true, true, true, true, true, true, true, true, true, true] rfl rfl (one_of HT_.out (by kernel_rfl)) (by decide) (fun K hK => ?_)
  refine skip_ (w1 := ?_) (by rfl) rfl ?_ ?_
  rotate_left
  ·go_simp
   rfl
  refine hK.out _ _ ?_
  clear hK K
  refine done_ (done_of HT_.out (by kernel_rfl)) ?_
  clear HGq hgq
  go_upto_region 5 with (first | ((with_reducible refine gate_callee (f := 59) rfl ?_); refine goesL_ (some 7) rfl rfl Tryd.func59 (by kernel_rfl) rfl #[.pointer (some ⟨g, 0, none⟩)] rfl ga_ ?_; (with_reducible refine (impl_termReader_peek.calls g s0_0 s0_1 t110 t111 t112 w0 _ ?side1 ?side2 A2.out).mono ?_); (case side1 => exact is66_1 HI0.out); (case side2 => exact bs_ HB.out (IsS66.ge HI0.out)); rintro e w7 ⟨rfl, hi, hb, hk⟩; refine ⟨_, rfl, ?_⟩; have n0_ := Aside0.mk (KeepBut.trans (ke_ HK.out) hk (.inl rfl)); have n1_ := Aside0.mk (hb); have n2_ := Aside0.mk (hi); clear HK; clear HB; clear HI0; have HK := n0_; have HB := n1_; have HI0 := n2_; clear n0_ n1_ n2_; (try clear hb); (try clear hb2); (try clear hk); (try clear hi); obtain ⟨HGz8, hgz8⟩ := HI0.out; have hcz8_0 := cellS66_0 HGz8; have hcz8_1 := cellS66_1 HGz8; have hfz8_0 := blk_frozen HGz8 0; have hfz8_1 := blk_frozen HGz8 1; clear HGz8 hgz8) | ((with_reducible refine gate_callee (f := 39) rfl ?_); refine goesL_ (some 25) rfl rfl Tryd.func39 (by kernel_rfl) rfl #[.pointer (some ⟨g, 0, none⟩)] rfl ga_ ?_; (with_reducible refine (Rdr.calls g t111 ji3 t113 t116 t117 w0 _ ?side1 ?side2 A5.out).mono ?_); (case side1 => exact is66_1 HI0.out); (case side2 => exact bs_ HB.out (IsS66.ge HI0.out)); rintro e w9 ⟨v114, rfl, ho0, hi, hb, hk⟩; refine ⟨_, rfl, ?_⟩; have n0_ := Aside0.mk (Kd.R_lower ho0 (keep_size (w := w) (g := g) (row := none) (ke_ HK.out))); have n1_ := Aside0.mk (KeepBut.trans (ke_ HK.out) hk (.inl rfl)); have n2_ := Aside0.mk (hb); have n3_ := Aside0.mk (hi); clear HK; clear HB; clear HI0; have HO115 := n0_; have HK := n1_; have HB := n2_; have HI0 := n3_; clear n0_ n1_ n2_ n3_; (try clear hb); (try clear hb2); (try clear hk); (try clear hi); (try clear ho0)))
  (try simp only [Act.put, List.setIfInBounds_toArray, List.set_cons_zero, List.set_cons_succ])
  go_cut [33] (fun v33 wc => ∃ (kq : Nat) (x33_5 : Bool) (x1000_5 : ByteArray) (x1001_5 : Int), v33 = .bool x33_5 ∧ Aside0 (impl_termReader_part.j0 kq t113 x33_5 x1000_5 x1001_5 = some (r1, r2, r3)) ∧ Aside0 (kq ≤ k) ∧ Aside0 (Kd.R k54 54 wc w.heap.size (fun _ => True) v114 t113) ∧ Aside0 (IsS66 w0 wc g x1000_5 x1001_5) ∧ Aside0 (KeepBut w wc g none) ∧ Aside0 (Below w0.heap.size w0 wc))
  case first =>
   have H := HC6.out; clear HC6
   by_cases c10 : (t113.length : Int) = 0
   ·rw [if_pos c10] at H
    have c10b0 : ((t113.length : Int) == 0) = true := beq_iff_eq.mpr c10; have c10b1 : ((t113.length : Int) != 0) = false := bne_eq_false_iff_eq.mpr c10; clear c10
    (first | rw [c10b0] | (simp only [i64_w, i32_w]; rw [c10b0]) | skip)
    have H' := Aside0.mk H; clear H; obtain ⟨Ao11, co11, eo11⟩ := Kd.R_slice HO115.out; subst eo11
    go_wp2
    go_meet
    case rel => exact ⟨_, (true), (t116), (t117), si_, H', ⟨by first | omega | exact Nat.le_refl _⟩, ⟨r_ HO115.out⟩, ⟨by exact is66_1 HI0.out⟩, ⟨ke_ HK.out⟩, ⟨bs_ HB.out (IsS66.ge HI0.out)⟩⟩
   ·rw [if_neg c10] at H
    have c10b0 : ((t113.length : Int) == 0) = false := beq_eq_false_iff_ne.mpr c10; have c10b1 : ((t113.length : Int) != 0) = true := bne_iff_ne.mpr c10; have c10b2 : ¬ (t113 = []) := fun h_ => c10 (by rw [h_]; rfl)
    (first | rw [c10b0] | (simp only [i64_w, i32_w]; rw [c10b0]) | skip)
    replace H := Option.bind_eq_some_iff.mp H; obtain ⟨⟨t118, t119, t120⟩, A120, H⟩ := H; replace H : (impl_termReader_part.j0 k t113 (t118 != 41) t119 t120) = some (r1, r2, r3) := H; have A12 := Aside0.mk A120; clear A120; have H' := Aside0.mk H; clear H; obtain ⟨Ao13, co13, eo13⟩ := Kd.R_slice HO115.out; subst eo13
    go_wp2_with (first | (go_at_call 59; (with_reducible refine (impl_termReader_peek.calls g t116 t117 t118 t119 t120 w0 _ ?side1 ?side2 A12.out).mono ?_); (case side1 => exact is66_1 HI0.out); (case side2 => exact bs_ HB.out (IsS66.ge HI0.out)); rintro e w14 ⟨rfl, hi, hb, hk⟩; have n0_ := Aside0.mk (Kd.R_mono (Kd.R_keep (IsS66.apart (show IsS66 w0 _ g t116 t117 from by exact is66_1 HI0.out) (r_ HO115.out) (by decide)) hk (fun _ h => h.2)) (fun _ h => h.1)); have n1_ := Aside0.mk (KeepBut.trans (ke_ HK.out) hk (.inl rfl)); have n2_ := Aside0.mk (hb); have n3_ := Aside0.mk (hi); clear HO115; clear HK; clear HB; clear HI0; have HO115 := n0_; have HK := n1_; have HB := n2_; have HI0 := n3_; clear n0_ n1_ n2_ n3_; (try clear hb); (try clear hb2); (try clear hk); (try clear hi)))
    go_meet
    case rel => exact ⟨_, ((t118 != 41)), (t119), (t120), si_, H', ⟨by first | omega | exact Nat.le_refl _⟩, ⟨r_ HO115.out⟩, ⟨by exact is66_1 HI0.out⟩, ⟨ke_ HK.out⟩, ⟨bs_ HB.out (IsS66.ge HI0.out)⟩⟩
  case rest =>
   clear HC6; (try clear c1); (try clear p2); (try clear c3); (try clear c4); (try clear c4b0); (try clear c4b1); (try clear c5); (try clear c6); (try clear p6); (try clear c10); (try clear c10b0); (try clear c10b1); (try clear c10b2); (try clear hcz8_0); (try clear hcz8_1); (try clear hfz8_0); (try clear hfz8_1); obtain ⟨kq, x33_5, x1000_5, x1001_5, rfl, HA, HJ5, HO_4, HI0, HK, HB⟩ := hcut
   cases kq with
   | zero => exact absurd HA.out (by simp [impl_termReader_part.j0])
   | succ kj5 =>
    have H := HA.out; clear HA
    simp only [impl_termReader_part.j0] at H
    by_cases c15 : x33_5 = true
    ·subst c15
     have H1 : (some (([] : List (S54)), x1000_5, x1001_5)) = some (r1, r2, r3) := by rw [if_pos rfl] at H; exact H
     clear H; have H := H1; clear H1
     simp only [Option.some.injEq, Prod.mk.injEq] at H
     obtain ⟨rfl, rfl, rfl⟩ := H
     go_wp2
     go_ret
     exact ⟨_, by first | rfl | (simp [errW_none, errW_some] <;> rfl) | (simp only [← hji3]; first | rfl | (simp [errW_none, errW_some] <;> rfl)) | (simp [*, errW_none, errW_some] <;> rfl), by first | exact Kd.R_nil _ _ _ _ _ | exact Kd.N_nil _ _ _ _ _ | exact Kd.V_nil _ _ _ _ _ | exact Kd.Q_nil _ _ _ _ _ | exact Kd.S_nil _ _ _ _ _, by exact is66_1 HI0.out, bs_ HB.out (IsS66.ge HI0.out), ke_ HK.out⟩
    ·replace c15 := Bool.eq_false_iff.mpr c15
     subst c15
     have H1 : (some (t113, x1000_5, wrap64 (x1001_5 + 1))) = some (r1, r2, r3) := by rw [if_neg (show ¬ (false = true) by decide)] at H; exact H
     clear H; have H := H1; clear H1
     simp only [Option.some.injEq, Prod.mk.injEq] at H
     obtain ⟨rfl, rfl, rfl⟩ := H; obtain ⟨HGz16, hgz16⟩ := HI0.out; have hcz16_0 := cellS66_0 HGz16; have hcz16_1 := cellS66_1 HGz16; have hfz16_0 := blk_frozen HGz16 0; have hfz16_1 := blk_frozen HGz16 1; clear HGz16 hgz16
     go_wp2
     go_ret
     exact ⟨_, by first | rfl | (simp [errW_none, errW_some] <;> rfl) | (simp only [← hji3]; first | rfl | (simp [errW_none, errW_some] <;> rfl)) | (simp [*, errW_none, errW_some] <;> rfl), by (with_reducible repeat (first | apply Kd.R_alloc | apply Kd.R_drewN | apply Kd.R_drew)); exact Kd.R_mono (Kd.R_far (p := ⟨g, 1, none⟩) (IsS66.apart HI0.out HO_4.out (by decide)) (fun _ hk => hk.2) (.int .i64 (wrap64 (x1001_5 + 1)))) (fun _ hk => trivial), by exact is66_1 HI0.out, bs_ HB.out (IsS66.ge HI0.out), ke_ HK.out⟩
 ·rw [if_neg c4] at H
  have c4b0 : (t110 == 40) = false := beq_eq_false_iff_ne.mpr c4; have c4b1 : (t110 != 40) = true := bne_iff_ne.mpr c4; replace H := Option.bind_eq_some_iff.mp H; obtain ⟨⟨t121, t122, t123⟩, A170, H⟩ := H; replace H : (if t110 < 65 then (some (([] : List (S54)), t122, t123)) else (if t110 > 68 then (some (([] : List (S54)), t122, t123)) else (if t121 < 49 then (some (([] : List (S54)), t122, t123)) else (if t121 > 57 then (some (([] : List (S54)), t122, t123)) else (some ((([(⟨0, (t110 - 65) % 256, (t121 - 48) % 256⟩ : S54)] : List (S54))), t122, wrap64 (t123 + 1))))))) = some (r1, r2, r3) := H; have A17 := Aside0.mk A170; clear A170
  by_cases c18 : t110 < 65
  ·rw [if_pos c18] at H
   have c18b0 : decide (t110 < 65) = true := decide_eq_true c18; clear c18
   simp only [Option.some.injEq, Prod.mk.injEq] at H
   obtain ⟨rfl, rfl, rfl⟩ := H
   go_enter Tryd.func60, Tryd.ntmps60
   go_upto_region 2 with (first | ((with_reducible refine gate_callee (f := 59) rfl ?_); refine goesL_ (some 7) rfl rfl Tryd.func59 (by kernel_rfl) rfl #[.pointer (some ⟨g, 0, none⟩)] rfl ga_ ?_; (with_reducible refine (impl_termReader_peek.calls g s0_0 s0_1 t110 t111 t112 w0 _ ?side1 ?side2 A2.out).mono ?_); (case side1 => exact is66_1 HI0.out); (case side2 => exact bs_ HB.out (IsS66.ge HI0.out)); rintro e w19 ⟨rfl, hi, hb, hk⟩; refine ⟨_, rfl, ?_⟩; have n0_ := Aside0.mk (KeepBut.trans (ke_ HK.out) hk (.inl rfl)); have n1_ := Aside0.mk (hb); have n2_ := Aside0.mk (hi); clear HK; clear HB; clear HI0; have HK := n0_; have HB := n1_; have HI0 := n2_; clear n0_ n1_ n2_; (try clear hb); (try clear hb2); (try clear hk); (try clear hi); obtain ⟨HGz20, hgz20⟩ := HI0.out; have hcz20_0 := cellS66_0 HGz20; have hcz20_1 := cellS66_1 HGz20; have hfz20_0 := blk_frozen HGz20 0; have hfz20_1 := blk_frozen HGz20 1; clear HGz20 hgz20) | ((with_reducible refine gate_callee (f := 59) rfl ?_); refine goesL_ (some 43) rfl rfl Tryd.func59 (by kernel_rfl) rfl #[.pointer (some ⟨g, 0, none⟩)] rfl ga_ ?_; (with_reducible refine (impl_termReader_peek.calls g t111 ji3 t121 t122 t123 w0 _ ?side1 ?side2 A17.out).mono ?_); (case side1 => exact is66_1 HI0.out); (case side2 => exact bs_ HB.out (IsS66.ge HI0.out)); rintro e w21 ⟨rfl, hi, hb, hk⟩; refine ⟨_, rfl, ?_⟩; have n0_ := Aside0.mk (KeepBut.trans (ke_ HK.out) hk (.inl rfl)); have n1_ := Aside0.mk (hb); have n2_ := Aside0.mk (hi); clear HK; clear HB; clear HI0; have HK := n0_; have HB := n1_; have HI0 := n2_; clear n0_ n1_ n2_; (try clear hb); (try clear hb2); (try clear hk); (try clear hi)))
   obtain ⟨HGq, hgq⟩ := IsS66.drew HI0.out; have hcq_0 := cellS66_0 HGq; have hcq_1 := cellS66_1 HGq; have hfq_0 := blk_frozen HGq 0; have hfq_1 := blk_frozen HGq 1
   refine start_ (n := 15) (S := fun w' => w'.cell? ⟨g, 1, none⟩ = some (.int .i64 t112) ∧ w'.cell? ⟨g, 0, none⟩ = some (.string t111)) (ds := [14]) #[false, false, false, false, false, false, false, false, false, false, false, false, false, false, false] (by kernel_rfl) rfl rfl ⟨(cellS66_1 HGq), (cellS66_0 HGq)⟩ (fun hHeld => ?_)
   refine with_tabW impl_termReader_part.tab2 impl_termReader_part.bits2 (fun HT_ HW_ => ?_)
   refine pr_ HT_.out 0 (some 8) #[true, false, false, false, false, false, false, false, false, false, false, false, false, false, false] ?_
   refine pr_ HT_.out 1 (some 9) #[true, true, false, false, false, false, false, false, false, false, false, false, false, false, false] ?_
   refine pr_ HT_.out 2 (some 10) #[true, true, true, false, false, false, false, false, false, false, false, false, false, false, false] ?_
   refine pr_ HT_.out 3 (some 11) #[true, true, true, true, false, false, false, false, false, false, false, false, false, false, false] ?_
   refine pr_ HT_.out 6 (some 14) #[true, true, true, true, false, false, true, false, false, false, false, false, false, false, false] ?_
   refine pr_ HT_.out 7 (some 15) #[true, true, true, true, false, false, true, true, false, false, false, false, false, false, false] ?_
   refine pr_ HT_.out 8 (some 16) #[true, true, true, true, false, false, true, true, true, false, false, false, false, false, false] ?_
   refine tk_ HT_.out HW_.out hHeld 4 (some 12) #[true, true, true, true, true, false, true, true, true, false, false, false, false, false, false] ?_
   refine pr_ HT_.out 5 (some 13) #[true, true, true, true, true, true, true, true, true, false, false, false, false, false, false] ?_
   refine tk_ HT_.out HW_.out hHeld 9 (some 17) #[true, true, true, true, true, true, true, true, true, true, false, false, false, false, false] ?_
   refine pr_ HT_.out 10 (some 18) #[true, true, true, true, true, true, true, true, true, true, true, false, false, false, false] ?_
   refine pr_ HT_.out 11 (some 19) #[true, true, true, true, true, true, true, true, true, true, true, true, false, false, false] ?_
   refine pr_ HT_.out 12 (some 20) #[true, true, true, true, true, true, true, true, true, true, true, true, true, false, false] ?_
   refine pr_ HT_.out 13 (some 21) #[true, true, true, true, true, true, true, true, true, true, true, true, true, true, false] ?_
   refine last_ (i := 14) (N := none) #[true, true, true, true, true, true, true, true, true, true, true, true, true, true, true] rfl rfl (one_of HT_.out (by kernel_rfl)) (by decide) (fun K hK => ?_)
   refine skip_ (w1 := ?_) (by rfl) rfl ?_ ?_
   rotate_left
   ·go_simp
    rfl
   refine hK.out _ _ ?_
   clear hK K
   refine done_ (done_of HT_.out (by kernel_rfl)) ?_
   clear HGq hgq
   go_wp2_with (first | ((with_reducible refine gate_callee (f := 59) rfl ?_); refine goesL_ (some 7) rfl rfl Tryd.func59 (by kernel_rfl) rfl #[.pointer (some ⟨g, 0, none⟩)] rfl ga_ ?_; (with_reducible refine (impl_termReader_peek.calls g s0_0 s0_1 t110 t111 t112 w0 _ ?side1 ?side2 A2.out).mono ?_); (case side1 => exact is66_1 HI0.out); (case side2 => exact bs_ HB.out (IsS66.ge HI0.out)); rintro e w19 ⟨rfl, hi, hb, hk⟩; refine ⟨_, rfl, ?_⟩; have n0_ := Aside0.mk (KeepBut.trans (ke_ HK.out) hk (.inl rfl)); have n1_ := Aside0.mk (hb); have n2_ := Aside0.mk (hi); clear HK; clear HB; clear HI0; have HK := n0_; have HB := n1_; have HI0 := n2_; clear n0_ n1_ n2_; (try clear hb); (try clear hb2); (try clear hk); (try clear hi); obtain ⟨HGz20, hgz20⟩ := HI0.out; have hcz20_0 := cellS66_0 HGz20; have hcz20_1 := cellS66_1 HGz20; have hfz20_0 := blk_frozen HGz20 0; have hfz20_1 := blk_frozen HGz20 1; clear HGz20 hgz20) | ((with_reducible refine gate_callee (f := 59) rfl ?_); refine goesL_ (some 43) rfl rfl Tryd.func59 (by kernel_rfl) rfl #[.pointer (some ⟨g, 0, none⟩)] rfl ga_ ?_; (with_reducible refine (impl_termReader_peek.calls g t111 ji3 t121 t122 t123 w0 _ ?side1 ?side2 A17.out).mono ?_); (case side1 => exact is66_1 HI0.out); (case side2 => exact bs_ HB.out (IsS66.ge HI0.out)); rintro e w21 ⟨rfl, hi, hb, hk⟩; refine ⟨_, rfl, ?_⟩; have n0_ := Aside0.mk (KeepBut.trans (ke_ HK.out) hk (.inl rfl)); have n1_ := Aside0.mk (hb); have n2_ := Aside0.mk (hi); clear HK; clear HB; clear HI0; have HK := n0_; have HB := n1_; have HI0 := n2_; clear n0_ n1_ n2_; (try clear hb); (try clear hb2); (try clear hk); (try clear hi)))
   go_ret
   exact ⟨_, by first | rfl | (simp [errW_none, errW_some] <;> rfl) | (simp only [← hji3]; first | rfl | (simp [errW_none, errW_some] <;> rfl)) | (simp [*, errW_none, errW_some] <;> rfl), by first | exact Kd.R_nil _ _ _ _ _ | exact Kd.N_nil _ _ _ _ _ | exact Kd.V_nil _ _ _ _ _ | exact Kd.Q_nil _ _ _ _ _ | exact Kd.S_nil _ _ _ _ _, by exact is66_1 HI0.out, bs_ HB.out (IsS66.ge HI0.out), ke_ HK.out⟩
  ·rw [if_neg c18] at H
   have c18b0 : decide (t110 < 65) = false := decide_eq_false c18; clear c18
   by_cases c22 : t110 > 68
   ·rw [if_pos c22] at H
    have c22b0 : decide (68 < t110) = true := decide_eq_true c22; clear c22
    simp only [Option.some.injEq, Prod.mk.injEq] at H
    obtain ⟨rfl, rfl, rfl⟩ := H
    go_enter Tryd.func60, Tryd.ntmps60
    go_upto_region 2 with (first | ((with_reducible refine gate_callee (f := 59) rfl ?_); refine goesL_ (some 7) rfl rfl Tryd.func59 (by kernel_rfl) rfl #[.pointer (some ⟨g, 0, none⟩)] rfl ga_ ?_; (with_reducible refine (impl_termReader_peek.calls g s0_0 s0_1 t110 t111 t112 w0 _ ?side1 ?side2 A2.out).mono ?_); (case side1 => exact is66_1 HI0.out); (case side2 => exact bs_ HB.out (IsS66.ge HI0.out)); rintro e w23 ⟨rfl, hi, hb, hk⟩; refine ⟨_, rfl, ?_⟩; have n0_ := Aside0.mk (KeepBut.trans (ke_ HK.out) hk (.inl rfl)); have n1_ := Aside0.mk (hb); have n2_ := Aside0.mk (hi); clear HK; clear HB; clear HI0; have HK := n0_; have HB := n1_; have HI0 := n2_; clear n0_ n1_ n2_; (try clear hb); (try clear hb2); (try clear hk); (try clear hi); obtain ⟨HGz24, hgz24⟩ := HI0.out; have hcz24_0 := cellS66_0 HGz24; have hcz24_1 := cellS66_1 HGz24; have hfz24_0 := blk_frozen HGz24 0; have hfz24_1 := blk_frozen HGz24 1; clear HGz24 hgz24) | ((with_reducible refine gate_callee (f := 59) rfl ?_); refine goesL_ (some 43) rfl rfl Tryd.func59 (by kernel_rfl) rfl #[.pointer (some ⟨g, 0, none⟩)] rfl ga_ ?_; (with_reducible refine (impl_termReader_peek.calls g t111 ji3 t121 t122 t123 w0 _ ?side1 ?side2 A17.out).mono ?_); (case side1 => exact is66_1 HI0.out); (case side2 => exact bs_ HB.out (IsS66.ge HI0.out)); rintro e w25 ⟨rfl, hi, hb, hk⟩; refine ⟨_, rfl, ?_⟩; have n0_ := Aside0.mk (KeepBut.trans (ke_ HK.out) hk (.inl rfl)); have n1_ := Aside0.mk (hb); have n2_ := Aside0.mk (hi); clear HK; clear HB; clear HI0; have HK := n0_; have HB := n1_; have HI0 := n2_; clear n0_ n1_ n2_; (try clear hb); (try clear hb2); (try clear hk); (try clear hi)))
    obtain ⟨HGq, hgq⟩ := IsS66.drew HI0.out; have hcq_0 := cellS66_0 HGq; have hcq_1 := cellS66_1 HGq; have hfq_0 := blk_frozen HGq 0; have hfq_1 := blk_frozen HGq 1
    refine start_ (n := 15) (S := fun w' => w'.cell? ⟨g, 1, none⟩ = some (.int .i64 t112) ∧ w'.cell? ⟨g, 0, none⟩ = some (.string t111)) (ds := [14]) #[false, false, false, false, false, false, false, false, false, false, false, false, false, false, false] (by kernel_rfl) rfl rfl ⟨(cellS66_1 HGq), (cellS66_0 HGq)⟩ (fun hHeld => ?_)
    refine with_tabW impl_termReader_part.tab2 impl_termReader_part.bits2 (fun HT_ HW_ => ?_)
    refine pr_ HT_.out 0 (some 8) #[true, false, false, false, false, false, false, false, false, false, false, false, false, false, false] ?_
    refine pr_ HT_.out 1 (some 9) #[true, true, false, false, false, false, false, false, false, false, false, false, false, false, false] ?_
    refine pr_ HT_.out 2 (some 10) #[true, true, true, false, false, false, false, false, false, false, false, false, false, false, false] ?_
    refine pr_ HT_.out 3 (some 11) #[true, true, true, true, false, false, false, false, false, false, false, false, false, false, false] ?_
    refine pr_ HT_.out 6 (some 14) #[true, true, true, true, false, false, true, false, false, false, false, false, false, false, false] ?_
    refine pr_ HT_.out 7 (some 15) #[true, true, true, true, false, false, true, true, false, false, false, false, false, false, false] ?_
    refine pr_ HT_.out 8 (some 16) #[true, true, true, true, false, false, true, true, true, false, false, false, false, false, false] ?_
    refine tk_ HT_.out HW_.out hHeld 4 (some 12) #[true, true, true, true, true, false, true, true, true, false, false, false, false, false, false] ?_
    refine pr_ HT_.out 5 (some 13) #[true, true, true, true, true, true, true, true, true, false, false, false, false, false, false] ?_
    refine tk_ HT_.out HW_.out hHeld 9 (some 17) #[true, true, true, true, true, true, true, true, true, true, false, false, false, false, false] ?_
    refine pr_ HT_.out 10 (some 18) #[true, true, true, true, true, true, true, true, true, true, true, false, false, false, false] ?_
    refine pr_ HT_.out 11 (some 19) #[true, true, true, true, true, true, true, true, true, true, true, true, false, false, false] ?_
    refine pr_ HT_.out 12 (some 20) #[true, true, true, true, true, true, true, true, true, true, true, true, true, false, false] ?_
    refine pr_ HT_.out 13 (some 21) #[true, true, true, true, true, true, true, true, true, true, true, true, true, true, false] ?_
    refine last_ (i := 14) (N := none) #[true, true, true, true, true, true, true, true, true, true, true, true, true, true, true] rfl rfl (one_of HT_.out (by kernel_rfl)) (by decide) (fun K hK => ?_)
    refine skip_ (w1 := ?_) (by rfl) rfl ?_ ?_
    rotate_left
    ·go_simp
     rfl
    refine hK.out _ _ ?_
    clear hK K
    refine done_ (done_of HT_.out (by kernel_rfl)) ?_
    clear HGq hgq
    go_wp2_with (first | ((with_reducible refine gate_callee (f := 59) rfl ?_); refine goesL_ (some 7) rfl rfl Tryd.func59 (by kernel_rfl) rfl #[.pointer (some ⟨g, 0, none⟩)] rfl ga_ ?_; (with_reducible refine (impl_termReader_peek.calls g s0_0 s0_1 t110 t111 t112 w0 _ ?side1 ?side2 A2.out).mono ?_); (case side1 => exact is66_1 HI0.out); (case side2 => exact bs_ HB.out (IsS66.ge HI0.out)); rintro e w23 ⟨rfl, hi, hb, hk⟩; refine ⟨_, rfl, ?_⟩; have n0_ := Aside0.mk (KeepBut.trans (ke_ HK.out) hk (.inl rfl)); have n1_ := Aside0.mk (hb); have n2_ := Aside0.mk (hi); clear HK; clear HB; clear HI0; have HK := n0_; have HB := n1_; have HI0 := n2_; clear n0_ n1_ n2_; (try clear hb); (try clear hb2); (try clear hk); (try clear hi); obtain ⟨HGz24, hgz24⟩ := HI0.out; have hcz24_0 := cellS66_0 HGz24; have hcz24_1 := cellS66_1 HGz24; have hfz24_0 := blk_frozen HGz24 0; have hfz24_1 := blk_frozen HGz24 1; clear HGz24 hgz24) | ((with_reducible refine gate_callee (f := 59) rfl ?_); refine goesL_ (some 43) rfl rfl Tryd.func59 (by kernel_rfl) rfl #[.pointer (some ⟨g, 0, none⟩)] rfl ga_ ?_; (with_reducible refine (impl_termReader_peek.calls g t111 ji3 t121 t122 t123 w0 _ ?side1 ?side2 A17.out).mono ?_); (case side1 => exact is66_1 HI0.out); (case side2 => exact bs_ HB.out (IsS66.ge HI0.out)); rintro e w25 ⟨rfl, hi, hb, hk⟩; refine ⟨_, rfl, ?_⟩; have n0_ := Aside0.mk (KeepBut.trans (ke_ HK.out) hk (.inl rfl)); have n1_ := Aside0.mk (hb); have n2_ := Aside0.mk (hi); clear HK; clear HB; clear HI0; have HK := n0_; have HB := n1_; have HI0 := n2_; clear n0_ n1_ n2_; (try clear hb); (try clear hb2); (try clear hk); (try clear hi)))
    go_ret
    exact ⟨_, by first | rfl | (simp [errW_none, errW_some] <;> rfl) | (simp only [← hji3]; first | rfl | (simp [errW_none, errW_some] <;> rfl)) | (simp [*, errW_none, errW_some] <;> rfl), by first | exact Kd.R_nil _ _ _ _ _ | exact Kd.N_nil _ _ _ _ _ | exact Kd.V_nil _ _ _ _ _ | exact Kd.Q_nil _ _ _ _ _ | exact Kd.S_nil _ _ _ _ _, by exact is66_1 HI0.out, bs_ HB.out (IsS66.ge HI0.out), ke_ HK.out⟩
   ·rw [if_neg c22] at H
    have c22b0 : decide (68 < t110) = false := decide_eq_false c22; clear c22
    by_cases c26 : t121 < 49
    ·rw [if_pos c26] at H
     have c26b0 : decide (t121 < 49) = true := decide_eq_true c26; clear c26
     simp only [Option.some.injEq, Prod.mk.injEq] at H
     obtain ⟨rfl, rfl, rfl⟩ := H
     go_enter Tryd.func60, Tryd.ntmps60
     go_upto_region 2 with (first | ((with_reducible refine gate_callee (f := 59) rfl ?_); refine goesL_ (some 7) rfl rfl Tryd.func59 (by kernel_rfl) rfl #[.pointer (some ⟨g, 0, none⟩)] rfl ga_ ?_; (with_reducible refine (impl_termReader_peek.calls g s0_0 s0_1 t110 t111 t112 w0 _ ?side1 ?side2 A2.out).mono ?_); (case side1 => exact is66_1 HI0.out); (case side2 => exact bs_ HB.out (IsS66.ge HI0.out)); rintro e w27 ⟨rfl, hi, hb, hk⟩; refine ⟨_, rfl, ?_⟩; have n0_ := Aside0.mk (KeepBut.trans (ke_ HK.out) hk (.inl rfl)); have n1_ := Aside0.mk (hb); have n2_ := Aside0.mk (hi); clear HK; clear HB; clear HI0; have HK := n0_; have HB := n1_; have HI0 := n2_; clear n0_ n1_ n2_; (try clear hb); (try clear hb2); (try clear hk); (try clear hi); obtain ⟨HGz28, hgz28⟩ := HI0.out; have hcz28_0 := cellS66_0 HGz28; have hcz28_1 := cellS66_1 HGz28; have hfz28_0 := blk_frozen HGz28 0; have hfz28_1 := blk_frozen HGz28 1; clear HGz28 hgz28) | ((with_reducible refine gate_callee (f := 59) rfl ?_); refine goesL_ (some 43) rfl rfl Tryd.func59 (by kernel_rfl) rfl #[.pointer (some ⟨g, 0, none⟩)] rfl ga_ ?_; (with_reducible refine (impl_termReader_peek.calls g t111 ji3 t121 t122 t123 w0 _ ?side1 ?side2 A17.out).mono ?_); (case side1 => exact is66_1 HI0.out); (case side2 => exact bs_ HB.out (IsS66.ge HI0.out)); rintro e w29 ⟨rfl, hi, hb, hk⟩; refine ⟨_, rfl, ?_⟩; have n0_ := Aside0.mk (KeepBut.trans (ke_ HK.out) hk (.inl rfl)); have n1_ := Aside0.mk (hb); have n2_ := Aside0.mk (hi); clear HK; clear HB; clear HI0; have HK := n0_; have HB := n1_; have HI0 := n2_; clear n0_ n1_ n2_; (try clear hb); (try clear hb2); (try clear hk); (try clear hi)))
     obtain ⟨HGq, hgq⟩ := IsS66.drew HI0.out; have hcq_0 := cellS66_0 HGq; have hcq_1 := cellS66_1 HGq; have hfq_0 := blk_frozen HGq 0; have hfq_1 := blk_frozen HGq 1
     refine start_ (n := 15) (S := fun w' => w'.cell? ⟨g, 1, none⟩ = some (.int .i64 t112) ∧ w'.cell? ⟨g, 0, none⟩ = some (.string t111)) (ds := [14]) #[false, false, false, false, false, false, false, false, false, false, false, false, false, false, false] (by kernel_rfl) rfl rfl ⟨(cellS66_1 HGq), (cellS66_0 HGq)⟩ (fun hHeld => ?_)
     refine with_tabW impl_termReader_part.tab2 impl_termReader_part.bits2 (fun HT_ HW_ => ?_)
     refine pr_ HT_.out 0 (some 8) #[true, false, false, false, false, false, false, false, false, false, false, false, false, false, false] ?_
     refine pr_ HT_.out 1 (some 9) #[true, true, false, false, false, false, false, false, false, false, false, false, false, false, false] ?_
     refine pr_ HT_.out 2 (some 10) #[true, true, true, false, false, false, false, false, false, false, false, false, false, false, false] ?_
     refine pr_ HT_.out 3 (some 11) #[true, true, true, true, false, false, false, false, false, false, false, false, false, false, false] ?_
     refine pr_ HT_.out 6 (some 14) #[true, true, true, true, false, false, true, false, false, false, false, false, false, false, false] ?_
     refine pr_ HT_.out 7 (some 15) #[true, true, true, true, false, false, true, true, false, false, false, false, false, false, false] ?_
     refine pr_ HT_.out 8 (some 16) #[true, true, true, true, false, false, true, true, true, false, false, false, false, false, false] ?_
     refine tk_ HT_.out HW_.out hHeld 4 (some 12) #[true, true, true, true, true, false, true, true, true, false, false, false, false, false, false] ?_
     refine pr_ HT_.out 5 (some 13) #[true, true, true, true, true, true, true, true, true, false, false, false, false, false, false] ?_
     refine tk_ HT_.out HW_.out hHeld 9 (some 17) #[true, true, true, true, true, true, true, true, true, true, false, false, false, false, false] ?_
     refine pr_ HT_.out 10 (some 18) #[true, true, true, true, true, true, true, true, true, true, true, false, false, false, false] ?_
     refine pr_ HT_.out 11 (some 19) #[true, true, true, true, true, true, true, true, true, true, true, true, false, false, false] ?_
     refine pr_ HT_.out 12 (some 20) #[true, true, true, true, true, true, true, true, true, true, true, true, true, false, false] ?_
     refine pr_ HT_.out 13 (some 21) #[true, true, true, true, true, true, true, true, true, true, true, true, true, true, false] ?_
     refine last_ (i := 14) (N := none) #[true, true, true, true, true, true, true, true, true, true, true, true, true, true, true] rfl rfl (one_of HT_.out (by kernel_rfl)) (by decide) (fun K hK => ?_)
     refine skip_ (w1 := ?_) (by rfl) rfl ?_ ?_
     rotate_left
     ·go_simp
      rfl
     refine hK.out _ _ ?_
     clear hK K
     refine done_ (done_of HT_.out (by kernel_rfl)) ?_
     clear HGq hgq
     go_wp2_with (first | ((with_reducible refine gate_callee (f := 59) rfl ?_); refine goesL_ (some 7) rfl rfl Tryd.func59 (by kernel_rfl) rfl #[.pointer (some ⟨g, 0, none⟩)] rfl ga_ ?_; (with_reducible refine (impl_termReader_peek.calls g s0_0 s0_1 t110 t111 t112 w0 _ ?side1 ?side2 A2.out).mono ?_); (case side1 => exact is66_1 HI0.out); (case side2 => exact bs_ HB.out (IsS66.ge HI0.out)); rintro e w27 ⟨rfl, hi, hb, hk⟩; refine ⟨_, rfl, ?_⟩; have n0_ := Aside0.mk (KeepBut.trans (ke_ HK.out) hk (.inl rfl)); have n1_ := Aside0.mk (hb); have n2_ := Aside0.mk (hi); clear HK; clear HB; clear HI0; have HK := n0_; have HB := n1_; have HI0 := n2_; clear n0_ n1_ n2_; (try clear hb); (try clear hb2); (try clear hk); (try clear hi); obtain ⟨HGz28, hgz28⟩ := HI0.out; have hcz28_0 := cellS66_0 HGz28; have hcz28_1 := cellS66_1 HGz28; have hfz28_0 := blk_frozen HGz28 0; have hfz28_1 := blk_frozen HGz28 1; clear HGz28 hgz28) | ((with_reducible refine gate_callee (f := 59) rfl ?_); refine goesL_ (some 43) rfl rfl Tryd.func59 (by kernel_rfl) rfl #[.pointer (some ⟨g, 0, none⟩)] rfl ga_ ?_; (with_reducible refine (impl_termReader_peek.calls g t111 ji3 t121 t122 t123 w0 _ ?side1 ?side2 A17.out).mono ?_); (case side1 => exact is66_1 HI0.out); (case side2 => exact bs_ HB.out (IsS66.ge HI0.out)); rintro e w29 ⟨rfl, hi, hb, hk⟩; refine ⟨_, rfl, ?_⟩; have n0_ := Aside0.mk (KeepBut.trans (ke_ HK.out) hk (.inl rfl)); have n1_ := Aside0.mk (hb); have n2_ := Aside0.mk (hi); clear HK; clear HB; clear HI0; have HK := n0_; have HB := n1_; have HI0 := n2_; clear n0_ n1_ n2_; (try clear hb); (try clear hb2); (try clear hk); (try clear hi)))
     go_ret
     exact ⟨_, by first | rfl | (simp [errW_none, errW_some] <;> rfl) | (simp only [← hji3]; first | rfl | (simp [errW_none, errW_some] <;> rfl)) | (simp [*, errW_none, errW_some] <;> rfl), by first | exact Kd.R_nil _ _ _ _ _ | exact Kd.N_nil _ _ _ _ _ | exact Kd.V_nil _ _ _ _ _ | exact Kd.Q_nil _ _ _ _ _ | exact Kd.S_nil _ _ _ _ _, by exact is66_1 HI0.out, bs_ HB.out (IsS66.ge HI0.out), ke_ HK.out⟩
    ·rw [if_neg c26] at H
     have c26b0 : decide (t121 < 49) = false := decide_eq_false c26; clear c26
     by_cases c30 : t121 > 57
     ·rw [if_pos c30] at H
      have c30b0 : decide (57 < t121) = true := decide_eq_true c30; clear c30
      simp only [Option.some.injEq, Prod.mk.injEq] at H
      obtain ⟨rfl, rfl, rfl⟩ := H
      go_enter Tryd.func60, Tryd.ntmps60
      go_upto_region 2 with (first | ((with_reducible refine gate_callee (f := 59) rfl ?_); refine goesL_ (some 7) rfl rfl Tryd.func59 (by kernel_rfl) rfl #[.pointer (some ⟨g, 0, none⟩)] rfl ga_ ?_; (with_reducible refine (impl_termReader_peek.calls g s0_0 s0_1 t110 t111 t112 w0 _ ?side1 ?side2 A2.out).mono ?_); (case side1 => exact is66_1 HI0.out); (case side2 => exact bs_ HB.out (IsS66.ge HI0.out)); rintro e w31 ⟨rfl, hi, hb, hk⟩; refine ⟨_, rfl, ?_⟩; have n0_ := Aside0.mk (KeepBut.trans (ke_ HK.out) hk (.inl rfl)); have n1_ := Aside0.mk (hb); have n2_ := Aside0.mk (hi); clear HK; clear HB; clear HI0; have HK := n0_; have HB := n1_; have HI0 := n2_; clear n0_ n1_ n2_; (try clear hb); (try clear hb2); (try clear hk); (try clear hi); obtain ⟨HGz32, hgz32⟩ := HI0.out; have hcz32_0 := cellS66_0 HGz32; have hcz32_1 := cellS66_1 HGz32; have hfz32_0 := blk_frozen HGz32 0; have hfz32_1 := blk_frozen HGz32 1; clear HGz32 hgz32) | ((with_reducible refine gate_callee (f := 59) rfl ?_); refine goesL_ (some 43) rfl rfl Tryd.func59 (by kernel_rfl) rfl #[.pointer (some ⟨g, 0, none⟩)] rfl ga_ ?_; (with_reducible refine (impl_termReader_peek.calls g t111 ji3 t121 t122 t123 w0 _ ?side1 ?side2 A17.out).mono ?_); (case side1 => exact is66_1 HI0.out); (case side2 => exact bs_ HB.out (IsS66.ge HI0.out)); rintro e w33 ⟨rfl, hi, hb, hk⟩; refine ⟨_, rfl, ?_⟩; have n0_ := Aside0.mk (KeepBut.trans (ke_ HK.out) hk (.inl rfl)); have n1_ := Aside0.mk (hb); have n2_ := Aside0.mk (hi); clear HK; clear HB; clear HI0; have HK := n0_; have HB := n1_; have HI0 := n2_; clear n0_ n1_ n2_; (try clear hb); (try clear hb2); (try clear hk); (try clear hi)))
      obtain ⟨HGq, hgq⟩ := IsS66.drew HI0.out; have hcq_0 := cellS66_0 HGq; have hcq_1 := cellS66_1 HGq; have hfq_0 := blk_frozen HGq 0; have hfq_1 := blk_frozen HGq 1
      refine start_ (n := 15) (S := fun w' => w'.cell? ⟨g, 1, none⟩ = some (.int .i64 t112) ∧ w'.cell? ⟨g, 0, none⟩ = some (.string t111)) (ds := [14]) #[false, false, false, false, false, false, false, false, false, false, false, false, false, false, false] (by kernel_rfl) rfl rfl ⟨(cellS66_1 HGq), (cellS66_0 HGq)⟩ (fun hHeld => ?_)
      refine with_tabW impl_termReader_part.tab2 impl_termReader_part.bits2 (fun HT_ HW_ => ?_)
      refine pr_ HT_.out 0 (some 8) #[true, false, false, false, false, false, false, false, false, false, false, false, false, false, false] ?_
      refine pr_ HT_.out 1 (some 9) #[true, true, false, false, false, false, false, false, false, false, false, false, false, false, false] ?_
      refine pr_ HT_.out 2 (some 10) #[true, true, true, false, false, false, false, false, false, false, false, false, false, false, false] ?_
      refine pr_ HT_.out 3 (some 11) #[true, true, true, true, false, false, false, false, false, false, false, false, false, false, false] ?_
      refine pr_ HT_.out 6 (some 14) #[true, true, true, true, false, false, true, false, false, false, false, false, false, false, false] ?_
      refine pr_ HT_.out 7 (some 15) #[true, true, true, true, false, false, true, true, false, false, false, false, false, false, false] ?_
      refine pr_ HT_.out 8 (some 16) #[true, true, true, true, false, false, true, true, true, false, false, false, false, false, false] ?_
      refine tk_ HT_.out HW_.out hHeld 4 (some 12) #[true, true, true, true, true, false, true, true, true, false, false, false, false, false, false] ?_
      refine pr_ HT_.out 5 (some 13) #[true, true, true, true, true, true, true, true, true, false, false, false, false, false, false] ?_
      refine tk_ HT_.out HW_.out hHeld 9 (some 17) #[true, true, true, true, true, true, true, true, true, true, false, false, false, false, false] ?_
      refine pr_ HT_.out 10 (some 18) #[true, true, true, true, true, true, true, true, true, true, true, false, false, false, false] ?_
      refine pr_ HT_.out 11 (some 19) #[true, true, true, true, true, true, true, true, true, true, true, true, false, false, false] ?_
      refine pr_ HT_.out 12 (some 20) #[true, true, true, true, true, true, true, true, true, true, true, true, true, false, false] ?_
      refine pr_ HT_.out 13 (some 21) #[true, true, true, true, true, true, true, true, true, true, true, true, true, true, false] ?_
      refine last_ (i := 14) (N := none) #[true, true, true, true, true, true, true, true, true, true, true, true, true, true, true] rfl rfl (one_of HT_.out (by kernel_rfl)) (by decide) (fun K hK => ?_)
      refine skip_ (w1 := ?_) (by rfl) rfl ?_ ?_
      rotate_left
      ·go_simp
       rfl
      refine hK.out _ _ ?_
      clear hK K
      refine done_ (done_of HT_.out (by kernel_rfl)) ?_
      clear HGq hgq
      go_wp2_with (first | ((with_reducible refine gate_callee (f := 59) rfl ?_); refine goesL_ (some 7) rfl rfl Tryd.func59 (by kernel_rfl) rfl #[.pointer (some ⟨g, 0, none⟩)] rfl ga_ ?_; (with_reducible refine (impl_termReader_peek.calls g s0_0 s0_1 t110 t111 t112 w0 _ ?side1 ?side2 A2.out).mono ?_); (case side1 => exact is66_1 HI0.out); (case side2 => exact bs_ HB.out (IsS66.ge HI0.out)); rintro e w31 ⟨rfl, hi, hb, hk⟩; refine ⟨_, rfl, ?_⟩; have n0_ := Aside0.mk (KeepBut.trans (ke_ HK.out) hk (.inl rfl)); have n1_ := Aside0.mk (hb); have n2_ := Aside0.mk (hi); clear HK; clear HB; clear HI0; have HK := n0_; have HB := n1_; have HI0 := n2_; clear n0_ n1_ n2_; (try clear hb); (try clear hb2); (try clear hk); (try clear hi); obtain ⟨HGz32, hgz32⟩ := HI0.out; have hcz32_0 := cellS66_0 HGz32; have hcz32_1 := cellS66_1 HGz32; have hfz32_0 := blk_frozen HGz32 0; have hfz32_1 := blk_frozen HGz32 1; clear HGz32 hgz32) | ((with_reducible refine gate_callee (f := 59) rfl ?_); refine goesL_ (some 43) rfl rfl Tryd.func59 (by kernel_rfl) rfl #[.pointer (some ⟨g, 0, none⟩)] rfl ga_ ?_; (with_reducible refine (impl_termReader_peek.calls g t111 ji3 t121 t122 t123 w0 _ ?side1 ?side2 A17.out).mono ?_); (case side1 => exact is66_1 HI0.out); (case side2 => exact bs_ HB.out (IsS66.ge HI0.out)); rintro e w33 ⟨rfl, hi, hb, hk⟩; refine ⟨_, rfl, ?_⟩; have n0_ := Aside0.mk (KeepBut.trans (ke_ HK.out) hk (.inl rfl)); have n1_ := Aside0.mk (hb); have n2_ := Aside0.mk (hi); clear HK; clear HB; clear HI0; have HK := n0_; have HB := n1_; have HI0 := n2_; clear n0_ n1_ n2_; (try clear hb); (try clear hb2); (try clear hk); (try clear hi)))
      go_ret
      exact ⟨_, by first | rfl | (simp [errW_none, errW_some] <;> rfl) | (simp only [← hji3]; first | rfl | (simp [errW_none, errW_some] <;> rfl)) | (simp [*, errW_none, errW_some] <;> rfl), by first | exact Kd.R_nil _ _ _ _ _ | exact Kd.N_nil _ _ _ _ _ | exact Kd.V_nil _ _ _ _ _ | exact Kd.Q_nil _ _ _ _ _ | exact Kd.S_nil _ _ _ _ _, by exact is66_1 HI0.out, bs_ HB.out (IsS66.ge HI0.out), ke_ HK.out⟩
     ·rw [if_neg c30] at H
      have c30b0 : decide (57 < t121) = false := decide_eq_false c30; clear c30; obtain ⟨y124, hy124⟩ : ∃ y_ : List (S54), y_ = (([(⟨0, (t110 - 65) % 256, (t121 - 48) % 256⟩ : S54)] : List (S54))) := ⟨_, rfl⟩
      rw [← hy124] at H; (try with_reducible replace H := hb_ H); (try dsimp only at H)
      have Ny124 := Aside0.mk hy124; clear hy124
      simp only [Option.some.injEq, Prod.mk.injEq] at H
      obtain ⟨rfl, rfl, rfl⟩ := H
      go_enter Tryd.func60, Tryd.ntmps60
      go_upto_region 2 with (first | ((with_reducible refine gate_callee (f := 59) rfl ?_); refine goesL_ (some 7) rfl rfl Tryd.func59 (by kernel_rfl) rfl #[.pointer (some ⟨g, 0, none⟩)] rfl ga_ ?_; (with_reducible refine (impl_termReader_peek.calls g s0_0 s0_1 t110 t111 t112 w0 _ ?side1 ?side2 A2.out).mono ?_); (case side1 => exact is66_1 HI0.out); (case side2 => exact bs_ HB.out (IsS66.ge HI0.out)); rintro e w34 ⟨rfl, hi, hb, hk⟩; refine ⟨_, rfl, ?_⟩; have n0_ := Aside0.mk (KeepBut.trans (ke_ HK.out) hk (.inl rfl)); have n1_ := Aside0.mk (hb); have n2_ := Aside0.mk (hi); clear HK; clear HB; clear HI0; have HK := n0_; have HB := n1_; have HI0 := n2_; clear n0_ n1_ n2_; (try clear hb); (try clear hb2); (try clear hk); (try clear hi); obtain ⟨HGz35, hgz35⟩ := HI0.out; have hcz35_0 := cellS66_0 HGz35; have hcz35_1 := cellS66_1 HGz35; have hfz35_0 := blk_frozen HGz35 0; have hfz35_1 := blk_frozen HGz35 1; clear HGz35 hgz35) | ((with_reducible refine gate_callee (f := 59) rfl ?_); refine goesL_ (some 43) rfl rfl Tryd.func59 (by kernel_rfl) rfl #[.pointer (some ⟨g, 0, none⟩)] rfl ga_ ?_; (with_reducible refine (impl_termReader_peek.calls g t111 ji3 t121 t122 t123 w0 _ ?side1 ?side2 A17.out).mono ?_); (case side1 => exact is66_1 HI0.out); (case side2 => exact bs_ HB.out (IsS66.ge HI0.out)); rintro e w36 ⟨rfl, hi, hb, hk⟩; refine ⟨_, rfl, ?_⟩; have n0_ := Aside0.mk (KeepBut.trans (ke_ HK.out) hk (.inl rfl)); have n1_ := Aside0.mk (hb); have n2_ := Aside0.mk (hi); clear HK; clear HB; clear HI0; have HK := n0_; have HB := n1_; have HI0 := n2_; clear n0_ n1_ n2_; (try clear hb); (try clear hb2); (try clear hk); (try clear hi); obtain ⟨HGz37, hgz37⟩ := HI0.out; have hcz37_0 := cellS66_0 HGz37; have hcz37_1 := cellS66_1 HGz37; have hfz37_0 := blk_frozen HGz37 0; have hfz37_1 := blk_frozen HGz37 1; clear HGz37 hgz37) | ((with_reducible refine gate_dst (N := 72) rfl ?_); refine Kd.R_lit k54 _ 54 ?hg (N := 72) ?hd (xs := ([(⟨0, (t110 - 65) % 256, (t121 - 48) % 256⟩ : S54)] : List (S54))) (inner := [.int .i64 0, .int .i64 ((t110 - 65) % 256), .int .i64 ((t121 - 48) % 256)]) (ok := fun _ => True) (okp := fun _ => True) ?hr ?hp (fun _ hk => hk) trivial (Below.refl _ _) (Nat.le_refl _) (by simp) ?_; (case hd => rfl); (case hg => rfl); (case hr => first | (go_simp; done) | (go_simp; rfl)); (case hp => exact (Reps.c3 (show Kd.M k54 _ _ _ (⟨0, (t110 - 65) % 256, (t121 - 48) % 256⟩ : S54) [.int .i64 0, .int .i64 ((t110 - 65) % 256), .int .i64 ((t121 - 48) % 256)] from (k54_mkM _ _ _ (⟨0, (t110 - 65) % 256, (t121 - 48) % 256⟩ : S54) )) (Reps.none _ _))); intro v125 w38 ho39 hb hg_ hnew_; clear hg_ hnew_; (first | rw [← Ny124.out] at ho39 | (simp only [Int.reduceToNat] at ho39; rw [← Ny124.out] at ho39)); have n0_ := Aside0.mk (Kd.R_lower ho39 (keep_size (w := w) (g := g) (row := none) (ke_ HK.out))); have n1_ := Aside0.mk (IsS66.below (show IsS66 w0 (w36.setCell ⟨g, 1, none⟩ (.int .i64 (wrap64 (t123 + 1)))) g t122 (wrap64 (t123 + 1)) from by exact is66_1 HI0.out) hb); have n2_ := Aside0.mk (KeepBut.trans (ke_ HK.out) (KeepBut.of_below hb g none) (.inl rfl)); have n3_ := Aside0.mk (below_step (bs_ HB.out (IsS66.ge HI0.out)) hb); clear HI0; clear HK; clear HB; have HO126 := n0_; have HI0 := n1_; have HK := n2_; have HB := n3_; clear n0_ n1_ n2_ n3_; clear hb ho39))
      obtain ⟨HGq, hgq⟩ := IsS66.drew HI0.out; have hcq_0 := cellS66_0 HGq; have hcq_1 := cellS66_1 HGq; have hfq_0 := blk_frozen HGq 0; have hfq_1 := blk_frozen HGq 1
      refine start_ (n := 15) (S := fun w' => w'.cell? ⟨g, 1, none⟩ = some (.int .i64 t112) ∧ w'.cell? ⟨g, 0, none⟩ = some (.string t111)) (ds := [14]) #[false, false, false, false, false, false, false, false, false, false, false, false, false, false, false] (by kernel_rfl) rfl rfl ⟨(cellS66_1 HGq), (cellS66_0 HGq)⟩ (fun hHeld => ?_)
      refine with_tabW impl_termReader_part.tab2 impl_termReader_part.bits2 (fun HT_ HW_ => ?_)
      refine pr_ HT_.out 0 (some 8) #[true, false, false, false, false, false, false, false, false, false, false, false, false, false, false] ?_
      refine pr_ HT_.out 1 (some 9) #[true, true, false, false, false, false, false, false, false, false, false, false, false, false, false] ?_
      refine pr_ HT_.out 2 (some 10) #[true, true, true, false, false, false, false, false, false, false, false, false, false, false, false] ?_
      refine pr_ HT_.out 3 (some 11) #[true, true, true, true, false, false, false, false, false, false, false, false, false, false, false] ?_
      refine pr_ HT_.out 6 (some 14) #[true, true, true, true, false, false, true, false, false, false, false, false, false, false, false] ?_
      refine pr_ HT_.out 7 (some 15) #[true, true, true, true, false, false, true, true, false, false, false, false, false, false, false] ?_
      refine pr_ HT_.out 8 (some 16) #[true, true, true, true, false, false, true, true, true, false, false, false, false, false, false] ?_
      refine tk_ HT_.out HW_.out hHeld 4 (some 12) #[true, true, true, true, true, false, true, true, true, false, false, false, false, false, false] ?_
      refine pr_ HT_.out 5 (some 13) #[true, true, true, true, true, true, true, true, true, false, false, false, false, false, false] ?_
      refine tk_ HT_.out HW_.out hHeld 9 (some 17) #[true, true, true, true, true, true, true, true, true, true, false, false, false, false, false] ?_
      refine pr_ HT_.out 10 (some 18) #[true, true, true, true, true, true, true, true, true, true, true, false, false, false, false] ?_
      refine pr_ HT_.out 11 (some 19) #[true, true, true, true, true, true, true, true, true, true, true, true, false, false, false] ?_
      refine pr_ HT_.out 12 (some 20) #[true, true, true, true, true, true, true, true, true, true, true, true, true, false, false] ?_
      refine pr_ HT_.out 13 (some 21) #[true, true, true, true, true, true, true, true, true, true, true, true, true, true, false] ?_
      refine last_ (i := 14) (N := none) #[true, true, true, true, true, true, true, true, true, true, true, true, true, true, true] rfl rfl (one_of HT_.out (by kernel_rfl)) (by decide) (fun K hK => ?_)
      refine skip_ (w1 := ?_) (by rfl) rfl ?_ ?_
      rotate_left
      ·go_simp
       rfl
      refine hK.out _ _ ?_
      clear hK K
      refine done_ (done_of HT_.out (by kernel_rfl)) ?_
      clear HGq hgq
      go_wp2_with (first | ((with_reducible refine gate_callee (f := 59) rfl ?_); refine goesL_ (some 7) rfl rfl Tryd.func59 (by kernel_rfl) rfl #[.pointer (some ⟨g, 0, none⟩)] rfl ga_ ?_; (with_reducible refine (impl_termReader_peek.calls g s0_0 s0_1 t110 t111 t112 w0 _ ?side1 ?side2 A2.out).mono ?_); (case side1 => exact is66_1 HI0.out); (case side2 => exact bs_ HB.out (IsS66.ge HI0.out)); rintro e w34 ⟨rfl, hi, hb, hk⟩; refine ⟨_, rfl, ?_⟩; have n0_ := Aside0.mk (KeepBut.trans (ke_ HK.out) hk (.inl rfl)); have n1_ := Aside0.mk (hb); have n2_ := Aside0.mk (hi); clear HK; clear HB; clear HI0; have HK := n0_; have HB := n1_; have HI0 := n2_; clear n0_ n1_ n2_; (try clear hb); (try clear hb2); (try clear hk); (try clear hi); obtain ⟨HGz35, hgz35⟩ := HI0.out; have hcz35_0 := cellS66_0 HGz35; have hcz35_1 := cellS66_1 HGz35; have hfz35_0 := blk_frozen HGz35 0; have hfz35_1 := blk_frozen HGz35 1; clear HGz35 hgz35) | ((with_reducible refine gate_callee (f := 59) rfl ?_); refine goesL_ (some 43) rfl rfl Tryd.func59 (by kernel_rfl) rfl #[.pointer (some ⟨g, 0, none⟩)] rfl ga_ ?_; (with_reducible refine (impl_termReader_peek.calls g t111 ji3 t121 t122 t123 w0 _ ?side1 ?side2 A17.out).mono ?_); (case side1 => exact is66_1 HI0.out); (case side2 => exact bs_ HB.out (IsS66.ge HI0.out)); rintro e w36 ⟨rfl, hi, hb, hk⟩; refine ⟨_, rfl, ?_⟩; have n0_ := Aside0.mk (KeepBut.trans (ke_ HK.out) hk (.inl rfl)); have n1_ := Aside0.mk (hb); have n2_ := Aside0.mk (hi); clear HK; clear HB; clear HI0; have HK := n0_; have HB := n1_; have HI0 := n2_; clear n0_ n1_ n2_; (try clear hb); (try clear hb2); (try clear hk); (try clear hi); obtain ⟨HGz37, hgz37⟩ := HI0.out; have hcz37_0 := cellS66_0 HGz37; have hcz37_1 := cellS66_1 HGz37; have hfz37_0 := blk_frozen HGz37 0; have hfz37_1 := blk_frozen HGz37 1; clear HGz37 hgz37) | ((with_reducible refine gate_dst (N := 72) rfl ?_); refine Kd.R_lit k54 _ 54 ?hg (N := 72) ?hd (xs := ([(⟨0, (t110 - 65) % 256, (t121 - 48) % 256⟩ : S54)] : List (S54))) (inner := [.int .i64 0, .int .i64 ((t110 - 65) % 256), .int .i64 ((t121 - 48) % 256)]) (ok := fun _ => True) (okp := fun _ => True) ?hr ?hp (fun _ hk => hk) trivial (Below.refl _ _) (Nat.le_refl _) (by simp) ?_; (case hd => rfl); (case hg => rfl); (case hr => first | (go_simp; done) | (go_simp; rfl)); (case hp => exact (Reps.c3 (show Kd.M k54 _ _ _ (⟨0, (t110 - 65) % 256, (t121 - 48) % 256⟩ : S54) [.int .i64 0, .int .i64 ((t110 - 65) % 256), .int .i64 ((t121 - 48) % 256)] from (k54_mkM _ _ _ (⟨0, (t110 - 65) % 256, (t121 - 48) % 256⟩ : S54) )) (Reps.none _ _))); intro v125 w38 ho39 hb hg_ hnew_; clear hg_ hnew_; (first | rw [← Ny124.out] at ho39 | (simp only [Int.reduceToNat] at ho39; rw [← Ny124.out] at ho39)); have n0_ := Aside0.mk (Kd.R_lower ho39 (keep_size (w := w) (g := g) (row := none) (ke_ HK.out))); have n1_ := Aside0.mk (IsS66.below (show IsS66 w0 (w36.setCell ⟨g, 1, none⟩ (.int .i64 (wrap64 (t123 + 1)))) g t122 (wrap64 (t123 + 1)) from by exact is66_1 HI0.out) hb); have n2_ := Aside0.mk (KeepBut.trans (ke_ HK.out) (KeepBut.of_below hb g none) (.inl rfl)); have n3_ := Aside0.mk (below_step (bs_ HB.out (IsS66.ge HI0.out)) hb); clear HI0; clear HK; clear HB; have HO126 := n0_; have HI0 := n1_; have HK := n2_; have HB := n3_; clear n0_ n1_ n2_ n3_; clear hb ho39))
      go_ret
      exact ⟨_, by first | rfl | (simp [errW_none, errW_some] <;> rfl) | (simp only [← hji3]; first | rfl | (simp [errW_none, errW_some] <;> rfl)) | (simp [*, errW_none, errW_some] <;> rfl), r_ HO126.out, by exact is66_1 HI0.out, bs_ HB.out (IsS66.ge HI0.out), ke_ HK.out⟩

end

end Go.Proofs.YtoifikhcnioagaaDoor.PFnReadTerm
