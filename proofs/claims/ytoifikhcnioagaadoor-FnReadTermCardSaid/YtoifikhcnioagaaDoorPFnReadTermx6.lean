/- Walks of the functions that this law reaches, one by one, written by a program. No condition. -/
import Derived.Test.YtoifikhcnioagaaDoorPFnReadTermx0
namespace Go.Proofs.YtoifikhcnioagaaDoor.PFnReadTerm
open Go.RowKit Go.Proofs.YtoifikhcnioagaaDoorW.PrintWords Go.Proofs.YtoifikhcnioagaaDoorW.PrintLast Go.Proofs.YtoifikhcnioagaaDoorW.PrintMore
attribute [local go_sem] max2_int min2_int max_two min_two max_three min_three max_four min_four   -- for this text's walks alone
set_option linter.unusedVariables false
set_option linter.unusedSimpArgs false

/-- A state of type 61 at block g of W; what its slices lead to came in by w0. -/
def IsS61 (w0 W : World) (g : Nat) (f0 : List Int) (f1 : Int) : Prop := ∃ A0 c0, W.heap[g]? = some (.cells #[.slice A0 f0.length c0, .int .i64 f1] 61 (0, 0)) ∧ w0.heap.size ≤ g ∧ Kd.C (Kd.int .u8) w0 A0 f0.length f0
theorem IsS61.grown {w0 W : World} {g : Nat} {f0 : List Int} {f1 : Int} {W1 : World} {row : Option Nat} (h : IsS61 w0 W g f0 f1) (hw : W.grownBy W1 row) (hne : some g ≠ row) : IsS61 w0 W1 g f0 f1 := by
 obtain ⟨A0, c0, hb, hg, hr0⟩ := h
 exact ⟨A0, c0, blk_grown hb hw hne, hg, hr0⟩
theorem IsS61.own_neN {w0 W : World} {g : Nat} {f0 : List Int} {f1 : Int} {α : Type} {d : Kd α} {e : Nat} {base : Nat} {ok : Nat → Prop} {v : Value} {xs : List α} (h : IsS61 w0 W g f0 f1) (ho : Kd.N d e W base ok v xs) (ht : e ≠ 61) : some g ≠ v.ownBlock := by
 obtain ⟨A0, c0, hb, hg, hr0⟩ := h
 exact Kd.N_ne ho hb ht
theorem IsS61.fresh {w0 W : World} {g : Nat} {f0 : List Int} {f1 : Int} (h : IsS61 w0 W g f0 f1) : ∀ k, W.heap.size ≤ k → k ≠ g := by
 obtain ⟨A0, c0, hb, hg, hr0⟩ := h
 exact Kd.freshB hb
theorem IsS61.kept {w0 W : World} {g : Nat} {f0 : List Int} {f1 : Int} {W1 : World} {S : Nat → Prop} (h : IsS61 w0 W g f0 f1) (hk : Kept W W1 S) (hne : ¬ S g) : IsS61 w0 W1 g f0 f1 := by
 obtain ⟨A0, c0, hb, hg, hr0⟩ := h
 exact ⟨A0, c0, blk_kept hb hk hne, hg, hr0⟩
theorem IsS61.below {w0 W : World} {g : Nat} {f0 : List Int} {f1 : Int} {W1 : World} (h : IsS61 w0 W g f0 f1) (hw : Below W.heap.size W W1) : IsS61 w0 W1 g f0 f1 := h.grown (grown_of_below hw none) (by simp)
theorem IsS61.alloc {w0 W : World} {g : Nat} {f0 : List Int} {f1 : Int} (h : IsS61 w0 W g f0 f1) (o : Obj) : IsS61 w0 (W.alloc o) g f0 f1 := h.below (below_alloc (Below.refl _ _) o)
theorem IsS61.drewN {w0 W : World} {g : Nat} {f0 : List Int} {f1 : Int} (h : IsS61 w0 W g f0 f1) (m : Nat) : IsS61 w0 (W.drewN m) g f0 f1 := h
theorem IsS61.drew {w0 W : World} {g : Nat} {f0 : List Int} {f1 : Int} (h : IsS61 w0 W g f0 f1) : IsS61 w0 W.drew g f0 f1 := h
theorem IsS61.at_ {w0 W : World} {g : Nat} {f0 : List Int} {f1 : Int} {w' : World} {m : Nat} (hq : W.drewN m = w') (h : IsS61 w0 W g f0 f1) : IsS61 w0 w' g f0 f1 := by subst hq; exact IsS61.drewN h m
theorem IsS61.apart {w0 W : World} {g : Nat} {f0 : List Int} {f1 : Int} {α : Type} {d : Kd α} {e : Nat} {base : Nat} {ok : Nat → Prop} {v : Value} {xs : List α} (h : IsS61 w0 W g f0 f1) (ho : d.R e W base ok v xs) (ht : ∀ q, q ∈ e :: d.E → q ≠ 61) : d.R e W base (fun k => ok k ∧ k ≠ g) v xs := by
 obtain ⟨A0, c0, hb, hg, hr0⟩ := h
 exact Kd.R_types ho hb ht
theorem IsS61.own_ne {w0 W : World} {g : Nat} {f0 : List Int} {f1 : Int} {α : Type} {d : Kd α} {e : Nat} {base : Nat} {ok : Nat → Prop} {v : Value} {xs : List α} (h : IsS61 w0 W g f0 f1) (ho : d.R e W base ok v xs) (ht : e ≠ 61) : some g ≠ v.ownBlock := by
 obtain ⟨A0, c0, hb, hg, hr0⟩ := h
 exact Kd.R_ne ho hb ht
theorem IsS61.apartQ {w0 W : World} {g : Nat} {f0 : List Int} {f1 : Int} {α : Type} {d : Kd α} {e : Nat} {base : Nat} {ok : Nat → Prop} {v : Value} {xs : List α} (h : IsS61 w0 W g f0 f1) (ho : d.Q e W base ok v xs) (ht : ∀ q, q ∈ e :: d.E → q ≠ 61) : d.Q e W base (fun k => ok k ∧ k ≠ g) v xs := by
 obtain ⟨A0, c0, hb, hg, hr0⟩ := h
 exact Kd.Q_types ho hb ht
theorem IsS61.own_neQ {w0 W : World} {g : Nat} {f0 : List Int} {f1 : Int} {α : Type} {d : Kd α} {e : Nat} {base : Nat} {ok : Nat → Prop} {v : Value} {xs : List α} (h : IsS61 w0 W g f0 f1) (ho : d.Q e W base ok v xs) (ht : e ≠ 61) : some g ≠ v.ownBlock := by
 obtain ⟨A0, c0, hb, hg, hr0⟩ := h
 exact Kd.Q_ne ho hb ht
theorem IsS61.apartS {w0 W : World} {g : Nat} {f0 : List Int} {f1 : Int} {α : Type} {d : Kd α} {e : Nat} {base : Nat} {ok : Nat → Prop} {v : Value} {xs : List α} (h : IsS61 w0 W g f0 f1) (ho : d.S e W base ok v xs) (ht : ∀ q, q ∈ e :: d.E → q ≠ 61) : d.S e W base (fun k => ok k ∧ k ≠ g) v xs := by
 obtain ⟨A0, c0, hb, hg, hr0⟩ := h
 exact Kd.S_types ho hb ht
theorem IsS61.own_neS {w0 W : World} {g : Nat} {f0 : List Int} {f1 : Int} {α : Type} {d : Kd α} {e : Nat} {base : Nat} {ok : Nat → Prop} {v : Value} {xs : List α} (h : IsS61 w0 W g f0 f1) (ho : d.S e W base ok v xs) (ht : e ≠ 61) : some g ≠ v.ownBlock := by
 obtain ⟨A0, c0, hb, hg, hr0⟩ := h
 exact Kd.S_ne ho hb ht
theorem IsS61.lt {w0 W : World} {g : Nat} {f0 : List Int} {f1 : Int} (h : IsS61 w0 W g f0 f1) : g < W.heap.size := by
 obtain ⟨A0, c0, hb, hg, hr0⟩ := h
 exact blk_lt hb
theorem IsS61.ge {w0 W : World} {g : Nat} {f0 : List Int} {f1 : Int} (h : IsS61 w0 W g f0 f1) : w0.heap.size ≤ g := by
 obtain ⟨A0, c0, hb, hg, hr0⟩ := h
 exact hg
theorem IsS61.ne_blk {w0 W : World} {g : Nat} {f0 : List Int} {f1 : Int} {a : Nat} {cs : Array Value} {t : TypeId} {fr : Nat × Nat} (h : IsS61 w0 W g f0 f1) (hb2 : W.heap[a]? = some (.cells cs t fr)) (ht : t ≠ 61) : g ≠ a := by
 obtain ⟨A0, c0, hb, hg, hr0⟩ := h; rintro rfl
 rw [hb] at hb2
 injection hb2 with hb2
 injection hb2 with _ ht2
 exact ht ht2.symm
theorem IsS61.far {w0 W : World} {g : Nat} {f0 : List Int} {f1 : Int} {p : Addr} (h : IsS61 w0 W g f0 f1) (hne : g ≠ p.block) (u : Value) : IsS61 w0 (W.setCell p u) g f0 f1 := by
 obtain ⟨A0, c0, hb, hg, hr0⟩ := h
 exact ⟨A0, c0, blk_far hb hne u, hg, hr0⟩
theorem cellS61_0 {W : World} {g : Nat} {A0 : Option Addr} {c0 : Nat} {f0 : List Int} {f1 : Int} (h : W.heap[g]? = some (.cells #[.slice A0 f0.length c0, .int .i64 f1] 61 (0, 0))) : W.cell? ⟨g, 0, none⟩ = some (.slice A0 f0.length c0) := (blk_cell h 0).trans rfl
theorem cellS61_1 {W : World} {g : Nat} {A0 : Option Addr} {c0 : Nat} {f0 : List Int} {f1 : Int} (h : W.heap[g]? = some (.cells #[.slice A0 f0.length c0, .int .i64 f1] 61 (0, 0))) : W.cell? ⟨g, 1, none⟩ = some (.int .i64 f1) := (blk_cell h 1).trans rfl
theorem IsS61.set_1 {w0 W : World} {g : Nat} {f0 : List Int} {f1 : Int} (h : IsS61 w0 W g f0 f1) (x : Int) : IsS61 w0 (W.setCell ⟨g, 1, none⟩ (.int .i64 x)) g f0 x := by
 obtain ⟨A0, c0, hb, hg, hr0⟩ := h
 exact ⟨A0, c0, by simpa using blk_set hb 1 (.int .i64 x), hg, hr0⟩
theorem IsS61.new (w0 W : World) (A0 : Option Addr) (c0 : Nat) (f0 : List Int) (f1 : Int) (hB : Below w0.heap.size w0 W) (hr0 : Kd.C (Kd.int .u8) w0 A0 f0.length f0) : IsS61 w0 (W.alloc (.cells #[.slice A0 f0.length c0, .int .i64 f1] 61)) W.heap.size f0 f1 := ⟨A0, c0, by simpa using heap_alloc_new W _, hB.size, hr0⟩
theorem is61_0 {P Q : Prop} (h : P) (k : P → Q := by intro h ; repeat (first | (with_reducible first | exact h | apply IsS61.alloc | apply IsS61.drewN | apply IsS61.drew | apply IsS61.set_1) | exact h)) : Q := k h 
theorem is61_1 {P Q R0 : Prop} (h : P) (g0 : R0) (k : P → R0 → Q := by intro h g0; repeat (first | (with_reducible first | exact h | apply IsS61.alloc | apply IsS61.drewN | apply IsS61.drew | apply IsS61.set_1 | refine IsS61.far ?_ g0 _) | exact h)) : Q := k h g0
theorem is61_2 {P Q R0 R1 : Prop} (h : P) (g0 : R0) (g1 : R1) (k : P → R0 → R1 → Q := by intro h g0 g1; repeat (first | (with_reducible first | exact h | apply IsS61.alloc | apply IsS61.drewN | apply IsS61.drew | apply IsS61.set_1 | refine IsS61.far ?_ g0 _ | refine IsS61.far ?_ g1 _) | exact h)) : Q := k h g0 g1

/-! ### spec_l20Open: function 22 -/
def spec_l20Open.f (l0 : List Int) : Option (List Int × Int) := if (l0.length : Int) > 2000 then (if 2000 ≤ (l0.length : Int) then (some (l0.take 2000, 0)) else (none)) else (some (l0, 0))
set_option maxHeartbeats 8000000 in
set_option maxRecDepth 100000 in
theorem spec_l20Open.calls (A0 : Option Addr) (c0 : Nat) (l0 : List Int) (r1 : List Int) (r2 : Int) (w0 w : World) (hB : Below w0.heap.size w0 w) (hr0 : Kd.C (Kd.int .u8) w0 A0 l0.length l0) (hc0 : l0.length ≤ c0) (h : spec_l20Open.f l0 = some (r1, r2)) :
  Calls Tryd.prog 22 #[.slice A0 l0.length c0] w fun e w' => ∃ g_ : Nat, e = .returned (.pointer (some ⟨g_, 0, none⟩)) ∧ IsS61 w0 w' g_ r1 r2 ∧ Below w0.heap.size w0 w' ∧ Below w.heap.size w w' := by
 have hu61 := Tryd.underlying61; have HR0 := Aside0.mk hr0; have HC0 := Aside0.mk hc0; clear hr0 hc0; have HBW := Aside0.mk (Below.refl w.heap.size w); have HW0 := Aside0.mk hB.size; have HB := Aside0.mk hB; clear hB; have H : (if (l0.length : Int) > 2000 then (if 2000 ≤ (l0.length : Int) then (some (l0.take 2000, 0)) else (none)) else (some (l0, 0))) = some (r1, r2) := h; clear h
 by_cases c2 : (l0.length : Int) > 2000
 ·rw [if_pos c2] at H
  have c2b0 : decide (2000 < (l0.length : Int)) = true := decide_eq_true c2; have c2b1 : decide (2000 < l0.length) = true := decide_eq_true (by omega); clear c2
  by_cases c3 : 2000 ≤ (l0.length : Int); rotate_left
  ·rw [if_neg c3] at H; exact absurd H (by simp)
  rw [if_pos c3] at H
  have c3b0 := eq_true c3; have c3b1 : decide (2000 ≤ (l0.length : Int)) = true := decide_eq_true c3; clear c3
  simp only [Option.some.injEq, Prod.mk.injEq] at H
  obtain ⟨rfl, rfl⟩ := H; obtain ⟨i04, hi04, _, hsz4, _⟩ := info_parts info5; obtain ⟨hcut4, hA4, hC4⟩ := print_take_of (P := Tryd.prog) (Value.int .u8) 0 22 5 .i64 Tryd.underlying22 hi04 hsz4 A0 c0 l0 2000 (by omega) (of_decide_eq_true as_) HC0.out; have HR154 := Aside0.mk (Kd.C_of_reads (h1 := fun _ => rfl) (hA4 _ (Kd.reads_of_C HR0.out))); have HC154 := Aside0.mk hC4; clear hA4 hC4 hi04 hsz4
  go_enter Tryd.func22, Tryd.ntmps22
  go_wp2_with (first | ((with_reducible refine gate_dst (N := 10) rfl ?_); refine box_event ?hg (N := 10) ?hd (cs := #[.slice A0 (l0.take 2000).length c0, .int .i64 0]) (t := 61) ?hr ?_; (case hd => rfl); (case hg => rfl); (case hr => first | (go_simp; done) | (go_simp; rfl)); intro gb155 hg w5 hbox hb; have n0_ := Aside0.mk (below_step HBW.out hb); have n1_ := Aside0.mk (below_step (bl_ HB.out) hb); have n2_ := Aside0.mk (hbox); have n3_ := Aside0.mk ((by rw [hg]; exact (below_size (bl_ HBW.out)) : w.heap.size ≤ gb155)); have n4_ := Aside0.mk ((Nat.le_trans HW0.out (by rw [hg]; exact (below_size (bl_ HBW.out)) : w.heap.size ≤ gb155) : w0.heap.size ≤ gb155)); clear HBW; clear HB; have HBW := n0_; have HB := n1_; have BK155 := n2_; have GW155 := n3_; have GE155 := n4_; clear n0_ n1_ n2_ n3_ n4_; clear hb hbox hg))
  go_ret
  exact ⟨_, rfl, (show IsS61 w0 _ gb155 (l0.take 2000) 0 from ⟨_, _, bk_ BK155.out, GE155.out, HR154.out⟩), bs_ HB.out GE155.out, bs_ HBW.out GW155.out⟩
 ·rw [if_neg c2] at H
  have c2b0 : decide (2000 < (l0.length : Int)) = false := decide_eq_false c2; have c2b1 : decide (2000 < l0.length) = false := decide_eq_false (by omega); clear c2
  simp only [Option.some.injEq, Prod.mk.injEq] at H
  obtain ⟨rfl, rfl⟩ := H
  go_enter Tryd.func22, Tryd.ntmps22
  go_wp2_with (first | ((with_reducible refine gate_dst (N := 10) rfl ?_); refine box_event ?hg (N := 10) ?hd (cs := #[.slice A0 l0.length c0, .int .i64 0]) (t := 61) ?hr ?_; (case hd => rfl); (case hg => rfl); (case hr => first | (go_simp; done) | (go_simp; rfl)); intro gb156 hg w6 hbox hb; have n0_ := Aside0.mk (below_step HBW.out hb); have n1_ := Aside0.mk (below_step (bl_ HB.out) hb); have n2_ := Aside0.mk (hbox); have n3_ := Aside0.mk ((by rw [hg]; exact (below_size (bl_ HBW.out)) : w.heap.size ≤ gb156)); have n4_ := Aside0.mk ((Nat.le_trans HW0.out (by rw [hg]; exact (below_size (bl_ HBW.out)) : w.heap.size ≤ gb156) : w0.heap.size ≤ gb156)); clear HBW; clear HB; have HBW := n0_; have HB := n1_; have BK156 := n2_; have GW156 := n3_; have GE156 := n4_; clear n0_ n1_ n2_ n3_ n4_; clear hb hbox hg))
  go_ret
  exact ⟨_, rfl, (show IsS61 w0 _ gb156 l0 0 from ⟨_, _, bk_ BK156.out, GE156.out, HR0.out⟩), bs_ HB.out GE156.out, bs_ HBW.out GW156.out⟩

/-! ### spec_l20Rd_pick: function 24 -/
def spec_l20Rd_pick.j0 : Nat → Int → Bool → List Int → Int → Option (Int × Int)
 | 0, _, _, _, _ => none
 | k + 1, x1, x24, x1000, x1001 => if x24 = true then (some (0, x1001)) else (if (wrap64 (x1001 - 1)) < (x1000.length : Int) then (if 0 ≤ (wrap64 (x1001 - 1)) then (if x1 = 0 then (none) else (some (Int.tmod (wrap64 (rd x1000 (wrap64 (x1001 - 1)))) x1, x1001))) else (none)) else (if (x1000.length : Int) = 0 then (none) else (if 0 ≤ (Int.tmod (wrap64 (x1001 - 1)) (x1000.length : Int)) then (if (Int.tmod (wrap64 (x1001 - 1)) (x1000.length : Int)) < (x1000.length : Int) then (if 0 ≤ (Int.tmod (wrap64 ((wrap64 ((wrap64 (x1001 - 1)) * 7)) + 3)) (x1000.length : Int)) then (if (Int.tmod (wrap64 ((wrap64 ((wrap64 (x1001 - 1)) * 7)) + 3)) (x1000.length : Int)) < (x1000.length : Int) then (if x1 = 0 then (none) else (some (Int.tmod (Go.bits .xor .i64 (wrap64 ((wrap64 ((wrap64 ((wrap64 ((wrap64 (rd x1000 (Int.tmod (wrap64 (x1001 - 1)) (x1000.length : Int)))) * 131)) + (wrap64 ((wrap64 (rd x1000 (Int.tmod (wrap64 ((wrap64 ((wrap64 (x1001 - 1)) * 7)) + 3)) (x1000.length : Int)))) * 1117)))) + (wrap64 ((wrap64 (x1001 - 1)) * 29)))) + (wrap64 ((wrap64 (Int.tdiv (wrap64 (x1001 - 1)) (x1000.length : Int))) * 53)))) (wrap64 (Int.tdiv (wrap64 ((wrap64 ((wrap64 ((wrap64 ((wrap64 (rd x1000 (Int.tmod (wrap64 (x1001 - 1)) (x1000.length : Int)))) * 131)) + (wrap64 ((wrap64 (rd x1000 (Int.tmod (wrap64 ((wrap64 ((wrap64 (x1001 - 1)) * 7)) + 3)) (x1000.length : Int)))) * 1117)))) + (wrap64 ((wrap64 (x1001 - 1)) * 29)))) + (wrap64 ((wrap64 (Int.tdiv (wrap64 (x1001 - 1)) (x1000.length : Int))) * 53)))) 64))) x1, x1001))) else (none)) else (none)) else (none)) else (none))))
def spec_l20Rd_pick.f (k : Nat) (s0_0 : List Int) (s0_1 : Int) (a1 : Int) : Option (Int × Int) := if a1 < 1 then (spec_l20Rd_pick.j0 k a1 true s0_0 (wrap64 (s0_1 + 1))) else (spec_l20Rd_pick.j0 k a1 ((s0_0.length : Int) == 0) s0_0 (wrap64 (s0_1 + 1)))
theorem spec_l20Rd_pick.mono_l : ∀ k, (∀ y0 y1 y2 y3, LeO (spec_l20Rd_pick.j0 k y0 y1 y2 y3) (spec_l20Rd_pick.j0 (k + 1) y0 y1 y2 y3))
 | 0 => fun _ _ _ _ r h => by simp [spec_l20Rd_pick.j0] at h
 | k + 1 => by
  have ih0 := spec_l20Rd_pick.mono_l k
  ·intro y0 y1 y2 y3
   unfold spec_l20Rd_pick.j0
   repeat' first
   | (with_reducible exact ih0 _ _ _ _)
   | (with_reducible exact LeO.refl _)
   | (with_reducible exact LeO.none _)
   | (with_reducible refine LeO.ite ?_ ?_)
   | (with_reducible refine LeO.bind ?_ (fun _ => ?_))
   | exact ih0 _ _ _ _
   | exact LeO.none _
   | refine LeO.ite ?_ ?_
   | refine LeO.bind ?_ (fun _ => ?_)
theorem spec_l20Rd_pick.mono : ∀ a0 a1 a2 k, LeO (spec_l20Rd_pick.f k a0 a1 a2) (spec_l20Rd_pick.f (k + 1) a0 a1 a2) := by
 intro a0 a1 a2 k; have ih0 := spec_l20Rd_pick.mono_l k
 unfold spec_l20Rd_pick.f
 repeat' first
   | (with_reducible exact ih0 _ _ _ _)
   | (with_reducible exact LeO.refl _)
   | (with_reducible exact LeO.none _)
   | (with_reducible refine LeO.ite ?_ ?_)
   | (with_reducible refine LeO.bind ?_ (fun _ => ?_))
   | exact ih0 _ _ _ _
   | exact LeO.none _
   | refine LeO.ite ?_ ?_
   | refine LeO.bind ?_ (fun _ => ?_)
set_option maxHeartbeats 8000000 in
set_option maxRecDepth 100000 in
theorem spec_l20Rd_pick.calls (k : Nat) (g : Nat) (s0_0 : List Int) (s0_1 : Int) (a1 : Int) (r1 : Int) (r2 : Int) (w0 w : World) (hI : IsS61 w0 w g s0_0 s0_1) (hB : Below w0.heap.size w0 w) (h : spec_l20Rd_pick.f k s0_0 s0_1 a1 = some (r1, r2)) :
  Calls Tryd.prog 24 #[.pointer (some ⟨g, 0, none⟩), .int .i64 a1] w fun e w' => e = .returned (.int .i64 r1) ∧ IsS61 w0 w' g s0_0 r2 ∧ Below w0.heap.size w0 w' ∧ KeepBut w w' g none := by
 have HI0 := Aside0.mk hI; have HK := Aside0.mk (KeepBut.refl w g none); have HL := Aside0.mk hB.size; clear hI; have HW0 := Aside0.mk hB.size; have HB := Aside0.mk hB; clear hB; have H : (if a1 < 1 then (spec_l20Rd_pick.j0 k a1 true s0_0 (wrap64 (s0_1 + 1))) else (spec_l20Rd_pick.j0 k a1 ((s0_0.length : Int) == 0) s0_0 (wrap64 (s0_1 + 1)))) = some (r1, r2) := h; clear h; have HC3 := Aside0.mk H; clear H; obtain ⟨ASz4_0, cSz4_0, HGz4, hgz4, HSz4_0⟩ := HI0.out; have hcz4_0 := cellS61_0 HGz4; have hcz4_1 := cellS61_1 HGz4; have hfz4_1 := blk_frozen HGz4 1; clear HGz4 hgz4
 go_enter Tryd.func24, Tryd.ntmps24
 go_upto_region 2 with (fail)
 repeat (go_quiet (fail); go_upto_region 2 with (fail))
 go_cut [24] (fun v24 wc => ∃ (kq : Nat) (x24_2 : Bool), v24 = .bool x24_2 ∧ Aside0 (spec_l20Rd_pick.j0 kq a1 x24_2 s0_0 (wrap64 (s0_1 + 1)) = some (r1, r2)) ∧ Aside0 (kq ≤ k) ∧ Aside0 (IsS61 w0 wc g s0_0 (wrap64 (s0_1 + 1))) ∧ Aside0 (KeepBut w wc g none) ∧ Aside0 (Below w0.heap.size w0 wc))
 case first =>
  have H := HC3.out; clear HC3
  by_cases c5 : a1 < 1
  ·rw [if_pos c5] at H
   have c5b0 : decide (a1 < 1) = true := decide_eq_true c5; clear c5
   (first | rw [c5b0] | (simp only [i64_w, i32_w]; rw [c5b0]) | skip)
   have H' := Aside0.mk H; clear H
   go_wp2
   repeat (go_quiet (fail); try go_wp2)
   go_meet
   case rel => exact ⟨_, (true), si_, H', ⟨by first | omega | exact Nat.le_refl _⟩, ⟨by exact is61_0 HI0.out⟩, ⟨ke_ HK.out⟩, ⟨bs_ HB.out (IsS61.ge HI0.out)⟩⟩
  ·rw [if_neg c5] at H
   have c5b0 : decide (a1 < 1) = false := decide_eq_false c5; clear c5
   (first | rw [c5b0] | (simp only [i64_w, i32_w]; rw [c5b0]) | skip)
   have H' := Aside0.mk H; clear H; obtain ⟨ASz6_0, cSz6_0, HGz6, hgz6, HSz6_0⟩ := HI0.out; have hcz6_0 := cellS61_0 HGz6; have hcz6_1 := cellS61_1 HGz6; have hfz6_1 := blk_frozen HGz6 1; clear HGz6 hgz6
   go_wp2
   repeat (go_quiet (fail); try go_wp2)
   go_meet
   case rel => exact ⟨_, (((s0_0.length : Int) == 0)), si_, H', ⟨by first | omega | exact Nat.le_refl _⟩, ⟨by exact is61_0 HI0.out⟩, ⟨ke_ HK.out⟩, ⟨bs_ HB.out (IsS61.ge HI0.out)⟩⟩
 case rest =>
  clear HC3; (try clear c2); (try clear p2); (try clear c5); (try clear c5b0); (try clear p6); (try clear hcz4_0); (try clear hcz4_1); (try clear hcz6_0); (try clear hcz6_1); (try clear hfz4_1); (try clear hfz6_1); obtain ⟨kq, x24_2, rfl, HA, HJ2, HI0, HK, HB⟩ := hcut
  cases kq with
  | zero => exact absurd HA.out (by simp [spec_l20Rd_pick.j0])
  | succ kj2 =>
   have H := HA.out; clear HA
   simp only [spec_l20Rd_pick.j0] at H
   by_cases c7 : x24_2 = true
   ·subst c7
    have H1 : (some (0, (wrap64 (s0_1 + 1)))) = some (r1, r2) := by rw [if_pos rfl] at H; exact H
    clear H; have H := H1; clear H1
    simp only [Option.some.injEq, Prod.mk.injEq] at H
    obtain ⟨rfl, rfl⟩ := H
    go_wp2
    repeat (go_quiet (fail); try go_wp2)
    go_ret
    exact ⟨sr_, by exact is61_0 HI0.out, bs_ HB.out (IsS61.ge HI0.out), ke_ HK.out⟩
   ·replace c7 := Bool.eq_false_iff.mpr c7
    subst c7
    have H1 : (if (wrap64 ((wrap64 (s0_1 + 1)) - 1)) < (s0_0.length : Int) then (if 0 ≤ (wrap64 ((wrap64 (s0_1 + 1)) - 1)) then (if a1 = 0 then (none) else (some (Int.tmod (wrap64 (rd s0_0 (wrap64 ((wrap64 (s0_1 + 1)) - 1)))) a1, (wrap64 (s0_1 + 1))))) else (none)) else (if (s0_0.length : Int) = 0 then (none) else (if 0 ≤ (Int.tmod (wrap64 ((wrap64 (s0_1 + 1)) - 1)) (s0_0.length : Int)) then (if (Int.tmod (wrap64 ((wrap64 (s0_1 + 1)) - 1)) (s0_0.length : Int)) < (s0_0.length : Int) then (if 0 ≤ (Int.tmod (wrap64 ((wrap64 ((wrap64 ((wrap64 (s0_1 + 1)) - 1)) * 7)) + 3)) (s0_0.length : Int)) then (if (Int.tmod (wrap64 ((wrap64 ((wrap64 ((wrap64 (s0_1 + 1)) - 1)) * 7)) + 3)) (s0_0.length : Int)) < (s0_0.length : Int) then (if a1 = 0 then (none) else (some (Int.tmod (Go.bits .xor .i64 (wrap64 ((wrap64 ((wrap64 ((wrap64 ((wrap64 (rd s0_0 (Int.tmod (wrap64 ((wrap64 (s0_1 + 1)) - 1)) (s0_0.length : Int)))) * 131)) + (wrap64 ((wrap64 (rd s0_0 (Int.tmod (wrap64 ((wrap64 ((wrap64 ((wrap64 (s0_1 + 1)) - 1)) * 7)) + 3)) (s0_0.length : Int)))) * 1117)))) + (wrap64 ((wrap64 ((wrap64 (s0_1 + 1)) - 1)) * 29)))) + (wrap64 ((wrap64 (Int.tdiv (wrap64 ((wrap64 (s0_1 + 1)) - 1)) (s0_0.length : Int))) * 53)))) (wrap64 (Int.tdiv (wrap64 ((wrap64 ((wrap64 ((wrap64 ((wrap64 (rd s0_0 (Int.tmod (wrap64 ((wrap64 (s0_1 + 1)) - 1)) (s0_0.length : Int)))) * 131)) + (wrap64 ((wrap64 (rd s0_0 (Int.tmod (wrap64 ((wrap64 ((wrap64 ((wrap64 (s0_1 + 1)) - 1)) * 7)) + 3)) (s0_0.length : Int)))) * 1117)))) + (wrap64 ((wrap64 ((wrap64 (s0_1 + 1)) - 1)) * 29)))) + (wrap64 ((wrap64 (Int.tdiv (wrap64 ((wrap64 (s0_1 + 1)) - 1)) (s0_0.length : Int))) * 53)))) 64))) a1, (wrap64 (s0_1 + 1))))) else (none)) else (none)) else (none)) else (none)))) = some (r1, r2) := by rw [if_neg (show ¬ (false = true) by decide)] at H; exact H
    clear H; have H := H1; clear H1
    by_cases c8 : (wrap64 ((wrap64 (s0_1 + 1)) - 1)) < (s0_0.length : Int)
    ·rw [if_pos c8] at H
     have c8b0 : decide ((wrap64 ((wrap64 (s0_1 + 1)) - 1)) < (s0_0.length : Int)) = true := decide_eq_true c8; clear c8; obtain ⟨ji9, hji9⟩ : ∃ j_ : Int, (wrap64 ((wrap64 (s0_1 + 1)) - 1)) = j_ := ⟨_, rfl⟩
     replace H : (if 0 ≤ (ji9) then (if a1 = 0 then (none) else (some (Int.tmod (wrap64 (rd s0_0 (ji9))) a1, (wrap64 (s0_1 + 1))))) else (none)) = some (r1, r2) := by first | (rw [hji9] at H; exact H) | (simp only [hji9] at H ⊢; exact H)
     (try rw [hji9] at c8b0)
     have hji9w : (IntKind.i64.wrap ((wrap64 (s0_1 + 1)) - 1)) = ji9 := (i64_w _).trans hji9
     by_cases c10 : 0 ≤ (ji9); rotate_left
     ·rw [if_neg c10] at H; exact absurd H (by simp)
     rw [if_pos c10] at H
     have c10b0 : decide (0 ≤ (ji9)) = true := decide_eq_true c10; clear c10
     by_cases c11 : a1 = 0
     ·rw [if_pos c11] at H
      exact absurd H (by simp)
     ·rw [if_neg c11] at H
      have c11b0 : (a1 == 0) = false := beq_eq_false_iff_ne.mpr c11; have c11b1 : (a1 != 0) = true := bne_iff_ne.mpr c11
      simp only [Option.some.injEq, Prod.mk.injEq] at H
      obtain ⟨rfl, rfl⟩ := H; obtain ⟨ASz12_0, cSz12_0, HGz12, hgz12, HSz12_0⟩ := HI0.out; have hcz12_0 := cellS61_0 HGz12; have hcz12_1 := cellS61_1 HGz12; have hfz12_1 := blk_frozen HGz12 1; clear HGz12 hgz12; have p157 : 0 ≤ ((ji9) : Int) := of_decide_eq_true as_; have q157 : (ji9) < (s0_0.length : Int) := of_decide_eq_true as_; obtain ⟨ad157, e157, hx157_0⟩ := Kd.at_int HSz12_0 (ji9) p157 q157; cases e157; replace hx157_0 := pw_cell_below HB.out hx157_0; replace p157 := eq_true p157; replace q157 := eq_true q157
      go_wp2
      repeat (go_quiet (fail); try go_wp2)
      go_ret
      exact ⟨by first | rfl | (simp [errW_none, errW_some] <;> rfl) | (simp only [← hji9]; first | rfl | (simp [errW_none, errW_some] <;> rfl)) | (simp [*, errW_none, errW_some] <;> rfl), by exact is61_0 HI0.out, bs_ HB.out (IsS61.ge HI0.out), ke_ HK.out⟩
    ·rw [if_neg c8] at H
     have c8b0 : decide ((wrap64 ((wrap64 (s0_1 + 1)) - 1)) < (s0_0.length : Int)) = false := decide_eq_false c8; clear c8
     by_cases c13 : (s0_0.length : Int) = 0
     ·rw [if_pos c13] at H
      exact absurd H (by simp)
     ·rw [if_neg c13] at H
      have c13b0 : ((s0_0.length : Int) == 0) = false := beq_eq_false_iff_ne.mpr c13; have c13b1 : ((s0_0.length : Int) != 0) = true := bne_iff_ne.mpr c13; have c13b2 : ¬ (s0_0 = []) := fun h_ => c13 (by rw [h_]; rfl); obtain ⟨ji14, hji14⟩ : ∃ j_ : Int, (Int.tmod (wrap64 ((wrap64 (s0_1 + 1)) - 1)) (s0_0.length : Int)) = j_ := ⟨_, rfl⟩
      replace H : (if 0 ≤ (ji14) then (if (ji14) < (s0_0.length : Int) then (if 0 ≤ (Int.tmod (wrap64 ((wrap64 ((wrap64 ((wrap64 (s0_1 + 1)) - 1)) * 7)) + 3)) (s0_0.length : Int)) then (if (Int.tmod (wrap64 ((wrap64 ((wrap64 ((wrap64 (s0_1 + 1)) - 1)) * 7)) + 3)) (s0_0.length : Int)) < (s0_0.length : Int) then (if a1 = 0 then (none) else (some (Int.tmod (Go.bits .xor .i64 (wrap64 ((wrap64 ((wrap64 ((wrap64 ((wrap64 (rd s0_0 (ji14))) * 131)) + (wrap64 ((wrap64 (rd s0_0 (Int.tmod (wrap64 ((wrap64 ((wrap64 ((wrap64 (s0_1 + 1)) - 1)) * 7)) + 3)) (s0_0.length : Int)))) * 1117)))) + (wrap64 ((wrap64 ((wrap64 (s0_1 + 1)) - 1)) * 29)))) + (wrap64 ((wrap64 (Int.tdiv (wrap64 ((wrap64 (s0_1 + 1)) - 1)) (s0_0.length : Int))) * 53)))) (wrap64 (Int.tdiv (wrap64 ((wrap64 ((wrap64 ((wrap64 ((wrap64 (rd s0_0 (ji14))) * 131)) + (wrap64 ((wrap64 (rd s0_0 (Int.tmod (wrap64 ((wrap64 ((wrap64 ((wrap64 (s0_1 + 1)) - 1)) * 7)) + 3)) (s0_0.length : Int)))) * 1117)))) + (wrap64 ((wrap64 ((wrap64 (s0_1 + 1)) - 1)) * 29)))) + (wrap64 ((wrap64 (Int.tdiv (wrap64 ((wrap64 (s0_1 + 1)) - 1)) (s0_0.length : Int))) * 53)))) 64))) a1, (wrap64 (s0_1 + 1))))) else (none)) else (none)) else (none)) else (none)) = some (r1, r2) := by first | (rw [hji14] at H; exact H) | (simp only [hji14] at H ⊢; exact H)
      by_cases c15 : 0 ≤ (ji14); rotate_left
      ·rw [if_neg c15] at H; exact absurd H (by simp)
      rw [if_pos c15] at H
      have c15b0 : decide (0 ≤ (ji14)) = true := decide_eq_true c15; clear c15
      by_cases c16 : (ji14) < (s0_0.length : Int); rotate_left
      ·rw [if_neg c16] at H; exact absurd H (by simp)
      rw [if_pos c16] at H
      have c16b0 : decide ((ji14) < (s0_0.length : Int)) = true := decide_eq_true c16; clear c16; obtain ⟨ji17, hji17⟩ : ∃ j_ : Int, (Int.tmod (wrap64 ((wrap64 ((wrap64 ((wrap64 (s0_1 + 1)) - 1)) * 7)) + 3)) (s0_0.length : Int)) = j_ := ⟨_, rfl⟩
      replace H : (if 0 ≤ (ji17) then (if (ji17) < (s0_0.length : Int) then (if a1 = 0 then (none) else (some (Int.tmod (Go.bits .xor .i64 (wrap64 ((wrap64 ((wrap64 ((wrap64 ((wrap64 (rd s0_0 (ji14))) * 131)) + (wrap64 ((wrap64 (rd s0_0 (ji17))) * 1117)))) + (wrap64 ((wrap64 ((wrap64 (s0_1 + 1)) - 1)) * 29)))) + (wrap64 ((wrap64 (Int.tdiv (wrap64 ((wrap64 (s0_1 + 1)) - 1)) (s0_0.length : Int))) * 53)))) (wrap64 (Int.tdiv (wrap64 ((wrap64 ((wrap64 ((wrap64 ((wrap64 (rd s0_0 (ji14))) * 131)) + (wrap64 ((wrap64 (rd s0_0 (ji17))) * 1117)))) + (wrap64 ((wrap64 ((wrap64 (s0_1 + 1)) - 1)) * 29)))) + (wrap64 ((wrap64 (Int.tdiv (wrap64 ((wrap64 (s0_1 + 1)) - 1)) (s0_0.length : Int))) * 53)))) 64))) a1, (wrap64 (s0_1 + 1))))) else (none)) else (none)) = some (r1, r2) := by first | (rw [hji17] at H; exact H) | (simp only [hji17] at H ⊢; exact H)
      by_cases c18 : 0 ≤ (ji17); rotate_left
      ·rw [if_neg c18] at H; exact absurd H (by simp)
      rw [if_pos c18] at H
      have c18b0 : decide (0 ≤ (ji17)) = true := decide_eq_true c18; clear c18
      by_cases c19 : (ji17) < (s0_0.length : Int); rotate_left
      ·rw [if_neg c19] at H; exact absurd H (by simp)
      rw [if_pos c19] at H
      have c19b0 : decide ((ji17) < (s0_0.length : Int)) = true := decide_eq_true c19; clear c19
      by_cases c20 : a1 = 0
      ·rw [if_pos c20] at H
       exact absurd H (by simp)
      ·rw [if_neg c20] at H
       have c20b0 : (a1 == 0) = false := beq_eq_false_iff_ne.mpr c20; have c20b1 : (a1 != 0) = true := bne_iff_ne.mpr c20
       simp only [Option.some.injEq, Prod.mk.injEq] at H
       obtain ⟨rfl, rfl⟩ := H; obtain ⟨ASz21_0, cSz21_0, HGz21, hgz21, HSz21_0⟩ := HI0.out; have hcz21_0 := cellS61_0 HGz21; have hcz21_1 := cellS61_1 HGz21; have hfz21_1 := blk_frozen HGz21 1; clear HGz21 hgz21; have p158 : 0 ≤ ((ji14) : Int) := of_decide_eq_true as_; have q158 : (ji14) < (s0_0.length : Int) := of_decide_eq_true as_; obtain ⟨ad158, e158, hx158_0⟩ := Kd.at_int HSz21_0 (ji14) p158 q158; cases e158; replace hx158_0 := pw_cell_below HB.out hx158_0; replace p158 := eq_true p158; replace q158 := eq_true q158; have p159 : 0 ≤ ((ji17) : Int) := of_decide_eq_true as_; have q159 : (ji17) < (s0_0.length : Int) := of_decide_eq_true as_; obtain ⟨ad159, e159, hx159_0⟩ := Kd.at_int HSz21_0 (ji17) p159 q159; obtain rfl : ad158 = ad159 := (by injection e159); replace hx159_0 := pw_cell_below HB.out hx159_0; replace p159 := eq_true p159; replace q159 := eq_true q159
       go_wp2
       repeat (go_quiet (fail); try go_wp2)
       go_ret
       exact ⟨by first | rfl | (simp [errW_none, errW_some] <;> rfl) | (simp only [← hji14, ← hji17]; first | rfl | (simp [errW_none, errW_some] <;> rfl)) | (simp [*, errW_none, errW_some] <;> rfl), by exact is61_0 HI0.out, bs_ HB.out (IsS61.ge HI0.out), ke_ HK.out⟩

/-! ### spec_l20Rd_odd: function 51 -/
def spec_l20Rd_odd.f (k : Nat) (s0_0 : List Int) (s0_1 : Int) (a1 : Int) : Option (Bool × Int) := if a1 > 0 then ((spec_l20Rd_pick.f k s0_0 s0_1 a1).bind fun bt160 => (some ((bt160.1 == (wrap64 (a1 - 1))), bt160.2))) else (some (false, s0_1))
theorem spec_l20Rd_odd.mono : ∀ a0 a1 a2 k, LeO (spec_l20Rd_odd.f k a0 a1 a2) (spec_l20Rd_odd.f (k + 1) a0 a1 a2) := by
 intro a0 a1 a2 k
 unfold spec_l20Rd_odd.f
 repeat' first
   | (with_reducible exact spec_l20Rd_pick.mono _ _ _ _)
   | (with_reducible exact LeO.refl _)
   | (with_reducible exact LeO.none _)
   | (with_reducible refine LeO.ite ?_ ?_)
   | (with_reducible refine LeO.bind ?_ (fun _ => ?_))
   | exact spec_l20Rd_pick.mono _ _ _ _
   | exact LeO.none _
   | refine LeO.ite ?_ ?_
   | refine LeO.bind ?_ (fun _ => ?_)
set_option maxHeartbeats 8000000 in
set_option maxRecDepth 100000 in
theorem spec_l20Rd_odd.calls (k : Nat) (g : Nat) (s0_0 : List Int) (s0_1 : Int) (a1 : Int) (r1 : Bool) (r2 : Int) (w0 w : World) (hI : IsS61 w0 w g s0_0 s0_1) (hB : Below w0.heap.size w0 w) (h : spec_l20Rd_odd.f k s0_0 s0_1 a1 = some (r1, r2)) :
  Calls Tryd.prog 51 #[.pointer (some ⟨g, 0, none⟩), .int .i64 a1] w fun e w' => e = .returned (.bool r1) ∧ IsS61 w0 w' g s0_0 r2 ∧ Below w0.heap.size w0 w' ∧ KeepBut w w' g none := by
 have HI0 := Aside0.mk hI; have HK := Aside0.mk (KeepBut.refl w g none); have HL := Aside0.mk hB.size; clear hI; have HW0 := Aside0.mk hB.size; have HB := Aside0.mk hB; clear hB; have H : (if a1 > 0 then ((spec_l20Rd_pick.f k s0_0 s0_1 a1).bind fun bt160 => (some ((bt160.1 == (wrap64 (a1 - 1))), bt160.2))) else (some (false, s0_1))) = some (r1, r2) := h; clear h
 by_cases c3 : a1 > 0
 ·rw [if_pos c3] at H
  have c3b0 : decide (0 < a1) = true := decide_eq_true c3; clear c3; replace H := Option.bind_eq_some_iff.mp H; obtain ⟨⟨t160, t161⟩, A40, H⟩ := H; replace H : (some ((t160 == (wrap64 (a1 - 1))), t161)) = some (r1, r2) := H; have A4 := Aside0.mk A40; clear A40
  simp only [Option.some.injEq, Prod.mk.injEq] at H
  obtain ⟨rfl, rfl⟩ := H
  go_enter Tryd.func51, Tryd.ntmps51
  go_wp2_with (first | (go_at_call 24; (with_reducible refine (spec_l20Rd_pick.calls k g s0_0 s0_1 a1 t160 t161 w0 _ ?side1 ?side2 A4.out).mono ?_); (case side1 => exact is61_0 HI0.out); (case side2 => exact bs_ HB.out (IsS61.ge HI0.out)); rintro e w5 ⟨rfl, hi, hb, hk⟩; have n0_ := Aside0.mk (KeepBut.trans (ke_ HK.out) hk (.inl rfl)); have n1_ := Aside0.mk (hb); have n2_ := Aside0.mk (hi); clear HK; clear HB; clear HI0; have HK := n0_; have HB := n1_; have HI0 := n2_; clear n0_ n1_ n2_; (try clear hb); (try clear hb2); (try clear hk); (try clear hi)))
  go_ret
  exact ⟨sr_, by exact is61_0 HI0.out, bs_ HB.out (IsS61.ge HI0.out), ke_ HK.out⟩
 ·rw [if_neg c3] at H
  have c3b0 : decide (0 < a1) = false := decide_eq_false c3; clear c3
  simp only [Option.some.injEq, Prod.mk.injEq] at H
  obtain ⟨rfl, rfl⟩ := H
  go_enter Tryd.func51, Tryd.ntmps51
  go_wp2
  go_ret
  exact ⟨sr_, by exact is61_0 HI0.out, bs_ HB.out (IsS61.ge HI0.out), ke_ HK.out⟩

/-! ### spec_l20House: function 37 -/
def spec_l20House.l0 : Nat → Int → Int → List Int → Int → Int → List Int → Option (Int × List Int × Int)
 | 0, _, _, _, _, _, _ => none
 | k + 1, x1, x6, x1000, x1001, x168000, x168001 => if x6 > 0 then (if 0 ≤ x168000 then ((spec_l20Rd_pick.f k x1000 x1001 (wrap64 ((shl .i64 1 x168000) - 1))).bind fun bt170 => (if x168001.length < 17592186044416 then (spec_l20House.l0 k x1 (wrap64 (x6 - 1)) x1000 bt170.2 x168000 (x168001 ++ [wrap64 (1 + bt170.1)])) else (none))) else (none)) else ((spec_l20Rd_odd.f k x1000 x1001 x1).bind fun bt175 => (if bt175.1 = true then ((spec_l20Rd_pick.f k x1000 bt175.2 3).bind fun bt177 => (if bt177.1 = 0 then ((some (([0, 7] : List Int) : List Int)).bind fun y179 => ((spec_l20Rd_pick.f k x1000 bt177.2 2).bind fun bt182 => (if 0 ≤ bt182.1 then (if bt182.1 < (y179.length : Int) then (some (rd y179 bt182.1, x168001, bt182.2)) else (none)) else (none)))) else (if bt177.1 = 1 then (if x168001.length < 17592186044416 then (some (x168000, (x168001 ++ [0]), bt177.2)) else (none)) else (some (x168000, (([] : List Int)), bt177.2))))) else (some (x168000, x168001, bt175.2))))
def spec_l20House.f (k : Nat) (s0_0 : List Int) (s0_1 : Int) (a1 : Int) : Option (Int × List Int × Int) := (spec_l20Rd_pick.f k s0_0 s0_1 5).bind fun bt163 => ((spec_l20Rd_pick.f k s0_0 bt163.2 9).bind fun bt165 => ((spec_l20Rd_pick.f k s0_0 bt165.2 3).bind fun bt168 => (spec_l20House.l0 k a1 (wrap64 (1 + bt168.1)) s0_0 bt168.2 (wrap64 ((wrap64 (1 + bt163.1)) + (wrap64 (Int.tdiv bt165.1 8)))) ([] : List Int))))
theorem spec_l20House.mono_l : ∀ k, (∀ y0 y1 y2 y3 y4 y5, LeO (spec_l20House.l0 k y0 y1 y2 y3 y4 y5) (spec_l20House.l0 (k + 1) y0 y1 y2 y3 y4 y5))
 | 0 => fun _ _ _ _ _ _ r h => by simp [spec_l20House.l0] at h
 | k + 1 => by
  have ih0 := spec_l20House.mono_l k
  ·intro y0 y1 y2 y3 y4 y5
   unfold spec_l20House.l0
   repeat' first
   | (with_reducible exact ih0 _ _ _ _ _ _)
   | (with_reducible exact spec_l20Rd_odd.mono _ _ _ _)
   | (with_reducible exact spec_l20Rd_pick.mono _ _ _ _)
   | (with_reducible exact LeO.refl _)
   | (with_reducible exact LeO.none _)
   | (with_reducible refine LeO.ite ?_ ?_)
   | (with_reducible refine LeO.bind ?_ (fun _ => ?_))
   | exact ih0 _ _ _ _ _ _
   | exact spec_l20Rd_odd.mono _ _ _ _
   | exact spec_l20Rd_pick.mono _ _ _ _
   | exact LeO.none _
   | refine LeO.ite ?_ ?_
   | refine LeO.bind ?_ (fun _ => ?_)
theorem spec_l20House.mono : ∀ a0 a1 a2 k, LeO (spec_l20House.f k a0 a1 a2) (spec_l20House.f (k + 1) a0 a1 a2) := by
 intro a0 a1 a2 k; have ih0 := spec_l20House.mono_l k
 unfold spec_l20House.f
 repeat' first
   | (with_reducible exact ih0 _ _ _ _ _ _)
   | (with_reducible exact spec_l20Rd_odd.mono _ _ _ _)
   | (with_reducible exact spec_l20Rd_pick.mono _ _ _ _)
   | (with_reducible exact LeO.refl _)
   | (with_reducible exact LeO.none _)
   | (with_reducible refine LeO.ite ?_ ?_)
   | (with_reducible refine LeO.bind ?_ (fun _ => ?_))
   | exact ih0 _ _ _ _ _ _
   | exact spec_l20Rd_odd.mono _ _ _ _
   | exact spec_l20Rd_pick.mono _ _ _ _
   | exact LeO.none _
   | refine LeO.ite ?_ ?_
   | refine LeO.bind ?_ (fun _ => ?_)
def spec_l20House.T5 : Bool × List (List Nat × List Nat) := (true, [([], []), ([0], [0]), ([], []), ([], []), ([3], [3]), ([4], [4]), ([5], [5]), ([2, 6], [2, 6]), ([7], [7]), ([8], [8]), ([1, 9, 7], [1, 9]), ([0, 1, 2, 3, 4, 5, 6, 7, 8, 9, 10], []), ([11, 10, 10, 0, 1, 2, 3, 4, 5, 6, 7, 8, 9, 10], [10, 11])])
def spec_l20House.B5 : List Nat := [0, 1, 0, 0, 8, 24, 56, 124, 252, 508, 1023, 2047, 4095]
theorem spec_l20House.tab5 : rtab .any (opsOf Tryd.f37 5) = spec_l20House.T5 := by kernel_rfl
theorem spec_l20House.bits5 : waitsOk spec_l20House.T5.2 spec_l20House.B5 = true := by kernel_rfl
set_option maxHeartbeats 8000000 in
set_option maxRecDepth 100000 in
theorem spec_l20House.calls (k : Nat) (g : Nat) (s0_0 : List Int) (s0_1 : Int) (a1 : Int) (r1 : Int) (r2 : List Int) (r3 : Int) (w0 w : World) (hI : IsS61 w0 w g s0_0 s0_1) (hB : Below w0.heap.size w0 w) (h : spec_l20House.f k s0_0 s0_1 a1 = some (r1, r2, r3)) :
  Calls Tryd.prog 37 #[.pointer (some ⟨g, 0, none⟩), .int .i64 a1] w fun e w' => ∃ v1_ : Value, e = .returned (.agg #[.int .i64 r1, v1_]) ∧ Kd.R (Kd.int .i64) 3 w' w.heap.size (fun _ => True) v1_ r2 ∧ IsS61 w0 w' g s0_0 r3 ∧ Below w0.heap.size w0 w' ∧ KeepBut w w' g none := by
 have hu25 := Tryd.underlying25; have HI0 := Aside0.mk hI; have HK := Aside0.mk (KeepBut.refl w g none); have HL := Aside0.mk hB.size; clear hI; have HW0 := Aside0.mk hB.size; have HB := Aside0.mk hB; clear hB; have H : ((spec_l20Rd_pick.f k s0_0 s0_1 5).bind fun bt163 => ((spec_l20Rd_pick.f k s0_0 bt163.2 9).bind fun bt165 => ((spec_l20Rd_pick.f k s0_0 bt165.2 3).bind fun bt168 => (spec_l20House.l0 k a1 (wrap64 (1 + bt168.1)) s0_0 bt168.2 (wrap64 ((wrap64 (1 + bt163.1)) + (wrap64 (Int.tdiv bt165.1 8)))) ([] : List Int))))) = some (r1, r2, r3) := h; clear h; replace H := Option.bind_eq_some_iff.mp H; obtain ⟨⟨t163, t164⟩, A30, H⟩ := H; replace H : ((spec_l20Rd_pick.f k s0_0 t164 9).bind fun bt165 => ((spec_l20Rd_pick.f k s0_0 bt165.2 3).bind fun bt168 => (spec_l20House.l0 k a1 (wrap64 (1 + bt168.1)) s0_0 bt168.2 (wrap64 ((wrap64 (1 + t163)) + (wrap64 (Int.tdiv bt165.1 8)))) ([] : List Int)))) = some (r1, r2, r3) := H; have A3 := Aside0.mk A30; clear A30; replace H := Option.bind_eq_some_iff.mp H; obtain ⟨⟨t165, t166⟩, A40, H⟩ := H; replace H : ((spec_l20Rd_pick.f k s0_0 t166 3).bind fun bt168 => (spec_l20House.l0 k a1 (wrap64 (1 + bt168.1)) s0_0 bt168.2 (wrap64 ((wrap64 (1 + t163)) + (wrap64 (Int.tdiv t165 8)))) ([] : List Int))) = some (r1, r2, r3) := H; have A4 := Aside0.mk A40; clear A40; replace H := Option.bind_eq_some_iff.mp H; obtain ⟨⟨t168, t169⟩, A50, H⟩ := H; replace H : (spec_l20House.l0 k a1 (wrap64 (1 + t168)) s0_0 t169 (wrap64 ((wrap64 (1 + t163)) + (wrap64 (Int.tdiv t165 8)))) ([] : List Int)) = some (r1, r2, r3) := H; have A5 := Aside0.mk A50; clear A50; have H' := Aside0.mk H; clear H
 go_enter Tryd.func37, Tryd.ntmps37
 go_wp2_with (first | ((with_reducible refine gate_dst (N := 4) rfl ?_); refine box_event ?hg (N := 4) ?hd (cs := #[.int .i64 0, .slice none 0 0]) (t := 25) ?hr ?_; (case hd => rfl); (case hg => rfl); (case hr => first | (go_simp; done) | (go_simp; rfl)); intro gb162 hg w6 hbox hb; have n0_ := Aside0.mk (IsS61.below (is61_0 HI0.out) hb); have n1_ := Aside0.mk (KeepBut.trans (ke_ HK.out) (KeepBut.of_below hb g none) (.inl rfl)); have n2_ := Aside0.mk (below_step (bs_ HB.out (IsS61.ge HI0.out)) hb); have n3_ := Aside0.mk (hbox); have n4_ := Aside0.mk ((by rw [hg]; exact (keep_size (w := w) (g := g) (row := none) (ke_ HK.out)) : w.heap.size ≤ gb162)); have n5_ := Aside0.mk ((Nat.le_trans HW0.out (by rw [hg]; exact (keep_size (w := w) (g := g) (row := none) (ke_ HK.out)) : w.heap.size ≤ gb162) : w0.heap.size ≤ gb162)); have n6_ := Aside0.mk ((by rw [hg]; exact Nat.ne_of_lt (IsS61.lt (show IsS61 w0 _ g s0_0 s0_1 from by exact is61_0 HI0.out)) : g ≠ gb162)); have n7_ := Aside0.mk ((by rw [hg]; exact Nat.ne_of_gt (IsS61.lt (show IsS61 w0 _ g s0_0 s0_1 from by exact is61_0 HI0.out)) : gb162 ≠ g)); clear HI0; clear HK; clear HB; have HI0 := n0_; have HK := n1_; have HB := n2_; have BK162 := n3_; have GW162 := n4_; have GE162 := n5_; have NB0_162 := n6_; have NB162_0 := n7_; clear n0_ n1_ n2_ n3_ n4_ n5_ n6_ n7_; clear hb hbox hg) | ((with_reducible refine gate_callee (f := 24) rfl ?_); refine goesL_ (some 8) rfl rfl Tryd.func24 (by kernel_rfl) rfl #[.pointer (some ⟨g, 0, none⟩), .int .i64 5] rfl ga_ ?_; (with_reducible refine (spec_l20Rd_pick.calls k g s0_0 s0_1 5 t163 t164 w0 _ ?side1 ?side2 A3.out).mono ?_); (case side1 => exact is61_1 HI0.out NB0_162.out); (case side2 => exact bq2_ HB.out (IsS61.ge HI0.out) GE162.out); rintro e w7 ⟨rfl, hi, hb, hk⟩; refine ⟨_, rfl, ?_⟩; have n0_ := Aside0.mk (KeepBut.blk hk (g' := gb162) (o := .cells #[.int .i64 0, .slice none 0 0] 25 (0, 0)) (bk_ BK162.out) NB162_0.out (by simp)); have n1_ := Aside0.mk (KeepBut.trans (kf_ HK.out GW162.out) hk (.inl rfl)); have n2_ := Aside0.mk (hb); have n3_ := Aside0.mk (hi); clear BK162; clear HK; clear HB; clear HI0; have BK162 := n0_; have HK := n1_; have HB := n2_; have HI0 := n3_; clear n0_ n1_ n2_ n3_; (try clear hb); (try clear hb2); (try clear hk); (try clear hi)) | ((with_reducible refine gate_callee (f := 24) rfl ?_); refine goesL_ (some 11) rfl rfl Tryd.func24 (by kernel_rfl) rfl #[.pointer (some ⟨g, 0, none⟩), .int .i64 9] rfl ga_ ?_; (with_reducible refine (spec_l20Rd_pick.calls k g s0_0 t164 9 t165 t166 w0 _ ?side1 ?side2 A4.out).mono ?_); (case side1 => exact is61_1 HI0.out NB0_162.out); (case side2 => exact bq2_ HB.out (IsS61.ge HI0.out) GE162.out); rintro e w8 ⟨rfl, hi, hb, hk⟩; refine ⟨_, rfl, ?_⟩; have n0_ := Aside0.mk (KeepBut.blk hk (g' := gb162) (o := .cells #[.int .i64 0, .slice none 0 0] 25 (0, 0)) (bk_ BK162.out) NB162_0.out (by simp)); have n1_ := Aside0.mk (KeepBut.trans (kf_ HK.out GW162.out) hk (.inl rfl)); have n2_ := Aside0.mk (hb); have n3_ := Aside0.mk (hi); clear BK162; clear HK; clear HB; clear HI0; have BK162 := n0_; have HK := n1_; have HB := n2_; have HI0 := n3_; clear n0_ n1_ n2_ n3_; (try clear hb); (try clear hb2); (try clear hk); (try clear hi)) | ((with_reducible refine gate_dst (N := 5) rfl ?_); refine box_event ?hg (N := 5) ?hd (cs := #[.int .i64 0, .slice none 0 0]) (t := 25) ?hr ?_; (case hd => rfl); (case hg => rfl); (case hr => first | (go_simp; done) | (go_simp; rfl)); intro gb167 hg w9 hbox hb; have n0_ := Aside0.mk (IsS61.below (is61_1 HI0.out NB0_162.out) hb); have n1_ := Aside0.mk (blk_below (g := gb162) (o := .cells #[.int .i64 0, .slice none 0 0] 25 (0, 0)) (bk_ BK162.out) hb); have n2_ := Aside0.mk (KeepBut.trans (kf_ HK.out GW162.out) (KeepBut.of_below hb g none) (.inl rfl)); have n3_ := Aside0.mk (below_step (bt_ HB.out (IsS61.ge HI0.out) GE162.out) hb); have n4_ := Aside0.mk (hbox); have n5_ := Aside0.mk ((by rw [hg]; exact (keep_size (w := w) (g := g) (row := none) (kf_ HK.out GW162.out)) : w.heap.size ≤ gb167)); have n6_ := Aside0.mk ((Nat.le_trans HW0.out (by rw [hg]; exact (keep_size (w := w) (g := g) (row := none) (kf_ HK.out GW162.out)) : w.heap.size ≤ gb167) : w0.heap.size ≤ gb167)); have n7_ := Aside0.mk ((by rw [hg]; exact Nat.ne_of_lt (blk_lt (g := gb162) (o := .cells #[.int .i64 0, .slice none 0 0] 25 (0, 0)) (bk_ BK162.out)) : gb162 ≠ gb167)); have n8_ := Aside0.mk ((by rw [hg]; exact Nat.ne_of_gt (blk_lt (g := gb162) (o := .cells #[.int .i64 0, .slice none 0 0] 25 (0, 0)) (bk_ BK162.out)) : gb167 ≠ gb162)); have n9_ := Aside0.mk ((by rw [hg]; exact Nat.ne_of_lt (IsS61.lt (show IsS61 w0 _ g s0_0 t166 from by exact is61_1 HI0.out NB0_162.out)) : g ≠ gb167)); have n10_ := Aside0.mk ((by rw [hg]; exact Nat.ne_of_gt (IsS61.lt (show IsS61 w0 _ g s0_0 t166 from by exact is61_1 HI0.out NB0_162.out)) : gb167 ≠ g)); clear HI0; clear BK162; clear HK; clear HB; have HI0 := n0_; have BK162 := n1_; have HK := n2_; have HB := n3_; have BK167 := n4_; have GW167 := n5_; have GE167 := n6_; have NB162_167 := n7_; have NB167_162 := n8_; have NB0_167 := n9_; have NB167_0 := n10_; clear n0_ n1_ n2_ n3_ n4_ n5_ n6_ n7_ n8_ n9_ n10_; clear hb hbox hg; have hnb10 := NB167_162.out; have hnc10 := NB162_167.out; have hnb11 := NB167_0.out; have hnc11 := NB0_167.out; have hcz12_0 : w9.cell? ⟨gb167, 0, none⟩ = some (.int .i64 0) := (blk_cell BK167.out 0).trans rfl; have hcz12_1 : w9.cell? ⟨gb167, 1, none⟩ = some (.slice none 0 0) := (blk_cell BK167.out 1).trans rfl; have hfz12_0 := blk_frozen BK167.out 0; have hfz12_1 := blk_frozen BK167.out 1) | ((with_reducible refine gate_callee (f := 24) rfl ?_); refine goesL_ (some 16) rfl rfl Tryd.func24 (by kernel_rfl) rfl #[.pointer (some ⟨g, 0, none⟩), .int .i64 3] rfl ga_ ?_; (with_reducible refine (spec_l20Rd_pick.calls k g s0_0 t166 3 t168 t169 w0 _ ?side1 ?side2 A5.out).mono ?_); (case side1 => exact is61_2 HI0.out NB0_162.out NB0_167.out); (case side2 => exact bq3_ HB.out (IsS61.ge HI0.out) GE162.out GE167.out); rintro e w13 ⟨rfl, hi, hb, hk⟩; refine ⟨_, rfl, ?_⟩; have n0_ := Aside0.mk (KeepBut.blk hk (g' := gb162) (o := .cells #[.int .i64 0, .slice none 0 0] 25 (0, 0)) (by refine sb_ ?_; refine blk_far ?_ NB162_167.out _; refine sb_ ?_; refine blk_far ?_ NB162_167.out _; refine sb_ ?_; exact BK162.out) NB162_0.out (by simp)); have n1_ := Aside0.mk (KeepBut.blk hk (g' := gb167) (o := .cells #[.int .i64 (wrap64 ((wrap64 (1 + t163)) + (wrap64 (Int.tdiv t165 8)))), .slice none 0 0] 25 (0, 0)) (by refine sb_ ?_; refine blk_put (cs := #[.int .i64 (wrap64 ((wrap64 (1 + t163)) + (wrap64 (Int.tdiv t165 8)))), .slice none 0 0]) ?_ 1 _ rfl; refine sb_ ?_; refine blk_put (cs := #[.int .i64 0, .slice none 0 0]) ?_ 0 _ rfl; refine sb_ ?_; exact BK167.out) NB167_0.out (by simp)); have n2_ := Aside0.mk (KeepBut.trans (kg_ HK.out GW162.out GW167.out) hk (.inl rfl)); have n3_ := Aside0.mk (hb); have n4_ := Aside0.mk (hi); clear BK162; clear BK167; clear HK; clear HB; clear HI0; have BK162 := n0_; have BK167 := n1_; have HK := n2_; have HB := n3_; have HI0 := n4_; clear n0_ n1_ n2_ n3_ n4_; (try clear hb); (try clear hb2); (try clear hk); (try clear hi)))
 go_loopg [6] k (fun kq v6 w' => ∃ (x6_1 : Int) (x1001_1 : Int) (x168001_1 : List Int) (u168001 : Value), v6 = .int .i64 x6_1 ∧ Aside0 (spec_l20House.l0 kq a1 x6_1 s0_0 x1001_1 (wrap64 ((wrap64 (1 + t163)) + (wrap64 (Int.tdiv t165 8)))) x168001_1 = some (r1, r2, r3)) ∧ Aside0 (kq ≤ k) ∧ Aside0 (Kd.R (Kd.int .i64) 3 w' w.heap.size (fun _ => True) u168001 x168001_1) ∧ Aside0 (w'.heap[gb162]? = some (.cells #[.int .i64 0, (.slice none 0 0)] 25 (0, 0))) ∧ Aside0 (w'.heap[gb167]? = some (.cells #[.int .i64 (wrap64 ((wrap64 (1 + t163)) + (wrap64 (Int.tdiv t165 8)))), u168001] 25 (0, 0))) ∧ Aside0 (IsS61 w0 w' g s0_0 x1001_1) ∧ Aside0 (KeepBut w w' g none) ∧ Aside0 (Below w0.heap.size w0 w'))
 case atStart => exact ⟨(wrap64 (1 + t168)), (t169), (([] : List Int)), (.slice none 0 0), si_, H', ⟨Nat.le_refl _⟩, ⟨by first | exact Kd.R_nil _ _ _ _ _ | exact Kd.N_nil _ _ _ _ _ | exact Kd.V_nil _ _ _ _ _ | exact Kd.Q_nil _ _ _ _ _ | exact Kd.S_nil _ _ _ _ _⟩, ⟨bk_ BK162.out⟩, ⟨bk_ BK167.out⟩, ⟨by exact is61_2 HI0.out NB0_162.out NB0_167.out⟩, ⟨kg_ HK.out GW162.out GW167.out⟩, ⟨bu_ HB.out (IsS61.ge HI0.out) GE162.out GE167.out⟩⟩
 case round =>
  clear H'; (try clear c1); (try clear c2); (try clear p2); (try clear c3); (try clear p6); (try clear c10); (try clear c11); (try clear hcz12_0); (try clear hcz12_1); (try clear hfz12_0); (try clear hfz12_1); obtain ⟨x6_1, x1001_1, x168001_1, u168001, rfl, HA, HK1, HO_168001, BK162, BK167, HI0, HK, HB⟩ := hrel
  cases gk with
  | zero => exact absurd HA.out (by simp [spec_l20House.l0])
  | succ k1 =>
   have H := HA.out; clear HA
   simp only [spec_l20House.l0] at H
   by_cases c14 : x6_1 > 0
   ·rw [if_pos c14] at H
    have c14b0 : decide (0 < x6_1) = true := decide_eq_true c14; clear c14; obtain ⟨ji15, hji15⟩ : ∃ j_ : Int, (wrap64 ((wrap64 (1 + t163)) + (wrap64 (Int.tdiv t165 8)))) = j_ := ⟨_, rfl⟩
    replace H : (if 0 ≤ (ji15) then ((spec_l20Rd_pick.f k1 s0_0 x1001_1 (wrap64 ((shl .i64 1 (ji15)) - 1))).bind fun bt170 => (if x168001_1.length < 17592186044416 then (spec_l20House.l0 k1 a1 (wrap64 (x6_1 - 1)) s0_0 bt170.2 (ji15) (x168001_1 ++ [wrap64 (1 + bt170.1)])) else (none))) else (none)) = some (r1, r2, r3) := by first | (rw [hji15] at H; exact H) | (simp only [hji15] at H ⊢; exact H)
    have hji15w : (IntKind.i64.wrap ((wrap64 (1 + t163)) + (wrap64 (Int.tdiv t165 8)))) = ji15 := (i64_w _).trans hji15
    rw [hji15] at BK167
    by_cases c16 : 0 ≤ (ji15); rotate_left
    ·rw [if_neg c16] at H; exact absurd H (by simp)
    rw [if_pos c16] at H
    have c16b0 := eq_true c16; have c16b1 : decide (0 ≤ (ji15)) = true := decide_eq_true c16; clear c16; obtain ⟨ji17, hji17⟩ : ∃ j_ : Int, (shl .i64 1 (ji15)) = j_ := ⟨_, rfl⟩
    replace H : ((spec_l20Rd_pick.f k1 s0_0 x1001_1 (wrap64 ((ji17) - 1))).bind fun bt170 => (if x168001_1.length < 17592186044416 then (spec_l20House.l0 k1 a1 (wrap64 (x6_1 - 1)) s0_0 bt170.2 (ji15) (x168001_1 ++ [wrap64 (1 + bt170.1)])) else (none))) = some (r1, r2, r3) := by first | (rw [hji17] at H; exact H) | (simp only [hji17] at H ⊢; exact H)
    have hji17_ : (IntKind.i64.wrap (1 * 2 ^ min (ji15).toNat 64)) = ji17 := hji17; have hji17z : (ji15) ≤ 64 → (IntKind.i64.wrap (1 * 2 ^ (ji15).toNat)) = ji17 := shl_small hji17
    have hji17u : (IntKind.i64.wrap (2 ^ min (ji15).toNat 64)) = ji17 := by have h_ := hji17_; rw [Int.one_mul] at h_; exact h_
    have hji17v : (ji15) ≤ 64 → (IntKind.i64.wrap (2 ^ (ji15).toNat)) = ji17 := fun hle_ => by have h_ := hji17z hle_; rw [Int.one_mul] at h_; exact h_
    have hji17y : (wrap64 (1 * 2 ^ min (ji15).toNat 64)) = ji17 := (i64_w _).symm.trans hji17_; have hji17x : (ji15) ≤ 64 → (wrap64 (1 * 2 ^ (ji15).toNat)) = ji17 := fun h_ => (i64_w _).symm.trans (hji17z h_); replace H := Option.bind_eq_some_iff.mp H; obtain ⟨⟨t170, t171⟩, A180, H⟩ := H; replace H : (if x168001_1.length < 17592186044416 then (spec_l20House.l0 k1 a1 (wrap64 (x6_1 - 1)) s0_0 t171 (ji15) (x168001_1 ++ [wrap64 (1 + t170)])) else (none)) = some (r1, r2, r3) := H; have A18 := Aside0.mk A180; clear A180
    by_cases c19 : x168001_1.length < 17592186044416; rotate_left
    ·rw [if_neg c19] at H; exact absurd H (by simp)
    rw [if_pos c19] at H
    have LMc19 := Aside0.mk c19; clear c19; obtain ⟨y172, hy172⟩ : ∃ y_ : List Int, y_ = (x168001_1 ++ [wrap64 (1 + t170)]) := ⟨_, rfl⟩
    rw [← hy172] at H; (try with_reducible replace H := hb_ H); (try dsimp only at H)
    have Ny172 := Aside0.mk hy172; clear hy172; have H' := Aside0.mk H; clear H
    try go_wp2
    have n0_ := Aside0.mk (Kd.R_drew HO_168001.out); have n1_ := Aside0.mk (blk_drew BK162.out); have n2_ := Aside0.mk (blk_drew BK167.out); have n3_ := Aside0.mk (IsS61.drew HI0.out); have n4_ := Aside0.mk (keep_drew HK.out); have n5_ := Aside0.mk (below_drew1 HB.out); clear HO_168001 BK162 BK167 HI0 HK HB; have HO_168001 := n0_; have BK162 := n1_; have BK167 := n2_; have HI0 := n3_; have HK := n4_; have HB := n5_; clear n0_ n1_ n2_ n3_ n4_ n5_
    refine start_ (n := 13) (S := fun w' => w'.cell? ⟨gb167, 0, none⟩ = some (.int .i64 (ji15)) ∧ w'.cell? ⟨gb167, 1, none⟩ = some (u168001)) (ds := [12]) #[false, false, false, false, false, false, false, false, false, false, false, false, false] (by kernel_rfl) rfl rfl ⟨(blk_cell BK167.out 0).trans rfl, (blk_cell BK167.out 1).trans rfl⟩ (fun hHeld => ?_); refine with_tabW spec_l20House.tab5 spec_l20House.bits5 (fun HT_ HW_ => ?_)
    generalize wr.drew = w20 at HO_168001 BK162 BK167 HI0 HK HB hHeld ⊢
    refine pr_ HT_.out 0 (some 22) #[true, false, false, false, false, false, false, false, false, false, false, false, false] ?_
    refine pr_ HT_.out 2 (some 24) #[true, false, true, false, false, false, false, false, false, false, false, false, false] ?_
    refine pr_ HT_.out 3 (some 25) #[true, false, true, true, false, false, false, false, false, false, false, false, false] ?_
    refine tk_ HT_.out HW_.out hHeld 1 (some 23) #[true, true, true, true, false, false, false, false, false, false, false, false, false] ?_
    refine tk_ HT_.out HW_.out hHeld 4 (some 26) #[true, true, true, true, true, false, false, false, false, false, false, false, false] ?_
    refine pr_ HT_.out 5 (some 27) #[true, true, true, true, true, true, false, false, false, false, false, false, false] ?_
    refine pr_ HT_.out 6 (some 28) #[true, true, true, true, true, true, true, false, false, false, false, false, false] ?_
    refine one_ (i := 7) (N := some 29) #[true, true, true, true, true, true, true, true, false, false, false, false, false] rfl rfl (one_of HT_.out (by kernel_rfl)) (by decide) (fun K hK => ?_)
    refine goes_ Tryd.func24 (by kernel_rfl) rfl #[.pointer (some ⟨g, 0, none⟩), .int .i64 (wrap64 ((ji17) - 1))] (by rfl) rfl rfl (by (try simp only [List.map_toArray, List.map_cons, List.map_nil]); first | done | (simp only [hji17]; rfl) | rfl | (simp only [List.length_drop, List.length_take]; rfl)) ?_
    with_reducible refine (spec_l20Rd_pick.calls k1 g s0_0 x1001_1 (wrap64 ((ji17) - 1)) t170 t171 w0 _ ?side1 ?side2 A18.out).mono ?_
    (case side1 => exact is61_2 HI0.out NB0_162.out NB0_167.out)
    (case side2 => exact bq3_ HB.out (IsS61.ge HI0.out) GE162.out GE167.out)
    rintro e w21 ⟨rfl, hi, hb, hk⟩
    refine ⟨_, rfl, ?_⟩
    have n0_ := Aside0.mk (Kd.R_mono (Kd.R_keep (IsS61.apart (show IsS61 w0 _ g s0_0 x1001_1 from by exact is61_2 HI0.out NB0_162.out NB0_167.out) (r_ HO_168001.out) (by decide)) hk (fun _ h => h.2)) (fun _ h => h.1)); have n1_ := Aside0.mk (KeepBut.blk hk (g' := gb162) (o := .cells #[.int .i64 0, .slice none 0 0] 25 (0, 0)) (bk_ BK162.out) NB162_0.out (by simp)); have n2_ := Aside0.mk (KeepBut.blk hk (g' := gb167) (o := .cells #[.int .i64 (ji15), u168001] 25 (0, 0)) (bk_ BK167.out) NB167_0.out (by simp)); have n3_ := Aside0.mk (KeepBut.trans (kg_ HK.out GW162.out GW167.out) hk (.inl rfl)); have n4_ := Aside0.mk (hb); have n5_ := Aside0.mk (hi); clear HO_168001 BK162 BK167 HK HB HI0; have HO_168001 := n0_; have BK162 := n1_; have BK167 := n2_; have HK := n3_; have HB := n4_; have HI0 := n5_; clear n0_ n1_ n2_ n3_ n4_ n5_
    (try clear hb)
    (try clear hb2)
    (try clear hk)
    (try clear hi)
    refine hK.out _ _ ⟨(blk_cell BK167.out 0).trans rfl, (blk_cell BK167.out 1).trans rfl⟩ (fun hHeld => ?_)
    clear hK K
    refine norm_ (a' := ?_) ?_ ?_
    rotate_left
    ·show Act.put _ (some 29) _ = _
     simp only [Act.put, List.setIfInBounds_toArray, List.set_cons_zero, List.set_cons_succ, i64_w, i32_w]
     rfl
    refine pr_ HT_.out 8 (some 30) #[true, true, true, true, true, true, true, true, true, false, false, false, false] ?_
    refine one_ (i := 9) (N := some 31) #[true, true, true, true, true, true, true, true, true, true, false, false, false] rfl rfl (one_of HT_.out (by kernel_rfl)) (by decide) (fun K hK => ?_)
    refine value_ (w1 := ?_) (v := ?_) (by rfl) rfl ?_ ?_
    rotate_left 2
    ·go_simp
     constructor
     ·rfl
     ·rfl
    refine hK.out _ _ ⟨(blk_cell (blk_alloc BK167.out _) 0).trans rfl, (blk_cell (blk_alloc BK167.out _) 1).trans rfl⟩ (fun hHeld => ?_)
    clear hK K
    refine norm_ (a' := ?_) ?_ ?_
    rotate_left
    ·show Act.put _ (some 31) _ = _
     simp only [Act.put, List.setIfInBounds_toArray, List.set_cons_zero, List.set_cons_succ, i64_w, i32_w]
     rfl
    refine one_ (i := 10) (N := some 32) #[true, true, true, true, true, true, true, true, true, true, true, false, false] rfl rfl (one_of HT_.out (by kernel_rfl)) (by decide) (fun K hK => ?_)
    refine Kd.R_append_step (Kd.int .i64) w.heap.size (by rfl) (.tmp 23) (.tmp 31) 23 3 (.int .i64 0) 8 rfl Tryd.underlying23 info3 rfl (by decide) (by omega) u168001 x168001_1 (wrap64 (1 + t170)) [.int .i64 (wrap64 (1 + t170))] (fun _ => True) (fun _ => False) rfl rfl ?aP (fun _ hk => hk.elim) ?aF ?aO (Below.refl _ _) ?aS ?aL ?_
    (case aP => exact rfl)
    (case aF => exact (fun _ _ => trivial))
    (case aO => exact (r_ HO_168001.out))
    (case aS => exact (keep_size (w := w) (g := g) (row := none) (kg_ HK.out GW162.out GW167.out)))
    (case aL => have := LMc19.out; omega)
    intro v173 w22 ho hb hg hat
    rw [← Ny172.out] at ho
    have n0_ := Aside0.mk (blk_grown (g := gb162) (o := .cells #[.int .i64 0, .slice none 0 0] 25 (0, 0)) (bk_ BK162.out) hg (Kd.R_ne HO_168001.out BK162.out (by decide))); have n1_ := Aside0.mk (blk_grown (g := gb167) (o := .cells #[.int .i64 (ji15), u168001] 25 (0, 0)) (bk_ BK167.out) hg (Kd.R_ne HO_168001.out BK167.out (by decide))); have n2_ := Aside0.mk (IsS61.grown (is61_2 HI0.out NB0_162.out NB0_167.out) hg (IsS61.own_ne HI0.out HO_168001.out (by decide))); have n3_ := Aside0.mk (below_weaken (bu_ HB.out (IsS61.ge HI0.out) GE162.out GE167.out) HL.out hb); have n4_ := Aside0.mk (KeepBut.trans (kg_ HK.out GW162.out GW167.out) (KeepBut.of_grown hg g) (Kd.R_base2 HO_168001.out)); have n5_ := Aside0.mk (ho); clear BK162 BK167 HI0 HB HK HO_168001; have BK162 := n0_; have BK167 := n1_; have HI0 := n2_; have HB := n3_; have HK := n4_; have HO174 := n5_; clear n0_ n1_ n2_ n3_ n4_ n5_ ho hb hg hat; obtain ⟨Ao23, co23, eo23⟩ := Kd.R_slice HO174.out
    (first | subst eo23 | (injection eo23 with f1_ f2_ f3_; have f4_ := f1_.symm; have f5_ := f3_.symm; clear f1_ f2_ f3_; subst f4_; subst f5_))
    refine hK.out _ _ ⟨(blk_cell BK167.out 0).trans rfl, (blk_cell BK167.out 1).trans rfl⟩ (fun hHeld => ?_)
    clear hK K
    refine norm_ (a' := ?_) ?_ ?_
    rotate_left
    ·show Act.put _ (some 32) _ = _
     simp only [Act.put, List.setIfInBounds_toArray, List.set_cons_zero, List.set_cons_succ, i64_w, i32_w]
     rfl
    refine pr_ HT_.out 11 (some 33) #[true, true, true, true, true, true, true, true, true, true, true, true, false] ?_
    refine last_ (i := 12) (N := none) #[true, true, true, true, true, true, true, true, true, true, true, true, true] rfl rfl (one_of HT_.out (by kernel_rfl)) (by decide) (fun K hK => ?_)
    have hs24 : w22.cell? ⟨gb167, 1, none⟩ = some (u168001) := (blk_cell BK167.out 1).trans rfl; have hfs24 := blk_frozen BK167.out 1; have hns24_0 := NB162_167.out; have hms24_0 := NB167_162.out
    refine skip_ (w1 := ?_) (by rfl) rfl ?_ ?_
    rotate_left
    ·go_simp
     rfl
    refine hK.out _ _ ?_
    clear hK K
    refine done_ (done_of HT_.out (by kernel_rfl)) ?_
    try go_wp2
    go_roundg k1
    case measure => have := HK1.out; omega
    case rel => subst hji15; exact ⟨(wrap64 (x6_1 - 1)), (t171), (y172), (.slice Ao23 y172.length co23), si_, H', ⟨by have := HK1.out; omega⟩, ⟨by (with_reducible repeat (first | apply Kd.R_alloc | apply Kd.R_drewN | apply Kd.R_drew)); exact Kd.R_mono (Kd.R_far (p := ⟨gb167, 1, none⟩) (Kd.R_types HO174.out BK167.out (by decide)) (fun _ hk => hk.2) (.slice Ao23 y172.length co23)) (fun _ hk => trivial)⟩, ⟨by refine sb_ ?_; refine blk_far ?_ NB162_167.out _; refine sb_ ?_; exact BK162.out⟩, ⟨by refine sb_ ?_; refine blk_put (cs := #[.int .i64 (wrap64 ((wrap64 (1 + t163)) + (wrap64 (Int.tdiv t165 8)))), u168001]) ?_ 1 _ rfl; refine sb_ ?_; exact BK167.out⟩, ⟨by exact is61_2 HI0.out NB0_162.out NB0_167.out⟩, ⟨kg_ HK.out GW162.out GW167.out⟩, ⟨bu_ HB.out (IsS61.ge HI0.out) GE162.out GE167.out⟩⟩
   ·rw [if_neg c14] at H
    have c14b0 : decide (0 < x6_1) = false := decide_eq_false c14; clear c14; replace H := Option.bind_eq_some_iff.mp H; obtain ⟨⟨t175, t176⟩, A250, H⟩ := H; replace H : (if t175 = true then ((spec_l20Rd_pick.f k1 s0_0 t176 3).bind fun bt177 => (if bt177.1 = 0 then ((some (([0, 7] : List Int) : List Int)).bind fun y179 => ((spec_l20Rd_pick.f k1 s0_0 bt177.2 2).bind fun bt182 => (if 0 ≤ bt182.1 then (if bt182.1 < (y179.length : Int) then (some (rd y179 bt182.1, x168001_1, bt182.2)) else (none)) else (none)))) else (if bt177.1 = 1 then (if x168001_1.length < 17592186044416 then (some ((wrap64 ((wrap64 (1 + t163)) + (wrap64 (Int.tdiv t165 8)))), (x168001_1 ++ [0]), bt177.2)) else (none)) else (some ((wrap64 ((wrap64 (1 + t163)) + (wrap64 (Int.tdiv t165 8)))), (([] : List Int)), bt177.2))))) else (some ((wrap64 ((wrap64 (1 + t163)) + (wrap64 (Int.tdiv t165 8)))), x168001_1, t176))) = some (r1, r2, r3) := H; have A25 := Aside0.mk A250; clear A250
    by_cases c26 : t175 = true
    ·subst c26
     have H1 : ((spec_l20Rd_pick.f k1 s0_0 t176 3).bind fun bt177 => (if bt177.1 = 0 then ((some (([0, 7] : List Int) : List Int)).bind fun y179 => ((spec_l20Rd_pick.f k1 s0_0 bt177.2 2).bind fun bt182 => (if 0 ≤ bt182.1 then (if bt182.1 < (y179.length : Int) then (some (rd y179 bt182.1, x168001_1, bt182.2)) else (none)) else (none)))) else (if bt177.1 = 1 then (if x168001_1.length < 17592186044416 then (some ((wrap64 ((wrap64 (1 + t163)) + (wrap64 (Int.tdiv t165 8)))), (x168001_1 ++ [0]), bt177.2)) else (none)) else (some ((wrap64 ((wrap64 (1 + t163)) + (wrap64 (Int.tdiv t165 8)))), (([] : List Int)), bt177.2))))) = some (r1, r2, r3) := by rw [if_pos rfl] at H; exact H
     clear H; have H := H1; clear H1; replace H := Option.bind_eq_some_iff.mp H; obtain ⟨⟨t177, t178⟩, A270, H⟩ := H; replace H : (if t177 = 0 then ((some (([0, 7] : List Int) : List Int)).bind fun y179 => ((spec_l20Rd_pick.f k1 s0_0 t178 2).bind fun bt182 => (if 0 ≤ bt182.1 then (if bt182.1 < (y179.length : Int) then (some (rd y179 bt182.1, x168001_1, bt182.2)) else (none)) else (none)))) else (if t177 = 1 then (if x168001_1.length < 17592186044416 then (some ((wrap64 ((wrap64 (1 + t163)) + (wrap64 (Int.tdiv t165 8)))), (x168001_1 ++ [0]), t178)) else (none)) else (some ((wrap64 ((wrap64 (1 + t163)) + (wrap64 (Int.tdiv t165 8)))), (([] : List Int)), t178)))) = some (r1, r2, r3) := H; have A27 := Aside0.mk A270; clear A270
     by_cases c28 : t177 = 0
     ·rw [if_pos c28] at H
      have c28b0 : (t177 == 0) = true := beq_iff_eq.mpr c28; have c28b1 : (t177 != 0) = false := bne_eq_false_iff_eq.mpr c28; clear c28; obtain ⟨y179, hy179⟩ : ∃ y_ : List Int, y_ = (([0, 7] : List Int)) := ⟨_, rfl⟩
      rw [← hy179] at H; (try with_reducible replace H := hb_ H); (try dsimp only at H)
      have Ny179 := Aside0.mk hy179; clear hy179; replace H := Option.bind_eq_some_iff.mp H; obtain ⟨⟨t182, t183⟩, A290, H⟩ := H; replace H : (if 0 ≤ t182 then (if t182 < (y179.length : Int) then (some (rd y179 t182, x168001_1, t183)) else (none)) else (none)) = some (r1, r2, r3) := H; have A29 := Aside0.mk A290; clear A290
      by_cases c30 : 0 ≤ t182; rotate_left
      ·rw [if_neg c30] at H; exact absurd H (by simp)
      rw [if_pos c30] at H
      have c30b0 : decide (0 ≤ t182) = true := decide_eq_true c30; clear c30
      by_cases c31 : t182 < (y179.length : Int); rotate_left
      ·rw [if_neg c31] at H; exact absurd H (by simp)
      rw [if_pos c31] at H
      have c31b0 : decide (t182 < (y179.length : Int)) = true := decide_eq_true c31; clear c31
      simp only [Option.some.injEq, Prod.mk.injEq] at H
      obtain ⟨rfl, rfl, rfl⟩ := H
      go_wp2_with (first | ((with_reducible refine gate_callee (f := 51) rfl ?_); refine goesL_ (some 36) rfl rfl Tryd.func51 (by kernel_rfl) rfl #[.pointer (some ⟨g, 0, none⟩), .int .i64 a1] rfl ga_ ?_; (with_reducible refine (spec_l20Rd_odd.calls k1 g s0_0 x1001_1 a1 true t176 w0 _ ?side1 ?side2 A25.out).mono ?_); (case side1 => exact is61_2 HI0.out NB0_162.out NB0_167.out); (case side2 => exact bq3_ HB.out (IsS61.ge HI0.out) GE162.out GE167.out); rintro e w32 ⟨rfl, hi, hb, hk⟩; refine ⟨_, rfl, ?_⟩; have n0_ := Aside0.mk (Kd.R_mono (Kd.R_keep (IsS61.apart (show IsS61 w0 _ g s0_0 x1001_1 from by exact is61_2 HI0.out NB0_162.out NB0_167.out) (r_ HO_168001.out) (by decide)) hk (fun _ h => h.2)) (fun _ h => h.1)); have n1_ := Aside0.mk (KeepBut.blk hk (g' := gb162) (o := .cells #[.int .i64 0, .slice none 0 0] 25 (0, 0)) (bk_ BK162.out) NB162_0.out (by simp)); have n2_ := Aside0.mk (KeepBut.blk hk (g' := gb167) (o := .cells #[.int .i64 (wrap64 ((wrap64 (1 + t163)) + (wrap64 (Int.tdiv t165 8)))), u168001] 25 (0, 0)) (bk_ BK167.out) NB167_0.out (by simp)); have n3_ := Aside0.mk (KeepBut.trans (kg_ HK.out GW162.out GW167.out) hk (.inl rfl)); have n4_ := Aside0.mk (hb); have n5_ := Aside0.mk (hi); clear HO_168001; clear BK162; clear BK167; clear HK; clear HB; clear HI0; have HO_168001 := n0_; have BK162 := n1_; have BK167 := n2_; have HK := n3_; have HB := n4_; have HI0 := n5_; clear n0_ n1_ n2_ n3_ n4_ n5_; (try clear hb); (try clear hb2); (try clear hk); (try clear hi)) | ((with_reducible refine gate_callee (f := 24) rfl ?_); refine goesL_ (some 38) rfl rfl Tryd.func24 (by kernel_rfl) rfl #[.pointer (some ⟨g, 0, none⟩), .int .i64 3] rfl ga_ ?_; (with_reducible refine (spec_l20Rd_pick.calls k1 g s0_0 t176 3 t177 t178 w0 _ ?side1 ?side2 A27.out).mono ?_); (case side1 => exact is61_2 HI0.out NB0_162.out NB0_167.out); (case side2 => exact bq3_ HB.out (IsS61.ge HI0.out) GE162.out GE167.out); rintro e w33 ⟨rfl, hi, hb, hk⟩; refine ⟨_, rfl, ?_⟩; have n0_ := Aside0.mk (Kd.R_mono (Kd.R_keep (IsS61.apart (show IsS61 w0 _ g s0_0 t176 from by exact is61_2 HI0.out NB0_162.out NB0_167.out) (r_ HO_168001.out) (by decide)) hk (fun _ h => h.2)) (fun _ h => h.1)); have n1_ := Aside0.mk (KeepBut.blk hk (g' := gb162) (o := .cells #[.int .i64 0, .slice none 0 0] 25 (0, 0)) (bk_ BK162.out) NB162_0.out (by simp)); have n2_ := Aside0.mk (KeepBut.blk hk (g' := gb167) (o := .cells #[.int .i64 (wrap64 ((wrap64 (1 + t163)) + (wrap64 (Int.tdiv t165 8)))), u168001] 25 (0, 0)) (bk_ BK167.out) NB167_0.out (by simp)); have n3_ := Aside0.mk (KeepBut.trans (kg_ HK.out GW162.out GW167.out) hk (.inl rfl)); have n4_ := Aside0.mk (hb); have n5_ := Aside0.mk (hi); clear HO_168001; clear BK162; clear BK167; clear HK; clear HB; clear HI0; have HO_168001 := n0_; have BK162 := n1_; have BK167 := n2_; have HK := n3_; have HB := n4_; have HI0 := n5_; clear n0_ n1_ n2_ n3_ n4_ n5_; (try clear hb); (try clear hb2); (try clear hk); (try clear hi)) | ((with_reducible refine gate_dst (N := 43) rfl ?_); refine Kd.R_lit (Kd.int .i64) _ 3 ?hg (N := 43) ?hd (xs := ([0, 7] : List Int)) (inner := [.int .i64 0, .int .i64 7]) (ok := fun _ => True) (okp := fun _ => True) ?hr ?hp (fun _ hk => hk) trivial (Below.refl _ _) (Nat.le_refl _) (by simp) ?_; (case hd => rfl); (case hg => rfl); (case hr => first | (go_simp; done) | (go_simp; rfl)); (case hp => exact (Reps.one (show Kd.M (Kd.int .i64) _ _ _ 0 [.int .i64 0] from rfl) (Reps.one (show Kd.M (Kd.int .i64) _ _ _ 7 [.int .i64 7] from rfl) (Reps.none _ _)))); intro v180 w34 ho35 hb hg_ hnew_; clear hg_ hnew_; (first | rw [← Ny179.out] at ho35 | (simp only [Int.reduceToNat] at ho35; rw [← Ny179.out] at ho35)); have n0_ := Aside0.mk (Kd.R_elder' (r_ HO_168001.out) (Kd.R_base ho35) hb); have n1_ := Aside0.mk (Kd.R_lower (Kd.R_new' ho35 (Kd.R_lt (r_ HO_168001.out))) (keep_size (w := w) (g := g) (row := none) (kg_ HK.out GW162.out GW167.out))); have n2_ := Aside0.mk (blk_below (g := gb162) (o := .cells #[.int .i64 0, .slice none 0 0] 25 (0, 0)) (bk_ BK162.out) hb); have n3_ := Aside0.mk (blk_below (g := gb167) (o := .cells #[.int .i64 (wrap64 ((wrap64 (1 + t163)) + (wrap64 (Int.tdiv t165 8)))), u168001] 25 (0, 0)) (bk_ BK167.out) hb); have n4_ := Aside0.mk (IsS61.below (is61_2 HI0.out NB0_162.out NB0_167.out) hb); have n5_ := Aside0.mk (KeepBut.trans (kg_ HK.out GW162.out GW167.out) (KeepBut.of_below hb g none) (.inl rfl)); have n6_ := Aside0.mk (below_step (bu_ HB.out (IsS61.ge HI0.out) GE162.out GE167.out) hb); clear HO_168001; clear BK162; clear BK167; clear HI0; clear HK; clear HB; have HO_168001 := n0_; have HO181 := n1_; have BK162 := n2_; have BK167 := n3_; have HI0 := n4_; have HK := n5_; have HB := n6_; clear n0_ n1_ n2_ n3_ n4_ n5_ n6_; clear hb ho35) | ((with_reducible refine gate_callee (f := 24) rfl ?_); refine goesL_ (some 45) rfl rfl Tryd.func24 (by kernel_rfl) rfl #[.pointer (some ⟨g, 0, none⟩), .int .i64 2] rfl ga_ ?_; (with_reducible refine (spec_l20Rd_pick.calls k1 g s0_0 t178 2 t182 t183 w0 _ ?side1 ?side2 A29.out).mono ?_); (case side1 => exact is61_2 HI0.out NB0_162.out NB0_167.out); (case side2 => exact bq3_ HB.out (IsS61.ge HI0.out) GE162.out GE167.out); rintro e w36 ⟨rfl, hi, hb, hk⟩; refine ⟨_, rfl, ?_⟩; have n0_ := Aside0.mk (Kd.R_mono (Kd.R_keep (IsS61.apart (show IsS61 w0 _ g s0_0 t178 from by exact is61_2 HI0.out NB0_162.out NB0_167.out) (r_ HO_168001.out) (by decide)) hk (fun _ h => h.2)) (fun _ h => h.1)); have n1_ := Aside0.mk (KeepBut.blk hk (g' := gb162) (o := .cells #[.int .i64 0, .slice none 0 0] 25 (0, 0)) (bk_ BK162.out) NB162_0.out (by simp)); have n2_ := Aside0.mk (KeepBut.blk hk (g' := gb167) (o := .cells #[.int .i64 (wrap64 ((wrap64 (1 + t163)) + (wrap64 (Int.tdiv t165 8)))), u168001] 25 (0, 0)) (bk_ BK167.out) NB167_0.out (by simp)); have n3_ := Aside0.mk (Kd.R_mono (Kd.R_keep (IsS61.apart (show IsS61 w0 _ g s0_0 t178 from by exact is61_2 HI0.out NB0_162.out NB0_167.out) (r_ HO181.out) (by decide)) hk (fun _ h => h.2)) (fun _ h => h.1)); have n4_ := Aside0.mk (KeepBut.trans (kg_ HK.out GW162.out GW167.out) hk (.inl rfl)); have n5_ := Aside0.mk (hb); have n6_ := Aside0.mk (hi); clear HO_168001; clear BK162; clear BK167; clear HO181; clear HK; clear HB; clear HI0; have HO_168001 := n0_; have BK162 := n1_; have BK167 := n2_; have HO181 := n3_; have HK := n4_; have HB := n5_; have HI0 := n6_; clear n0_ n1_ n2_ n3_ n4_ n5_ n6_; (try clear hb); (try clear hb2); (try clear hk); (try clear hi); obtain ⟨Ao37, co37, eo37⟩ := Kd.R_slice HO181.out; subst eo37; have p184 : 0 ≤ (t182 : Int) := of_decide_eq_true as_; have q184 : t182 < (y179.length : Int) := of_decide_eq_true as_; obtain ⟨ad184, e184, hx184_0⟩ := Kd.at_int (Kd.R_reads' HO181.out).2.2 t182 p184 q184; cases e184; replace p184 := eq_true p184; replace q184 := eq_true q184; have hnb38 := NB167_162.out; have hnc38 := NB162_167.out; have hnb39 := NB167_0.out; have hnc39 := NB0_167.out; have hcz40_0 : w36.cell? ⟨gb167, 0, none⟩ = some (.int .i64 (wrap64 ((wrap64 (1 + t163)) + (wrap64 (Int.tdiv t165 8))))) := (blk_cell BK167.out 0).trans rfl; have hcz40_1 : w36.cell? ⟨gb167, 1, none⟩ = some (u168001) := (blk_cell BK167.out 1).trans rfl; have hfz40_0 := blk_frozen BK167.out 0; have hfz40_1 := blk_frozen BK167.out 1; have hnb41 := NB162_0.out; have hnc41 := NB0_162.out; have hcz42_0 : w36.cell? ⟨gb162, 0, none⟩ = some (.int .i64 0) := (blk_cell BK162.out 0).trans rfl; have hcz42_1 : w36.cell? ⟨gb162, 1, none⟩ = some (.slice none 0 0) := (blk_cell BK162.out 1).trans rfl; have hfz42_0 := blk_frozen BK162.out 0; have hfz42_1 := blk_frozen BK162.out 1; obtain ⟨Ao43, co43, eo43⟩ := Kd.R_slice HO_168001.out; subst eo43))
      refine bodyPost_ret (results_cell_row rfl _ _ gb162 25 #[.int .i64 (rd y179 t182), .slice Ao43 x168001_1.length co43] (0, 0) _ rfl (by refine sb_ ?_; refine blk_put (cs := #[.int .i64 (rd y179 t182), .slice none 0 0]) ?_ 1 _ rfl; refine sb_ ?_; refine blk_put (cs := #[.int .i64 0, .slice none 0 0]) ?_ 0 _ rfl; refine sb_ ?_; refine blk_far ?_ NB162_167.out _; refine sb_ ?_; exact BK162.out) Tryd.underlying25 rfl (by kernel_rfl)) rfl ?_
      exact ⟨_, by first | rfl | (simp [errW_none, errW_some] <;> rfl) | (simp [*, errW_none, errW_some] <;> rfl), by (with_reducible repeat (first | apply Kd.R_alloc | apply Kd.R_drewN | apply Kd.R_drew)); exact Kd.R_mono (Kd.R_far (p := ⟨gb162, 1, none⟩) (Kd.R_far (p := ⟨gb162, 0, none⟩) (Kd.R_far (p := ⟨gb167, 0, none⟩) (Kd.R_types (Kd.R_types HO_168001.out BK167.out (by decide)) BK162.out (by decide)) (fun _ hk => hk.1.2) (.int .i64 (rd y179 t182))) (fun _ hk => hk.2) (.int .i64 (rd y179 t182))) (fun _ hk => hk.2) (.slice Ao43 x168001_1.length co43)) (fun _ hk => trivial), by exact is61_2 HI0.out NB0_162.out NB0_167.out, bu_ HB.out (IsS61.ge HI0.out) GE162.out GE167.out, kg_ HK.out GW162.out GW167.out⟩
     ·rw [if_neg c28] at H
      have c28b0 : (t177 == 0) = false := beq_eq_false_iff_ne.mpr c28; have c28b1 : (t177 != 0) = true := bne_iff_ne.mpr c28
      by_cases c44 : t177 = 1
      ·rw [if_pos c44] at H
       have c44b0 : (t177 == 1) = true := beq_iff_eq.mpr c44; have c44b1 : (t177 != 1) = false := bne_eq_false_iff_eq.mpr c44; clear c44
       by_cases c45 : x168001_1.length < 17592186044416; rotate_left
       ·rw [if_neg c45] at H; exact absurd H (by simp)
       rw [if_pos c45] at H
       have LMc45 := Aside0.mk c45; clear c45; obtain ⟨y185, hy185⟩ : ∃ y_ : List Int, y_ = (x168001_1 ++ [0]) := ⟨_, rfl⟩
       rw [← hy185] at H; (try with_reducible replace H := hb_ H); (try dsimp only at H)
       have Ny185 := Aside0.mk hy185; clear hy185
       simp only [Option.some.injEq, Prod.mk.injEq] at H
       obtain ⟨rfl, rfl, rfl⟩ := H
       go_wp2_with (first | ((with_reducible refine gate_callee (f := 51) rfl ?_); refine goesL_ (some 36) rfl rfl Tryd.func51 (by kernel_rfl) rfl #[.pointer (some ⟨g, 0, none⟩), .int .i64 a1] rfl ga_ ?_; (with_reducible refine (spec_l20Rd_odd.calls k1 g s0_0 x1001_1 a1 true t176 w0 _ ?side1 ?side2 A25.out).mono ?_); (case side1 => exact is61_2 HI0.out NB0_162.out NB0_167.out); (case side2 => exact bq3_ HB.out (IsS61.ge HI0.out) GE162.out GE167.out); rintro e w46 ⟨rfl, hi, hb, hk⟩; refine ⟨_, rfl, ?_⟩; have n0_ := Aside0.mk (Kd.R_mono (Kd.R_keep (IsS61.apart (show IsS61 w0 _ g s0_0 x1001_1 from by exact is61_2 HI0.out NB0_162.out NB0_167.out) (r_ HO_168001.out) (by decide)) hk (fun _ h => h.2)) (fun _ h => h.1)); have n1_ := Aside0.mk (KeepBut.blk hk (g' := gb162) (o := .cells #[.int .i64 0, .slice none 0 0] 25 (0, 0)) (bk_ BK162.out) NB162_0.out (by simp)); have n2_ := Aside0.mk (KeepBut.blk hk (g' := gb167) (o := .cells #[.int .i64 (wrap64 ((wrap64 (1 + t163)) + (wrap64 (Int.tdiv t165 8)))), u168001] 25 (0, 0)) (bk_ BK167.out) NB167_0.out (by simp)); have n3_ := Aside0.mk (KeepBut.trans (kg_ HK.out GW162.out GW167.out) hk (.inl rfl)); have n4_ := Aside0.mk (hb); have n5_ := Aside0.mk (hi); clear HO_168001; clear BK162; clear BK167; clear HK; clear HB; clear HI0; have HO_168001 := n0_; have BK162 := n1_; have BK167 := n2_; have HK := n3_; have HB := n4_; have HI0 := n5_; clear n0_ n1_ n2_ n3_ n4_ n5_; (try clear hb); (try clear hb2); (try clear hk); (try clear hi)) | ((with_reducible refine gate_callee (f := 24) rfl ?_); refine goesL_ (some 38) rfl rfl Tryd.func24 (by kernel_rfl) rfl #[.pointer (some ⟨g, 0, none⟩), .int .i64 3] rfl ga_ ?_; (with_reducible refine (spec_l20Rd_pick.calls k1 g s0_0 t176 3 t177 t178 w0 _ ?side1 ?side2 A27.out).mono ?_); (case side1 => exact is61_2 HI0.out NB0_162.out NB0_167.out); (case side2 => exact bq3_ HB.out (IsS61.ge HI0.out) GE162.out GE167.out); rintro e w47 ⟨rfl, hi, hb, hk⟩; refine ⟨_, rfl, ?_⟩; have n0_ := Aside0.mk (Kd.R_mono (Kd.R_keep (IsS61.apart (show IsS61 w0 _ g s0_0 t176 from by exact is61_2 HI0.out NB0_162.out NB0_167.out) (r_ HO_168001.out) (by decide)) hk (fun _ h => h.2)) (fun _ h => h.1)); have n1_ := Aside0.mk (KeepBut.blk hk (g' := gb162) (o := .cells #[.int .i64 0, .slice none 0 0] 25 (0, 0)) (bk_ BK162.out) NB162_0.out (by simp)); have n2_ := Aside0.mk (KeepBut.blk hk (g' := gb167) (o := .cells #[.int .i64 (wrap64 ((wrap64 (1 + t163)) + (wrap64 (Int.tdiv t165 8)))), u168001] 25 (0, 0)) (bk_ BK167.out) NB167_0.out (by simp)); have n3_ := Aside0.mk (KeepBut.trans (kg_ HK.out GW162.out GW167.out) hk (.inl rfl)); have n4_ := Aside0.mk (hb); have n5_ := Aside0.mk (hi); clear HO_168001; clear BK162; clear BK167; clear HK; clear HB; clear HI0; have HO_168001 := n0_; have BK162 := n1_; have BK167 := n2_; have HK := n3_; have HB := n4_; have HI0 := n5_; clear n0_ n1_ n2_ n3_ n4_ n5_; (try clear hb); (try clear hb2); (try clear hk); (try clear hi); have hnb48 := NB167_162.out; have hnc48 := NB162_167.out; have hnb49 := NB167_0.out; have hnc49 := NB0_167.out; have hcz50_0 : w47.cell? ⟨gb167, 0, none⟩ = some (.int .i64 (wrap64 ((wrap64 (1 + t163)) + (wrap64 (Int.tdiv t165 8))))) := (blk_cell BK167.out 0).trans rfl; have hcz50_1 : w47.cell? ⟨gb167, 1, none⟩ = some (u168001) := (blk_cell BK167.out 1).trans rfl; have hfz50_0 := blk_frozen BK167.out 0; have hfz50_1 := blk_frozen BK167.out 1) | ((with_reducible refine gate_builtin (b := .append) (xs := #[.tmp 52, .tmp 53]) rfl ?_); at_builtin; refine Kd.R_append (Kd.int .i64) w.heap.size rfl (.tmp 52) (.tmp 53) 23 3 (.int .i64 0) 8 rfl Tryd.underlying23 info3 rfl (by decide) (by omega) u168001 x168001_1 0 [.int .i64 0] (fun _ => True) (fun _ => False) rfl rfl ?aP (fun _ hk => hk.elim) ?aF ?aO (Below.refl _ _) ?aS ?aL ?_; (case aP => exact rfl); (case aF => exact (fun _ _ => trivial)); (case aO => exact (r_ HO_168001.out)); (case aS => exact (keep_size (w := w) (g := g) (row := none) (kg_ HK.out GW162.out GW167.out))); (case aL => have := LMc45.out; omega); intro v186 w51 ho hb hg hat; rw [← Ny185.out] at ho; have n0_ := Aside0.mk (blk_grown (g := gb162) (o := .cells #[.int .i64 0, .slice none 0 0] 25 (0, 0)) (bk_ BK162.out) hg (Kd.R_ne HO_168001.out BK162.out (by decide))); have n1_ := Aside0.mk (blk_grown (g := gb167) (o := .cells #[.int .i64 (wrap64 ((wrap64 (1 + t163)) + (wrap64 (Int.tdiv t165 8)))), u168001] 25 (0, 0)) (bk_ BK167.out) hg (Kd.R_ne HO_168001.out BK167.out (by decide))); have n2_ := Aside0.mk (IsS61.grown (is61_2 HI0.out NB0_162.out NB0_167.out) hg (IsS61.own_ne HI0.out HO_168001.out (by decide))); have n3_ := Aside0.mk (below_weaken (bu_ HB.out (IsS61.ge HI0.out) GE162.out GE167.out) HL.out hb); have n4_ := Aside0.mk (KeepBut.trans (kg_ HK.out GW162.out GW167.out) (KeepBut.of_grown hg g) (Kd.R_base2 HO_168001.out)); have n5_ := Aside0.mk (ho); clear BK162; clear BK167; clear HI0; clear HB; clear HK; clear HO_168001; have BK162 := n0_; have BK167 := n1_; have HI0 := n2_; have HB := n3_; have HK := n4_; have HO187 := n5_; clear n0_ n1_ n2_ n3_ n4_ n5_; clear ho hb hg hat; obtain ⟨Ao52, co52, eo52⟩ := Kd.R_slice HO187.out; subst eo52; have hcz53_0 : w51.cell? ⟨gb167, 0, none⟩ = some (.int .i64 (wrap64 ((wrap64 (1 + t163)) + (wrap64 (Int.tdiv t165 8))))) := (blk_cell BK167.out 0).trans rfl; have hcz53_1 : w51.cell? ⟨gb167, 1, none⟩ = some (u168001) := (blk_cell BK167.out 1).trans rfl; have hfz53_0 := blk_frozen BK167.out 0; have hfz53_1 := blk_frozen BK167.out 1; have hnb54 := NB162_0.out; have hnc54 := NB0_162.out; have hcz55_0 : w51.cell? ⟨gb162, 0, none⟩ = some (.int .i64 0) := (blk_cell BK162.out 0).trans rfl; have hcz55_1 : w51.cell? ⟨gb162, 1, none⟩ = some (.slice none 0 0) := (blk_cell BK162.out 1).trans rfl; have hfz55_0 := blk_frozen BK162.out 0; have hfz55_1 := blk_frozen BK162.out 1))
       refine bodyPost_ret (results_cell_row rfl _ _ gb162 25 #[.int .i64 (wrap64 ((wrap64 (1 + t163)) + (wrap64 (Int.tdiv t165 8)))), .slice Ao52 y185.length co52] (0, 0) _ rfl (by refine sb_ ?_; refine blk_put (cs := #[.int .i64 (wrap64 ((wrap64 (1 + t163)) + (wrap64 (Int.tdiv t165 8)))), .slice none 0 0]) ?_ 1 _ rfl; refine sb_ ?_; refine blk_put (cs := #[.int .i64 0, .slice none 0 0]) ?_ 0 _ rfl; refine sb_ ?_; refine blk_far ?_ NB162_167.out _; refine sb_ ?_; exact BK162.out) Tryd.underlying25 rfl (by kernel_rfl)) rfl ?_
       exact ⟨_, by first | rfl | (simp [errW_none, errW_some] <;> rfl) | (simp [*, errW_none, errW_some] <;> rfl), by (with_reducible repeat (first | apply Kd.R_alloc | apply Kd.R_drewN | apply Kd.R_drew)); exact Kd.R_mono (Kd.R_far (p := ⟨gb162, 1, none⟩) (Kd.R_far (p := ⟨gb162, 0, none⟩) (Kd.R_far (p := ⟨gb167, 1, none⟩) (Kd.R_types (Kd.R_types HO187.out BK167.out (by decide)) BK162.out (by decide)) (fun _ hk => hk.1.2) (.slice Ao52 y185.length co52)) (fun _ hk => hk.2) (.int .i64 (wrap64 ((wrap64 (1 + t163)) + (wrap64 (Int.tdiv t165 8)))))) (fun _ hk => hk.2) (.slice Ao52 y185.length co52)) (fun _ hk => trivial), by exact is61_2 HI0.out NB0_162.out NB0_167.out, bu_ HB.out (IsS61.ge HI0.out) GE162.out GE167.out, kg_ HK.out GW162.out GW167.out⟩
      ·rw [if_neg c44] at H
       have c44b0 : (t177 == 1) = false := beq_eq_false_iff_ne.mpr c44; have c44b1 : (t177 != 1) = true := bne_iff_ne.mpr c44; obtain ⟨y188, hy188⟩ : ∃ y_ : List Int, y_ = (([] : List Int)) := ⟨_, rfl⟩
       rw [← hy188] at H; (try with_reducible replace H := hb_ H); (try dsimp only at H)
       have Ny188 := Aside0.mk hy188; clear hy188
       simp only [Option.some.injEq, Prod.mk.injEq] at H
       obtain ⟨rfl, rfl, rfl⟩ := H
       go_wp2_with (first | ((with_reducible refine gate_callee (f := 51) rfl ?_); refine goesL_ (some 36) rfl rfl Tryd.func51 (by kernel_rfl) rfl #[.pointer (some ⟨g, 0, none⟩), .int .i64 a1] rfl ga_ ?_; (with_reducible refine (spec_l20Rd_odd.calls k1 g s0_0 x1001_1 a1 true t176 w0 _ ?side1 ?side2 A25.out).mono ?_); (case side1 => exact is61_2 HI0.out NB0_162.out NB0_167.out); (case side2 => exact bq3_ HB.out (IsS61.ge HI0.out) GE162.out GE167.out); rintro e w56 ⟨rfl, hi, hb, hk⟩; refine ⟨_, rfl, ?_⟩; have n0_ := Aside0.mk (Kd.R_mono (Kd.R_keep (IsS61.apart (show IsS61 w0 _ g s0_0 x1001_1 from by exact is61_2 HI0.out NB0_162.out NB0_167.out) (r_ HO_168001.out) (by decide)) hk (fun _ h => h.2)) (fun _ h => h.1)); have n1_ := Aside0.mk (KeepBut.blk hk (g' := gb162) (o := .cells #[.int .i64 0, .slice none 0 0] 25 (0, 0)) (bk_ BK162.out) NB162_0.out (by simp)); have n2_ := Aside0.mk (KeepBut.blk hk (g' := gb167) (o := .cells #[.int .i64 (wrap64 ((wrap64 (1 + t163)) + (wrap64 (Int.tdiv t165 8)))), u168001] 25 (0, 0)) (bk_ BK167.out) NB167_0.out (by simp)); have n3_ := Aside0.mk (KeepBut.trans (kg_ HK.out GW162.out GW167.out) hk (.inl rfl)); have n4_ := Aside0.mk (hb); have n5_ := Aside0.mk (hi); clear HO_168001; clear BK162; clear BK167; clear HK; clear HB; clear HI0; have HO_168001 := n0_; have BK162 := n1_; have BK167 := n2_; have HK := n3_; have HB := n4_; have HI0 := n5_; clear n0_ n1_ n2_ n3_ n4_ n5_; (try clear hb); (try clear hb2); (try clear hk); (try clear hi)) | ((with_reducible refine gate_callee (f := 24) rfl ?_); refine goesL_ (some 38) rfl rfl Tryd.func24 (by kernel_rfl) rfl #[.pointer (some ⟨g, 0, none⟩), .int .i64 3] rfl ga_ ?_; (with_reducible refine (spec_l20Rd_pick.calls k1 g s0_0 t176 3 t177 t178 w0 _ ?side1 ?side2 A27.out).mono ?_); (case side1 => exact is61_2 HI0.out NB0_162.out NB0_167.out); (case side2 => exact bq3_ HB.out (IsS61.ge HI0.out) GE162.out GE167.out); rintro e w57 ⟨rfl, hi, hb, hk⟩; refine ⟨_, rfl, ?_⟩; have n0_ := Aside0.mk (Kd.R_mono (Kd.R_keep (IsS61.apart (show IsS61 w0 _ g s0_0 t176 from by exact is61_2 HI0.out NB0_162.out NB0_167.out) (r_ HO_168001.out) (by decide)) hk (fun _ h => h.2)) (fun _ h => h.1)); have n1_ := Aside0.mk (KeepBut.blk hk (g' := gb162) (o := .cells #[.int .i64 0, .slice none 0 0] 25 (0, 0)) (bk_ BK162.out) NB162_0.out (by simp)); have n2_ := Aside0.mk (KeepBut.blk hk (g' := gb167) (o := .cells #[.int .i64 (wrap64 ((wrap64 (1 + t163)) + (wrap64 (Int.tdiv t165 8)))), u168001] 25 (0, 0)) (bk_ BK167.out) NB167_0.out (by simp)); have n3_ := Aside0.mk (KeepBut.trans (kg_ HK.out GW162.out GW167.out) hk (.inl rfl)); have n4_ := Aside0.mk (hb); have n5_ := Aside0.mk (hi); clear HO_168001; clear BK162; clear BK167; clear HK; clear HB; clear HI0; have HO_168001 := n0_; have BK162 := n1_; have BK167 := n2_; have HK := n3_; have HB := n4_; have HI0 := n5_; clear n0_ n1_ n2_ n3_ n4_ n5_; (try clear hb); (try clear hb2); (try clear hk); (try clear hi)) | ((with_reducible refine gate_dst (N := 39) rfl ?_); refine Kd.R_lit (Kd.int .i64) _ 3 ?hg (N := 39) ?hd (xs := ([] : List Int)) (inner := []) (ok := fun _ => True) (okp := fun _ => True) ?hr ?hp (fun _ hk => hk) trivial (Below.refl _ _) (Nat.le_refl _) (by simp) ?_; (case hd => rfl); (case hg => rfl); (case hr => first | (go_simp; done) | (go_simp; rfl)); (case hp => exact (Reps.none _ _)); intro v189 w58 ho59 hb hg_ hnew_; clear hg_ hnew_; (first | rw [← Ny188.out] at ho59 | (simp only [Int.reduceToNat] at ho59; rw [← Ny188.out] at ho59)); have n0_ := Aside0.mk (Kd.R_elder' (r_ HO_168001.out) (Kd.R_base ho59) hb); have n1_ := Aside0.mk (Kd.R_lower (Kd.R_new' ho59 (Kd.R_lt (r_ HO_168001.out))) (keep_size (w := w) (g := g) (row := none) (kg_ HK.out GW162.out GW167.out))); have n2_ := Aside0.mk (blk_below (g := gb162) (o := .cells #[.int .i64 0, .slice none 0 0] 25 (0, 0)) (bk_ BK162.out) hb); have n3_ := Aside0.mk (blk_below (g := gb167) (o := .cells #[.int .i64 (wrap64 ((wrap64 (1 + t163)) + (wrap64 (Int.tdiv t165 8)))), u168001] 25 (0, 0)) (bk_ BK167.out) hb); have n4_ := Aside0.mk (IsS61.below (is61_2 HI0.out NB0_162.out NB0_167.out) hb); have n5_ := Aside0.mk (KeepBut.trans (kg_ HK.out GW162.out GW167.out) (KeepBut.of_below hb g none) (.inl rfl)); have n6_ := Aside0.mk (below_step (bu_ HB.out (IsS61.ge HI0.out) GE162.out GE167.out) hb); clear HO_168001; clear BK162; clear BK167; clear HI0; clear HK; clear HB; have HO_168001 := n0_; have HO190 := n1_; have BK162 := n2_; have BK167 := n3_; have HI0 := n4_; have HK := n5_; have HB := n6_; clear n0_ n1_ n2_ n3_ n4_ n5_ n6_; clear hb ho59; obtain ⟨Ao60, co60, eo60⟩ := Kd.R_slice HO190.out; subst eo60; have hnb61 := NB167_162.out; have hnc61 := NB162_167.out; have hnb62 := NB167_0.out; have hnc62 := NB0_167.out; have hcz63_0 : w58.cell? ⟨gb167, 0, none⟩ = some (.int .i64 (wrap64 ((wrap64 (1 + t163)) + (wrap64 (Int.tdiv t165 8))))) := (blk_cell BK167.out 0).trans rfl; have hcz63_1 : w58.cell? ⟨gb167, 1, none⟩ = some (u168001) := (blk_cell BK167.out 1).trans rfl; have hfz63_0 := blk_frozen BK167.out 0; have hfz63_1 := blk_frozen BK167.out 1; have hnb64 := NB162_0.out; have hnc64 := NB0_162.out; have hcz65_0 : w58.cell? ⟨gb162, 0, none⟩ = some (.int .i64 0) := (blk_cell BK162.out 0).trans rfl; have hcz65_1 : w58.cell? ⟨gb162, 1, none⟩ = some (.slice none 0 0) := (blk_cell BK162.out 1).trans rfl; have hfz65_0 := blk_frozen BK162.out 0; have hfz65_1 := blk_frozen BK162.out 1))
       refine bodyPost_ret (results_cell_row rfl _ _ gb162 25 #[.int .i64 (wrap64 ((wrap64 (1 + t163)) + (wrap64 (Int.tdiv t165 8)))), .slice Ao60 y188.length co60] (0, 0) _ rfl (by refine sb_ ?_; refine blk_put (cs := #[.int .i64 (wrap64 ((wrap64 (1 + t163)) + (wrap64 (Int.tdiv t165 8)))), .slice none 0 0]) ?_ 1 _ rfl; refine sb_ ?_; refine blk_put (cs := #[.int .i64 0, .slice none 0 0]) ?_ 0 _ rfl; refine sb_ ?_; refine blk_far ?_ NB162_167.out _; refine sb_ ?_; exact BK162.out) Tryd.underlying25 rfl (by kernel_rfl)) rfl ?_
       exact ⟨_, by first | rfl | (simp [errW_none, errW_some] <;> rfl) | (simp [*, errW_none, errW_some] <;> rfl), by (with_reducible repeat (first | apply Kd.R_alloc | apply Kd.R_drewN | apply Kd.R_drew)); exact Kd.R_mono (Kd.R_far (p := ⟨gb162, 1, none⟩) (Kd.R_far (p := ⟨gb162, 0, none⟩) (Kd.R_far (p := ⟨gb167, 1, none⟩) (Kd.R_types (Kd.R_types HO190.out BK167.out (by decide)) BK162.out (by decide)) (fun _ hk => hk.1.2) (.slice Ao60 y188.length co60)) (fun _ hk => hk.2) (.int .i64 (wrap64 ((wrap64 (1 + t163)) + (wrap64 (Int.tdiv t165 8)))))) (fun _ hk => hk.2) (.slice Ao60 y188.length co60)) (fun _ hk => trivial), by exact is61_2 HI0.out NB0_162.out NB0_167.out, bu_ HB.out (IsS61.ge HI0.out) GE162.out GE167.out, kg_ HK.out GW162.out GW167.out⟩
    ·replace c26 := Bool.eq_false_iff.mpr c26
     subst c26
     have H1 : (some ((wrap64 ((wrap64 (1 + t163)) + (wrap64 (Int.tdiv t165 8)))), x168001_1, t176)) = some (r1, r2, r3) := by rw [if_neg (show ¬ (false = true) by decide)] at H; exact H
     clear H; have H := H1; clear H1
     simp only [Option.some.injEq, Prod.mk.injEq] at H
     obtain ⟨rfl, rfl, rfl⟩ := H
     go_wp2_with (first | ((with_reducible refine gate_callee (f := 51) rfl ?_); refine goesL_ (some 36) rfl rfl Tryd.func51 (by kernel_rfl) rfl #[.pointer (some ⟨g, 0, none⟩), .int .i64 a1] rfl ga_ ?_; (with_reducible refine (spec_l20Rd_odd.calls k1 g s0_0 x1001_1 a1 false t176 w0 _ ?side1 ?side2 A25.out).mono ?_); (case side1 => exact is61_2 HI0.out NB0_162.out NB0_167.out); (case side2 => exact bq3_ HB.out (IsS61.ge HI0.out) GE162.out GE167.out); rintro e w66 ⟨rfl, hi, hb, hk⟩; refine ⟨_, rfl, ?_⟩; have n0_ := Aside0.mk (Kd.R_mono (Kd.R_keep (IsS61.apart (show IsS61 w0 _ g s0_0 x1001_1 from by exact is61_2 HI0.out NB0_162.out NB0_167.out) (r_ HO_168001.out) (by decide)) hk (fun _ h => h.2)) (fun _ h => h.1)); have n1_ := Aside0.mk (KeepBut.blk hk (g' := gb162) (o := .cells #[.int .i64 0, .slice none 0 0] 25 (0, 0)) (bk_ BK162.out) NB162_0.out (by simp)); have n2_ := Aside0.mk (KeepBut.blk hk (g' := gb167) (o := .cells #[.int .i64 (wrap64 ((wrap64 (1 + t163)) + (wrap64 (Int.tdiv t165 8)))), u168001] 25 (0, 0)) (bk_ BK167.out) NB167_0.out (by simp)); have n3_ := Aside0.mk (KeepBut.trans (kg_ HK.out GW162.out GW167.out) hk (.inl rfl)); have n4_ := Aside0.mk (hb); have n5_ := Aside0.mk (hi); clear HO_168001; clear BK162; clear BK167; clear HK; clear HB; clear HI0; have HO_168001 := n0_; have BK162 := n1_; have BK167 := n2_; have HK := n3_; have HB := n4_; have HI0 := n5_; clear n0_ n1_ n2_ n3_ n4_ n5_; (try clear hb); (try clear hb2); (try clear hk); (try clear hi); have hnb67 := NB167_162.out; have hnc67 := NB162_167.out; have hnb68 := NB167_0.out; have hnc68 := NB0_167.out; have hcz69_0 : w66.cell? ⟨gb167, 0, none⟩ = some (.int .i64 (wrap64 ((wrap64 (1 + t163)) + (wrap64 (Int.tdiv t165 8))))) := (blk_cell BK167.out 0).trans rfl; have hcz69_1 : w66.cell? ⟨gb167, 1, none⟩ = some (u168001) := (blk_cell BK167.out 1).trans rfl; have hfz69_0 := blk_frozen BK167.out 0; have hfz69_1 := blk_frozen BK167.out 1; have hnb70 := NB162_0.out; have hnc70 := NB0_162.out; have hcz71_0 : w66.cell? ⟨gb162, 0, none⟩ = some (.int .i64 0) := (blk_cell BK162.out 0).trans rfl; have hcz71_1 : w66.cell? ⟨gb162, 1, none⟩ = some (.slice none 0 0) := (blk_cell BK162.out 1).trans rfl; have hfz71_0 := blk_frozen BK162.out 0; have hfz71_1 := blk_frozen BK162.out 1; obtain ⟨Ao72, co72, eo72⟩ := Kd.R_slice HO_168001.out; subst eo72))
     refine bodyPost_ret (results_cell_row rfl _ _ gb162 25 #[.int .i64 (wrap64 ((wrap64 (1 + t163)) + (wrap64 (Int.tdiv t165 8)))), .slice Ao72 x168001_1.length co72] (0, 0) _ rfl (by refine sb_ ?_; refine blk_put (cs := #[.int .i64 (wrap64 ((wrap64 (1 + t163)) + (wrap64 (Int.tdiv t165 8)))), .slice none 0 0]) ?_ 1 _ rfl; refine sb_ ?_; refine blk_put (cs := #[.int .i64 0, .slice none 0 0]) ?_ 0 _ rfl; refine sb_ ?_; exact BK162.out) Tryd.underlying25 rfl (by kernel_rfl)) rfl ?_
     exact ⟨_, by first | rfl | (simp [errW_none, errW_some] <;> rfl) | (simp [*, errW_none, errW_some] <;> rfl), by (with_reducible repeat (first | apply Kd.R_alloc | apply Kd.R_drewN | apply Kd.R_drew)); exact Kd.R_mono (Kd.R_far (p := ⟨gb162, 1, none⟩) (Kd.R_far (p := ⟨gb162, 0, none⟩) (Kd.R_types HO_168001.out BK162.out (by decide)) (fun _ hk => hk.2) (.int .i64 (wrap64 ((wrap64 (1 + t163)) + (wrap64 (Int.tdiv t165 8)))))) (fun _ hk => hk.2) (.slice Ao72 x168001_1.length co72)) (fun _ hk => trivial), by exact is61_2 HI0.out NB0_162.out NB0_167.out, bu_ HB.out (IsS61.ge HI0.out) GE162.out GE167.out, kg_ HK.out GW162.out GW167.out⟩

end Go.Proofs.YtoifikhcnioagaaDoor.PFnReadTerm
