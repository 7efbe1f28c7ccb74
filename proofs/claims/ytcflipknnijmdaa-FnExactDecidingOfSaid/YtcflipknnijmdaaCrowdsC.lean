/- impl.LeastCrowds, walked by hand. No condition. -/
import Derived.Test.YtcflipknnijmdaaCrowdsB
set_option linter.unusedVariables false
set_option linter.unusedSimpArgs false
namespace Go.Proofs.Ytcflipknnijmdaa.Crowds
open Go Go.Proofs Go.Shelf Go.RowKit Go.Lib Go.Proofs.YtcflipknnijmdaaW.PrintWords Go.Proofs.YtcflipknnijmdaaW.PrintLast Go.Proofs.YtcflipknnijmdaaW.PrintMore
attribute [local go_sem] max2_int min2_int max_two min_two max_three min_three max_four min_four

theorem C_cells {w : World} {A : Option Addr} {l : List Int} (h : Kd.C (Kd.int .i64) w A l.length l) (hl : 0 < l.length) :
    ∃ b off, A = some ⟨b, off, none⟩ ∧ ∀ j, j < l.length → w.cell? ⟨b, off + j, none⟩ = some (Value.int .i64 l[j]!) := by
  have hsp : ∃ b off, A = some ⟨b, off, none⟩ := by
    obtain ⟨ad, e, hcs⟩ := h.2.2 hl
    obtain ⟨c, hc1, hc2, hc3⟩ := hcs 0 (l[0]'hl) (List.getElem?_eq_getElem hl)
    cases c with
    | nil => cases hc1
    | cons u cs =>
      have := hc3 0 u rfl
      rw [Nat.zero_mul, Addr.add, if_pos rfl] at this
      cases hs : ad.spot with
      | none => exact ⟨ad.block, ad.off, by rw [e]; cases ad; simp_all⟩
      | some z => exfalso; rw [World.cell?, hs] at this; revert this; simp only [Option.isSome_some, if_true]; split <;> intro h <;> cases h
  obtain ⟨b, off, rfl⟩ := hsp
  refine ⟨b, off, rfl, fun j hj => ?_⟩
  obtain ⟨ad, e, hx⟩ := Kd.at_int h (j : Int) (by omega) (by omega)
  cases e
  rw [Int.toNat_natCast] at hx
  have e1 : (⟨b, off, none⟩ : Addr).add j = ⟨b, off + j, none⟩ := by
    rw [Addr.add]; split
    · rename_i h; subst h; rfl
    · rfl
  have e2 : rd l (j : Int) = l[j]! := by unfold rd; simp [List.getD_eq_getElem?_getD, List.getElem?_eq_getElem hj]
  rw [← e1, hx, e2]

theorem any37 {w : World} {A : Option Addr} {cap : Nat} {l : List Int} (h : Kd.C (Kd.int .i64) w A l.length l) (p : Int) (B : Nat) (W : World) (hb : Below w.heap.size w W) (hB : B < W.heap.size) (hcell : W.cell? ⟨B, 0, none⟩ = some (.int .i64 p)) (h64 : l.length ≤ 64) :
    Calls Try.prog 37 #[.slice A l.length cap, .func (.func 38) #[] #[.pointer (some ⟨B, 0, none⟩)]] W fun e w' => e = .returned (.bool (!(l.all (isC p)))) ∧ ∃ q, w' = W.drewN q := by
  have e : (!(l.all (isC p))) = l.any (fun c => !isC p c) := by rw [List.not_all_eq_any_not]
  rw [e]
  rcases Nat.eq_zero_or_pos l.length with h0 | h0
  · have : l = [] := List.length_eq_zero_iff.1 h0
    subst this
    refine (Try.slices_ContainsFunc_empty (α := Int) A cap _ W).mono ?_
    rintro e w' ⟨rfl, rfl⟩
    exact ⟨rfl, 0, rfl⟩
  · obtain ⟨b, off, rfl, hc⟩ := C_cells h h0
    have := Try.slices_ContainsFunc (Value.int .i64) (fun c => !isC p c) 38 #[.pointer (some ⟨B, 0, none⟩)] (enters_of Try.func38 (by kernel_rfl) rfl) b off l.length cap l W (pred38 p B W hB hcell) (Nat.le_refl _) (by omega)
      (fun j hj => (hb.cell (World.block_lt_of_cell? _ _ (hc j hj))).trans (hc j hj))
    rw [List.take_length] at this
    exact this

def areB (p : Int) : Bool := decide (1 ≤ p) && decide (p ≤ 6)
theorem are_eq (p : Int) : impl_arePeople.f p = some (areB p) := by
  unfold impl_arePeople.f areB; split <;> simp_all; omega
def leastC (p : Int) (l : List Int) : List Int := if areB p = true ∧ l.length ≤ 64 ∧ l.all (isC p) = true then Lib.compact ((l.filter (least l)).mergeSort fun x y => decide (x ≤ y)) else []

set_option maxHeartbeats 8000000 in
set_option maxRecDepth 100000 in
theorem crowds11 (p : Int) (A : Option Addr) (cap : Nat) (l : List Int) (w : World) (hr : Kd.C (Kd.int .i64) w A l.length l) (hc : l.length ≤ cap) :
    Calls Try.prog 11 #[.int .i64 p, .slice A l.length cap] w fun e w' => ∃ v, e = .returned v ∧ Kd.R (Kd.int .i64) 3 w' w.heap.size (fun _ => True) v (leastC p l) ∧ Below w.heap.size w w' := by
  have HB := Aside0.mk (Below.refl w.heap.size w)
  have HR := Aside0.mk hr
  have HC := Aside0.mk hc
  clear hr hc
  have CA : ∀ W : World, Calls Try.prog 36 #[.int .i64 p] W fun e w' => e = .returned (.bool (areB p)) ∧ Drawn0 W w' := fun W => impl_arePeople.calls p _ W (are_eq p)
  cases ha : areB p with
  | false =>
    rw [ha] at CA
    have e0 : leastC p l = [] := by unfold leastC; rw [if_neg (by simp [ha])]
    rw [e0]
    clear ha e0
    go_enter Try.func11, Try.ntmps11
    go_wp2_with (first | ((with_reducible refine gate_callee (f := 36) rfl ?_); refine goesL_ (some 6) rfl rfl Try.func36 (by kernel_rfl) rfl #[.int .i64 p] rfl (by (try simp only [List.map_toArray, List.map_cons, List.map_nil]); first | done | rfl | (simp only [List.length_drop, List.length_take]; rfl)) ?_; (with_reducible refine (CA _).mono ?_); rintro e w' ⟨rfl, ⟨nd, rfl⟩⟩; refine ⟨_, rfl, ?_⟩) | (go_at_call 36; refine (CA _).mono ?_; rintro e w' ⟨rfl, ⟨nd, rfl⟩⟩))
    go_ret
    exact ⟨_, rfl, Kd.R_nil _ _ _ _ _, (by repeat (first | (with_reducible first | exact HB.out | apply below_alloc | apply pw_below_drewN | apply below_drew1) | exact HB.out))⟩
  | true =>
    rw [ha] at CA
    by_cases h6 : l.length ≤ 64
    · have c64 : decide ((l.length : Int) > 64) = false := decide_eq_false (by omega)
      have c64b : decide ((64 : Int) < (l.length : Int)) = false := decide_eq_false (by omega)
      have CB : ∀ nd : Nat, Calls Try.prog 37 #[.slice A l.length cap, .func (.func 38) #[] #[.pointer (some ⟨w.heap.size, 0, none⟩)]] ((w.alloc (.cells #[.int .i64 p] 3)).drewN nd) fun e w' => e = .returned (.bool (!(l.all (isC p)))) ∧ ∃ q, w' = ((w.alloc (.cells #[.int .i64 p] 3)).drewN nd).drewN q := fun nd =>
        any37 HR.out p w.heap.size _ (by repeat (first | (with_reducible first | exact HB.out | apply below_alloc | apply pw_below_drewN | apply below_drew1) | exact HB.out)) (by show w.heap.size < (w.alloc _).heap.size; simp) (by show (w.alloc _).cell? _ = _; simp) h6
      cases hl : l.all (isC p) with
      | false =>
        have e0 : leastC p l = [] := by unfold leastC; rw [if_neg (by simp [hl])]
        rw [e0]
        rw [hl] at CB
        clear hl ha e0
        go_enter Try.func11, Try.ntmps11
        go_wp2_with (first | ((with_reducible refine gate_callee (f := 36) rfl ?_); refine goesL_ (some 6) rfl rfl Try.func36 (by kernel_rfl) rfl #[.int .i64 p] rfl (by (try simp only [List.map_toArray, List.map_cons, List.map_nil]); first | done | rfl | (simp only [List.length_drop, List.length_take]; rfl)) ?_; (with_reducible refine (CA _).mono ?_); rintro e w' ⟨rfl, ⟨nd, rfl⟩⟩; refine ⟨_, rfl, ?_⟩) | (go_at_call 36; refine (CA _).mono ?_; rintro e w' ⟨rfl, ⟨nd, rfl⟩⟩) | (go_at_call 37; refine (CB _).mono ?_; rintro e w' ⟨rfl, q, rfl⟩))
        go_ret
        exact ⟨_, rfl, Kd.R_nil _ _ _ _ _, (by repeat (first | (with_reducible first | exact HB.out | apply below_alloc | apply pw_below_drewN | apply below_drew1) | exact HB.out))⟩
      | true =>
        have e0 : leastC p l = Lib.compact ((l.filter (least l)).mergeSort fun x y => decide (x ≤ y)) := by unfold leastC; rw [if_pos ⟨ha, h6, hl⟩]
        rw [e0]
        rw [hl] at CB
        have CD : ∀ W : World, Below w.heap.size w W → Calls Try.prog 40 #[.slice A l.length cap] W fun e w' => ∃ v, e = .returned v ∧ Kd.R (Kd.int .i64) 3 w' w.heap.size (fun _ => True) v (Lib.compact ((l.filter (least l)).mergeSort fun x y => decide (x ≤ y))) ∧ Below w.heap.size w w' := by
          intro W hb
          refine (least40 A cap l _ (Kd.C_below HR.out hb) HC.out h6).mono ?_
          rintro e w' ⟨v, rfl, h1, h2⟩
          exact ⟨v, rfl, Kd.R_lower h1 hb.size, below_step hb h2⟩
        clear hl ha e0
        go_enter Try.func11, Try.ntmps11
        go_wp2_with (first | ((with_reducible refine gate_callee (f := 36) rfl ?_); refine goesL_ (some 6) rfl rfl Try.func36 (by kernel_rfl) rfl #[.int .i64 p] rfl (by (try simp only [List.map_toArray, List.map_cons, List.map_nil]); first | done | rfl | (simp only [List.length_drop, List.length_take]; rfl)) ?_; (with_reducible refine (CA _).mono ?_); rintro e w' ⟨rfl, ⟨nd, rfl⟩⟩; refine ⟨_, rfl, ?_⟩) | (go_at_call 36; refine (CA _).mono ?_; rintro e w' ⟨rfl, ⟨nd, rfl⟩⟩) | (go_at_call 37; refine (CB _).mono ?_; rintro e w' ⟨rfl, q, rfl⟩) | (go_at_call 40; refine (CD _ (by repeat (first | (with_reducible first | exact HB.out | apply below_alloc | apply pw_below_drewN | apply below_drew1) | exact HB.out))).mono ?_; rintro e w' ⟨v, rfl, h1, h2⟩))
        go_ret
        exact ⟨_, rfl, h1, h2⟩
    · have c64 : decide ((l.length : Int) > 64) = true := decide_eq_true (by omega)
      have c64b : decide ((64 : Int) < (l.length : Int)) = true := decide_eq_true (by omega)
      have e0 : leastC p l = [] := by unfold leastC; rw [if_neg (by omega)]
      rw [e0]
      clear ha e0
      go_enter Try.func11, Try.ntmps11
      go_wp2_with (first | ((with_reducible refine gate_callee (f := 36) rfl ?_); refine goesL_ (some 6) rfl rfl Try.func36 (by kernel_rfl) rfl #[.int .i64 p] rfl (by (try simp only [List.map_toArray, List.map_cons, List.map_nil]); first | done | rfl | (simp only [List.length_drop, List.length_take]; rfl)) ?_; (with_reducible refine (CA _).mono ?_); rintro e w' ⟨rfl, ⟨nd, rfl⟩⟩; refine ⟨_, rfl, ?_⟩) | (go_at_call 36; refine (CA _).mono ?_; rintro e w' ⟨rfl, ⟨nd, rfl⟩⟩))
      go_ret
      exact ⟨_, rfl, Kd.R_nil _ _ _ _ _, (by repeat (first | (with_reducible first | exact HB.out | apply below_alloc | apply pw_below_drewN | apply below_drew1) | exact HB.out))⟩
end Go.Proofs.Ytcflipknnijmdaa.Crowds
