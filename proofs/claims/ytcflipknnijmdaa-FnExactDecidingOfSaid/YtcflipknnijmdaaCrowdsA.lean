/- The closures of the least crowds, and the small functions that they call, walked by hand. No condition. -/
import Derived.Test.YtcflipknnijmdaaShelf
import Derived.Test.YtcflipknnijmdaaProg
import Derived.Below
import Derived.Deep.Draws
import Derived.Deep.AppendLies
import Derived.Maps.AppendAt
import Derived.OwnWalk
import Derived.Laws.BytesArg
import Derived.Laws.MakeOwn
import Derived.Laws.OwnMore
import Derived.Deep.OwnRows
import Derived.Tactics
import Derived.Lib.ConvBytes
import Derived.Laws.Slices
import Derived.WalkKit
import Derived.KernelRfl
import Derived.RowKit3
import Derived.Deep.LoopGhost
import Derived.Deep.QuietTactic
import Derived.BigQuiet
import Derived.WideLaws
import Derived.Deep.DeepCutAuto
import Derived.Deep.CutBlock
import Derived.Deep.RegionHeld3
import Derived.Laws.Rows
import Derived.Lib.AppendStr
import Derived.ArgAppend
import Derived.Laws.IdiomCopy
import Derived.OrdersHeld
import Derived.Laws.BitsLemmas
import Derived.RowKit
import Derived.Test.YtcflipknnijmdaaWWords
import Derived.Test.YtcflipknnijmdaaWLast
import Derived.Test.YtcflipknnijmdaaWTab
import Derived.Test.YtcflipknnijmdaaWFour
import Derived.Test.YtcflipknnijmdaaWQPut
import Derived.Test.YtcflipknnijmdaaWApart
import Derived.Test.YtcflipknnijmdaaWArr
import Derived.Test.YtcflipknnijmdaaWZeros
import Derived.Test.YtcflipknnijmdaaWFoot
import Derived.Test.YtcflipknnijmdaaWKept
import Derived.Test.YtcflipknnijmdaaWShare
import Derived.Test.YtcflipknnijmdaaWN
import Derived.Test.YtcflipknnijmdaaWFootNe
import Derived.Test.YtcflipknnijmdaaWAt
import Derived.Test.YtcflipknnijmdaaWEqStruct
import Derived.Test.YtcflipknnijmdaaWRepsOne
import Derived.Test.YtcflipknnijmdaaWInv
import Derived.Test.YtcflipknnijmdaaWInvWords
import Derived.Test.YtcflipknnijmdaaWGuard
import Derived.Test.YtcflipknnijmdaaWNEv
import Derived.Test.YtcflipknnijmdaaWMore
import Derived.Sort.OwnSortedInts
set_option linter.unusedVariables false
set_option linter.unusedSimpArgs false
namespace Go.Proofs.Ytcflipknnijmdaa.Crowds
open Go Go.Proofs Go.Shelf Go.RowKit Go.Lib Go.Proofs.YtcflipknnijmdaaW.PrintWords Go.Proofs.YtcflipknnijmdaaW.PrintLast Go.Proofs.YtcflipknnijmdaaW.PrintMore

theorem pred54 (c : Int) (B : Nat) (w : World) (hB : B < w.heap.size) (hcell : w.cell? ⟨B, 0, none⟩ = some (.int .i64 c)) :
    PredAt Try.prog 54 #[.pointer (some ⟨B, 0, none⟩)] (Value.int .i64) (fun d => (d != c) && (Go.bits .andNot .i64 d c == 0)) w := fun W d hb => by
  have hc : W.cell? ⟨B, 0, none⟩ = some (.int .i64 c) := (hb.cell (p := ⟨B, 0, none⟩) hB).trans hcell
  show Calls Try.prog 54 #[.int .i64 d, .pointer (some ⟨B, 0, none⟩)] W _
  by_cases h : d = c
  · have h1 : (d != c) = false := by simp [h]
    go_enter Try.func54, Try.ntmps54
    go_wp2
    all_goals (go_ret; exact ⟨by simp_all, 0, rfl⟩)
  · have h1 : (d != c) = true := by simp [h]
    go_enter Try.func54, Try.ntmps54
    go_wp2
    all_goals (go_ret; exact ⟨by simp_all, 0, rfl⟩)

/-! ### impl_arePeople: function 36 -/
def impl_arePeople.f (a0 : Int) : Option (Bool) := if a0 ≥ 1 then (some (decide (a0 ≤ 6))) else (some false)
set_option maxHeartbeats 8000000 in
set_option maxRecDepth 100000 in
theorem impl_arePeople.calls (a0 : Int) (r : Bool) (w : World) (h : impl_arePeople.f a0 = some r) :
    Calls Try.prog 36 #[.int .i64 a0] w fun e w' => e = .returned (.bool r) ∧ Drawn0 w w' := by
  have H : (if a0 ≥ 1 then (some (decide (a0 ≤ 6))) else (some false)) = some r := h
  clear h
  by_cases c2 : a0 ≥ 1
  · rw [if_pos c2] at H
    have c2b0 : decide (1 ≤ a0) = true := decide_eq_true c2
    clear c2
    obtain rfl := Option.some.inj H
    go_enter Try.func36, Try.ntmps36
    go_wp2
    go_ret
    exact ⟨by first | rfl | (simp; done) | (simp [*]; done), by repeat (first | exact Drawn0.refl _ | apply Drawn0.step)⟩
  · rw [if_neg c2] at H
    have c2b0 : decide (1 ≤ a0) = false := decide_eq_false c2
    clear c2
    obtain rfl := Option.some.inj H
    go_enter Try.func36, Try.ntmps36
    go_wp2
    go_ret
    exact ⟨by first | rfl | (simp; done) | (simp [*]; done), by repeat (first | exact Drawn0.refl _ | apply Drawn0.step)⟩

/-! ### impl_isCrowd: function 39 -/
def impl_isCrowd.f (a0 : Int) (a1 : Int) : Option (Bool) := (impl_arePeople.f a0).bind fun t183 => (if t183 = true then (if a1 ≥ 0 then (if 0 ≤ a0 then (some (decide (a1 < (shl .i64 1 a0)))) else (none)) else (some false)) else (some false))
set_option maxHeartbeats 8000000 in
set_option maxRecDepth 100000 in
theorem impl_isCrowd.calls (a0 : Int) (a1 : Int) (r : Bool) (w : World) (h : impl_isCrowd.f a0 a1 = some r) :
    Calls Try.prog 39 #[.int .i64 a0, .int .i64 a1] w fun e w' => e = .returned (.bool r) ∧ Drawn0 w w' := by
  have H : ((impl_arePeople.f a0).bind fun t183 => (if t183 = true then (if a1 ≥ 0 then (if 0 ≤ a0 then (some (decide (a1 < (shl .i64 1 a0)))) else (none)) else (some false)) else (some false))) = some r := h
  clear h
  replace H := Option.bind_eq_some_iff.mp H
  obtain ⟨t183, A30, H⟩ := H
  replace H : (if t183 = true then (if a1 ≥ 0 then (if 0 ≤ a0 then (some (decide (a1 < (shl .i64 1 a0)))) else (none)) else (some false)) else (some false)) = some r := H
  have A3 := Aside0.mk A30
  clear A30
  by_cases c4 : t183 = true
  · subst c4
    have H1 : (if a1 ≥ 0 then (if 0 ≤ a0 then (some (decide (a1 < (shl .i64 1 a0)))) else (none)) else (some false)) = some r := by rw [if_pos rfl] at H; exact H
    clear H
    have H := H1
    clear H1
    by_cases c5 : a1 ≥ 0
    · rw [if_pos c5] at H
      have c5b0 : decide (0 ≤ a1) = true := decide_eq_true c5
      clear c5
      by_cases c6 : 0 ≤ a0
      · rw [if_pos c6] at H
        have c6b0 := eq_true c6
        have c6b1 : decide (0 ≤ a0) = true := decide_eq_true c6
        clear c6
        obtain ⟨ji7, hji7⟩ : ∃ j_ : Int, (shl .i64 1 a0) = j_ := ⟨_, rfl⟩
        replace H : (some (decide (a1 < (ji7)))) = some r := by first | (rw [hji7] at H; exact H) | (simp only [hji7] at H ⊢; exact H)
        (try rw [hji7] at A3)
        have hji7_ : (IntKind.i64.wrap (1 * 2 ^ min a0.toNat 64)) = ji7 := hji7
        have hji7z : a0 ≤ 64 → (IntKind.i64.wrap (1 * 2 ^ a0.toNat)) = ji7 := shl_small hji7
        have hji7u : (IntKind.i64.wrap (2 ^ min a0.toNat 64)) = ji7 := by have h_ := hji7_; rw [Int.one_mul] at h_; exact h_
        have hji7v : a0 ≤ 64 → (IntKind.i64.wrap (2 ^ a0.toNat)) = ji7 := fun hle_ => by have h_ := hji7z hle_; rw [Int.one_mul] at h_; exact h_
        have hji7y : (wrap64 (1 * 2 ^ min a0.toNat 64)) = ji7 := (i64_w _).symm.trans hji7_
        have hji7x : a0 ≤ 64 → (wrap64 (1 * 2 ^ a0.toNat)) = ji7 := fun h_ => (i64_w _).symm.trans (hji7z h_)
        obtain rfl := Option.some.inj H
        go_enter Try.func39, Try.ntmps39
        go_wp2_with (first | ((with_reducible refine gate_callee (f := 36) rfl ?_); refine goesL_ (some 6) rfl rfl Try.func36 (by kernel_rfl) rfl #[.int .i64 a0] rfl (by (try simp only [List.map_toArray, List.map_cons, List.map_nil]); first | done | rfl | (simp only [List.length_drop, List.length_take]; rfl)) ?_; (with_reducible refine (impl_arePeople.calls a0 true _ A3.out).mono ?_); rintro e w' ⟨rfl, ⟨nd, rfl⟩⟩; refine ⟨_, rfl, ?_⟩))
        go_ret
        exact ⟨by first | rfl | (simp; done) | (simp only [← hji7] <;> (first | rfl | simp)) | (simp [*]; done), by repeat (first | exact Drawn0.refl _ | apply Drawn0.step)⟩
      · rw [if_neg c6] at H
        exact absurd H (by simp)
    · rw [if_neg c5] at H
      have c5b0 : decide (0 ≤ a1) = false := decide_eq_false c5
      clear c5
      obtain rfl := Option.some.inj H
      go_enter Try.func39, Try.ntmps39
      go_wp2_with (first | ((with_reducible refine gate_callee (f := 36) rfl ?_); refine goesL_ (some 6) rfl rfl Try.func36 (by kernel_rfl) rfl #[.int .i64 a0] rfl (by (try simp only [List.map_toArray, List.map_cons, List.map_nil]); first | done | rfl | (simp only [List.length_drop, List.length_take]; rfl)) ?_; (with_reducible refine (impl_arePeople.calls a0 true _ A3.out).mono ?_); rintro e w' ⟨rfl, ⟨nd, rfl⟩⟩; refine ⟨_, rfl, ?_⟩))
      go_ret
      exact ⟨by first | rfl | (simp; done) | (simp [*]; done), by repeat (first | exact Drawn0.refl _ | apply Drawn0.step)⟩
  · replace c4 := Bool.eq_false_iff.mpr c4
    subst c4
    have H1 : (some false) = some r := by rw [if_neg (show ¬ (false = true) by decide)] at H; exact H
    clear H
    have H := H1
    clear H1
    obtain rfl := Option.some.inj H
    go_enter Try.func39, Try.ntmps39
    go_wp2_with (first | ((with_reducible refine gate_callee (f := 36) rfl ?_); refine goesL_ (some 6) rfl rfl Try.func36 (by kernel_rfl) rfl #[.int .i64 a0] rfl (by (try simp only [List.map_toArray, List.map_cons, List.map_nil]); first | done | rfl | (simp only [List.length_drop, List.length_take]; rfl)) ?_; (with_reducible refine (impl_arePeople.calls a0 false _ A3.out).mono ?_); rintro e w' ⟨rfl, ⟨nd, rfl⟩⟩; refine ⟨_, rfl, ?_⟩))
    go_ret
    exact ⟨by first | rfl | (simp; done) | (simp [*]; done), by repeat (first | exact Drawn0.refl _ | apply Drawn0.step)⟩


def isC (p c : Int) : Bool := decide (1 ≤ p) && decide (p ≤ 6) && decide (0 ≤ c) && decide (c < 2 ^ p.toNat)
theorem isC_eq (p c : Int) : impl_isCrowd.f p c = some (isC p c) := by
  unfold impl_isCrowd.f impl_arePeople.f isC
  by_cases h1 : p ≥ 1
  · rw [if_pos h1, Option.bind_some]
    by_cases h6 : p ≤ 6
    · rw [if_pos (by simp [h6])]
      by_cases h0 : c ≥ 0
      · rw [if_pos h0, if_pos (by omega)]
        have : p = 1 ∨ p = 2 ∨ p = 3 ∨ p = 4 ∨ p = 5 ∨ p = 6 := by omega
        rcases this with rfl | rfl | rfl | rfl | rfl | rfl <;> simp [h0] <;> rfl
      · rw [if_neg h0]; simp; omega
    · rw [if_neg (by simp; omega)]; simp; omega
  · rw [if_neg h1, Option.bind_some, if_neg (by simp)]; simp; omega
theorem is39 (p c : Int) (w : World) : Calls Try.prog 39 #[.int .i64 p, .int .i64 c] w fun e w' => e = .returned (.bool (isC p c)) ∧ ∃ q, w' = w.drewN q := by
  refine (impl_isCrowd.calls p c _ w (isC_eq p c)).mono ?_
  rintro e w' ⟨rfl, hd⟩
  exact ⟨rfl, hd.out⟩
theorem pred38 (p : Int) (B : Nat) (w : World) (hB : B < w.heap.size) (hcell : w.cell? ⟨B, 0, none⟩ = some (.int .i64 p)) :
    PredAt Try.prog 38 #[.pointer (some ⟨B, 0, none⟩)] (Value.int .i64) (fun c => !isC p c) w := fun W c hb => by
  have hc : W.cell? ⟨B, 0, none⟩ = some (.int .i64 p) := (hb.cell (p := ⟨B, 0, none⟩) hB).trans hcell
  show Calls Try.prog 38 #[.int .i64 c, .pointer (some ⟨B, 0, none⟩)] W _
  go_enter Try.func38, Try.ntmps38
  go_wp2_with (go_at_call 39; refine (is39 p c _).mono ?_; rintro e w' ⟨rfl, q, rfl⟩)
  all_goals (go_ret; exact ⟨rfl, _, rfl⟩)
end Go.Proofs.Ytcflipknnijmdaa.Crowds
