/- Walks of the functions that this law reaches, one by one, written by a program. No condition. -/
import Derived.Test.YtoifikhcnioagaaDoorPFnReadTermx0
import Derived.Test.YtoifikhcnioagaaDoorPFnReadTermx3
import Derived.Test.YtoifikhcnioagaaDoorPFnReadTermx4
namespace Go.Proofs.YtoifikhcnioagaaDoor.PFnReadTerm
open Go.RowKit Go.Proofs.YtoifikhcnioagaaDoorW.PrintWords Go.Proofs.YtoifikhcnioagaaDoorW.PrintLast Go.Proofs.YtoifikhcnioagaaDoorW.PrintMore
attribute [local go_sem] max2_int min2_int max_two min_two max_three min_three max_four min_four   -- for this text's walks alone
set_option linter.unusedVariables false
set_option linter.unusedSimpArgs false

/-! ### spec_l3Text: function 28 -/
def spec_l3Text.f : Nat → List (S54) → Option (ByteArray)
 | 0, _ => none
 | k + 1, l0 => if 0 ≤ (wrap64 ((l0.length : Int) - 1)) then (if (wrap64 ((l0.length : Int) - 1)) < (l0.length : Int) then (if ((rd_T54 l0 (wrap64 ((l0.length : Int) - 1))).f0) = 0 then ((some (([(wrap64 (65 + ((rd_T54 l0 (wrap64 ((l0.length : Int) - 1))).f1))) % 256] : List Int) : List Int)).bind fun y130 => ((spec_l1Number.f k ((rd_T54 l0 (wrap64 ((l0.length : Int) - 1))).f2)).bind fun t134 => (if (strOfNums y130).size + t134.size ≤ 9223372036854775807 then (some ((strOfNums y130) ++ t134)) else (none)))) else ((spec_l3Starts.f k l0 (wrap64 ((wrap64 ((l0.length : Int) - 1)) - 1))).bind fun t135 => (if 0 ≤ t135 then (if t135 ≤ (l0.length : Int) then ((spec_l3Text.f k (l0.take (t135 : Int).toNat)).bind fun t140 => (if t135 ≤ (wrap64 ((l0.length : Int) - 1)) then (if (wrap64 ((l0.length : Int) - 1)) ≤ (l0.length : Int) then ((spec_l3Text.f k ((l0.take ((wrap64 ((l0.length : Int) - 1)) : Int).toNat).drop (t135 : Int).toNat)).bind fun t145 => (if ((rd_T54 l0 (wrap64 ((l0.length : Int) - 1))).f0) = 2 then (if 0 ≤ (wrap64 ((wrap64 ((l0.length : Int) - 1)) - 1)) then (if (wrap64 ((wrap64 ((l0.length : Int) - 1)) - 1)) < (l0.length : Int) then (if ((rd_T54 l0 (wrap64 ((wrap64 ((l0.length : Int) - 1)) - 1))).f0) = 2 then (if 1 + t145.size ≤ 9223372036854775807 then (if ((⟨#[40]⟩ : ByteArray) ++ t145).size + 1 ≤ 9223372036854775807 then (if t140.size + 1 ≤ 9223372036854775807 then (if (t140 ++ (⟨#[124]⟩ : ByteArray)).size + (((⟨#[40]⟩ : ByteArray) ++ t145) ++ (⟨#[41]⟩ : ByteArray)).size ≤ 9223372036854775807 then (some ((t140 ++ (⟨#[124]⟩ : ByteArray)) ++ (((⟨#[40]⟩ : ByteArray) ++ t145) ++ (⟨#[41]⟩ : ByteArray)))) else (none)) else (none)) else (none)) else (none)) else (if t140.size + 1 ≤ 9223372036854775807 then (if (t140 ++ (⟨#[124]⟩ : ByteArray)).size + t145.size ≤ 9223372036854775807 then (some ((t140 ++ (⟨#[124]⟩ : ByteArray)) ++ t145)) else (none)) else (none))) else (none)) else (none)) else (if 0 ≤ (wrap64 (t135 - 1)) then (if (wrap64 (t135 - 1)) < (l0.length : Int) then (if ((rd_T54 l0 (wrap64 (t135 - 1))).f0) = 2 then (if 1 + t140.size ≤ 9223372036854775807 then (if ((⟨#[40]⟩ : ByteArray) ++ t140).size + 1 ≤ 9223372036854775807 then (if 0 ≤ (wrap64 ((wrap64 ((l0.length : Int) - 1)) - 1)) then (if (wrap64 ((wrap64 ((l0.length : Int) - 1)) - 1)) < (l0.length : Int) then (if ((rd_T54 l0 (wrap64 ((wrap64 ((l0.length : Int) - 1)) - 1))).f0) = 0 then (if (((⟨#[40]⟩ : ByteArray) ++ t140) ++ (⟨#[41]⟩ : ByteArray)).size + 1 ≤ 9223372036854775807 then (if ((((⟨#[40]⟩ : ByteArray) ++ t140) ++ (⟨#[41]⟩ : ByteArray)) ++ (⟨#[38]⟩ : ByteArray)).size + t145.size ≤ 9223372036854775807 then (some (((((⟨#[40]⟩ : ByteArray) ++ t140) ++ (⟨#[41]⟩ : ByteArray)) ++ (⟨#[38]⟩ : ByteArray)) ++ t145)) else (none)) else (none)) else (if 1 + t145.size ≤ 9223372036854775807 then (if ((⟨#[40]⟩ : ByteArray) ++ t145).size + 1 ≤ 9223372036854775807 then (if (((⟨#[40]⟩ : ByteArray) ++ t140) ++ (⟨#[41]⟩ : ByteArray)).size + 1 ≤ 9223372036854775807 then (if ((((⟨#[40]⟩ : ByteArray) ++ t140) ++ (⟨#[41]⟩ : ByteArray)) ++ (⟨#[38]⟩ : ByteArray)).size + (((⟨#[40]⟩ : ByteArray) ++ t145) ++ (⟨#[41]⟩ : ByteArray)).size ≤ 9223372036854775807 then (some (((((⟨#[40]⟩ : ByteArray) ++ t140) ++ (⟨#[41]⟩ : ByteArray)) ++ (⟨#[38]⟩ : ByteArray)) ++ (((⟨#[40]⟩ : ByteArray) ++ t145) ++ (⟨#[41]⟩ : ByteArray)))) else (none)) else (none)) else (none)) else (none))) else (none)) else (none)) else (none)) else (none)) else (if 0 ≤ (wrap64 ((wrap64 ((l0.length : Int) - 1)) - 1)) then (if (wrap64 ((wrap64 ((l0.length : Int) - 1)) - 1)) < (l0.length : Int) then (if ((rd_T54 l0 (wrap64 ((wrap64 ((l0.length : Int) - 1)) - 1))).f0) = 0 then (if t140.size + 1 ≤ 9223372036854775807 then (if (t140 ++ (⟨#[38]⟩ : ByteArray)).size + t145.size ≤ 9223372036854775807 then (some ((t140 ++ (⟨#[38]⟩ : ByteArray)) ++ t145)) else (none)) else (none)) else (if 1 + t145.size ≤ 9223372036854775807 then (if ((⟨#[40]⟩ : ByteArray) ++ t145).size + 1 ≤ 9223372036854775807 then (if t140.size + 1 ≤ 9223372036854775807 then (if (t140 ++ (⟨#[38]⟩ : ByteArray)).size + (((⟨#[40]⟩ : ByteArray) ++ t145) ++ (⟨#[41]⟩ : ByteArray)).size ≤ 9223372036854775807 then (some ((t140 ++ (⟨#[38]⟩ : ByteArray)) ++ (((⟨#[40]⟩ : ByteArray) ++ t145) ++ (⟨#[41]⟩ : ByteArray)))) else (none)) else (none)) else (none)) else (none))) else (none)) else (none))) else (none)) else (none)))) else (none)) else (none))) else (none)) else (none)))) else (none)) else (none)
def spec_l3Text.T3 : Bool × List (List Nat × List Nat) := (true, [([], []), ([], []), ([0, 1], [0, 1]), ([2], [2]), ([3], [3]), ([4], [4]), ([5], [5]), ([6], [6]), ([7], [7]), ([], []), ([], []), ([9, 10], [9, 10]), ([11], [11]), ([12], [12]), ([13], [13]), ([8, 14], [8, 14]), ([15, 14, 0, 1, 2, 3, 4, 5, 6, 7, 8, 9, 10, 11, 12, 13, 14, 15], [15])])
def spec_l3Text.B3 : List Nat := [0, 0, 3, 7, 15, 31, 63, 127, 255, 0, 0, 1536, 3584, 7680, 15872, 32767, 65535]
theorem spec_l3Text.tab3 : rtab .any (opsOf Tryd.f28 3) = spec_l3Text.T3 := by kernel_rfl
theorem spec_l3Text.bits3 : waitsOk spec_l3Text.T3.2 spec_l3Text.B3 = true := by kernel_rfl
set_option maxHeartbeats 8000000 in
set_option maxRecDepth 100000 in
theorem spec_l3Text.calls (k : Nat) : ∀ (A0 : Option Addr) (c0 : Nat) (l0 : List (S54)) (r : ByteArray) (w : World) (hr0 : Kd.C k54 w A0 l0.length l0) (hc0 : l0.length ≤ c0) (h : spec_l3Text.f k l0 = some r),
  Calls Tryd.prog 28 #[.slice A0 l0.length c0] w fun e w' => e = .returned (.string r) ∧ Below w.heap.size w w' := by
 induction k using Nat.strongRecOn with
 | _ k ih =>
 intro A0 c0 l0 r w hr0 hc0 h
 cases k with
 | zero => exact absurd h (by simp [spec_l3Text.f])
 | succ k =>
 simp only [spec_l3Text.f] at h
 have HR0 := Aside0.mk hr0; have HC0 := Aside0.mk hc0; clear hr0 hc0; have HB := Aside0.mk (Below.refl w.heap.size w); have H : (if 0 ≤ (wrap64 ((l0.length : Int) - 1)) then (if (wrap64 ((l0.length : Int) - 1)) < (l0.length : Int) then (if ((rd_T54 l0 (wrap64 ((l0.length : Int) - 1))).f0) = 0 then ((some (([(wrap64 (65 + ((rd_T54 l0 (wrap64 ((l0.length : Int) - 1))).f1))) % 256] : List Int) : List Int)).bind fun y130 => ((spec_l1Number.f k ((rd_T54 l0 (wrap64 ((l0.length : Int) - 1))).f2)).bind fun t134 => (if (strOfNums y130).size + t134.size ≤ 9223372036854775807 then (some ((strOfNums y130) ++ t134)) else (none)))) else ((spec_l3Starts.f k l0 (wrap64 ((wrap64 ((l0.length : Int) - 1)) - 1))).bind fun t135 => (if 0 ≤ t135 then (if t135 ≤ (l0.length : Int) then ((spec_l3Text.f k (l0.take (t135 : Int).toNat)).bind fun t140 => (if t135 ≤ (wrap64 ((l0.length : Int) - 1)) then (if (wrap64 ((l0.length : Int) - 1)) ≤ (l0.length : Int) then ((spec_l3Text.f k ((l0.take ((wrap64 ((l0.length : Int) - 1)) : Int).toNat).drop (t135 : Int).toNat)).bind fun t145 => (if ((rd_T54 l0 (wrap64 ((l0.length : Int) - 1))).f0) = 2 then (if 0 ≤ (wrap64 ((wrap64 ((l0.length : Int) - 1)) - 1)) then (if (wrap64 ((wrap64 ((l0.length : Int) - 1)) - 1)) < (l0.length : Int) then (if ((rd_T54 l0 (wrap64 ((wrap64 ((l0.length : Int) - 1)) - 1))).f0) = 2 then (if 1 + t145.size ≤ 9223372036854775807 then (if ((⟨#[40]⟩ : ByteArray) ++ t145).size + 1 ≤ 9223372036854775807 then (if t140.size + 1 ≤ 9223372036854775807 then (if (t140 ++ (⟨#[124]⟩ : ByteArray)).size + (((⟨#[40]⟩ : ByteArray) ++ t145) ++ (⟨#[41]⟩ : ByteArray)).size ≤ 9223372036854775807 then (some ((t140 ++ (⟨#[124]⟩ : ByteArray)) ++ (((⟨#[40]⟩ : ByteArray) ++ t145) ++ (⟨#[41]⟩ : ByteArray)))) else (none)) else (none)) else (none)) else (none)) else (if t140.size + 1 ≤ 9223372036854775807 then (if (t140 ++ (⟨#[124]⟩ : ByteArray)).size + t145.size ≤ 9223372036854775807 then (some ((t140 ++ (⟨#[124]⟩ : ByteArray)) ++ t145)) else (none)) else (none))) else (none)) else (none)) else (if 0 ≤ (wrap64 (t135 - 1)) then (if (wrap64 (t135 - 1)) < (l0.length : Int) then (if ((rd_T54 l0 (wrap64 (t135 - 1))).f0) = 2 then (if 1 + t140.size ≤ 9223372036854775807 then (if ((⟨#[40]⟩ : ByteArray) ++ t140).size + 1 ≤ 9223372036854775807 then (if 0 ≤ (wrap64 ((wrap64 ((l0.length : Int) - 1)) - 1)) then (if (wrap64 ((wrap64 ((l0.length : Int) - 1)) - 1)) < (l0.length : Int) then (if ((rd_T54 l0 (wrap64 ((wrap64 ((l0.length : Int) - 1)) - 1))).f0) = 0 then (if (((⟨#[40]⟩ : ByteArray) ++ t140) ++ (⟨#[41]⟩ : ByteArray)).size + 1 ≤ 9223372036854775807 then (if ((((⟨#[40]⟩ : ByteArray) ++ t140) ++ (⟨#[41]⟩ : ByteArray)) ++ (⟨#[38]⟩ : ByteArray)).size + t145.size ≤ 9223372036854775807 then (some (((((⟨#[40]⟩ : ByteArray) ++ t140) ++ (⟨#[41]⟩ : ByteArray)) ++ (⟨#[38]⟩ : ByteArray)) ++ t145)) else (none)) else (none)) else (if 1 + t145.size ≤ 9223372036854775807 then (if ((⟨#[40]⟩ : ByteArray) ++ t145).size + 1 ≤ 9223372036854775807 then (if (((⟨#[40]⟩ : ByteArray) ++ t140) ++ (⟨#[41]⟩ : ByteArray)).size + 1 ≤ 9223372036854775807 then (if ((((⟨#[40]⟩ : ByteArray) ++ t140) ++ (⟨#[41]⟩ : ByteArray)) ++ (⟨#[38]⟩ : ByteArray)).size + (((⟨#[40]⟩ : ByteArray) ++ t145) ++ (⟨#[41]⟩ : ByteArray)).size ≤ 9223372036854775807 then (some (((((⟨#[40]⟩ : ByteArray) ++ t140) ++ (⟨#[41]⟩ : ByteArray)) ++ (⟨#[38]⟩ : ByteArray)) ++ (((⟨#[40]⟩ : ByteArray) ++ t145) ++ (⟨#[41]⟩ : ByteArray)))) else (none)) else (none)) else (none)) else (none))) else (none)) else (none)) else (none)) else (none)) else (if 0 ≤ (wrap64 ((wrap64 ((l0.length : Int) - 1)) - 1)) then (if (wrap64 ((wrap64 ((l0.length : Int) - 1)) - 1)) < (l0.length : Int) then (if ((rd_T54 l0 (wrap64 ((wrap64 ((l0.length : Int) - 1)) - 1))).f0) = 0 then (if t140.size + 1 ≤ 9223372036854775807 then (if (t140 ++ (⟨#[38]⟩ : ByteArray)).size + t145.size ≤ 9223372036854775807 then (some ((t140 ++ (⟨#[38]⟩ : ByteArray)) ++ t145)) else (none)) else (none)) else (if 1 + t145.size ≤ 9223372036854775807 then (if ((⟨#[40]⟩ : ByteArray) ++ t145).size + 1 ≤ 9223372036854775807 then (if t140.size + 1 ≤ 9223372036854775807 then (if (t140 ++ (⟨#[38]⟩ : ByteArray)).size + (((⟨#[40]⟩ : ByteArray) ++ t145) ++ (⟨#[41]⟩ : ByteArray)).size ≤ 9223372036854775807 then (some ((t140 ++ (⟨#[38]⟩ : ByteArray)) ++ (((⟨#[40]⟩ : ByteArray) ++ t145) ++ (⟨#[41]⟩ : ByteArray)))) else (none)) else (none)) else (none)) else (none))) else (none)) else (none))) else (none)) else (none)))) else (none)) else (none))) else (none)) else (none)))) else (none)) else (none)) = some r := h; clear h; obtain ⟨ji2, hji2⟩ : ∃ j_ : Int, (wrap64 ((l0.length : Int) - 1)) = j_ := ⟨_, rfl⟩
 first | rw [hji2] at H | simp only [hji2] at H
 have hji2w : (IntKind.i64.wrap ((l0.length : Int) - 1)) = ji2 := (i64_w _).trans hji2
 by_cases c3 : 0 ≤ (ji2); rotate_left
 ·rw [if_neg c3] at H; exact absurd H (by simp)
 rw [if_pos c3] at H
 have c3b0 : decide (0 ≤ (ji2)) = true := decide_eq_true c3; clear c3
 by_cases c4 : (ji2) < (l0.length : Int); rotate_left
 ·rw [if_neg c4] at H; exact absurd H (by simp)
 rw [if_pos c4] at H
 have c4b0 : decide ((ji2) < (l0.length : Int)) = true := decide_eq_true c4; clear c4
 by_cases c5 : ((rd_T54 l0 (ji2)).f0) = 0
 ·rw [if_pos c5] at H
  have c5b0 : (((rd_T54 l0 (ji2)).f0) == 0) = true := beq_iff_eq.mpr c5; have c5b1 : (((rd_T54 l0 (ji2)).f0) != 0) = false := bne_eq_false_iff_eq.mpr c5; clear c5; obtain ⟨y130, hy130⟩ : ∃ y_ : List Int, y_ = (([(wrap64 (65 + ((rd_T54 l0 (ji2)).f1))) % 256] : List Int)) := ⟨_, rfl⟩
  rw [← hy130] at H; (try with_reducible replace H := hb_ H); (try dsimp only at H)
  have Ny130 := Aside0.mk hy130; clear hy130; replace H := Option.bind_eq_some_iff.mp H; obtain ⟨t134, A60, H⟩ := H
  try dsimp only at H
  have A6 := Aside0.mk A60; clear A60
  by_cases c7 : (strOfNums y130).size + t134.size ≤ 9223372036854775807; rotate_left
  ·rw [if_neg c7] at H; exact absurd H (by simp)
  rw [if_pos c7] at H
  have c7b0 := eq_true c7; have c7b1 : decide ((strOfNums y130).size + t134.size ≤ 9223372036854775807) = true := decide_eq_true c7
  try have c7b2 : (9223372036854775807 < (strOfNums y130).size + t134.size) = False := eq_false (Nat.not_lt.2 c7)
  obtain rfl := Option.some.inj H; have p128 : 0 ≤ ((ji2) : Int) := of_decide_eq_true as_; have q128 : (ji2) < (l0.length : Int) := of_decide_eq_true as_; obtain ⟨ad128, e128, hx128_0, hx128_1, hx128_2⟩ := at_T54 HR0.out (ji2) p128 q128; cases e128; replace p128 := eq_true p128; replace q128 := eq_true q128
  go_enter Tryd.func28, Tryd.ntmps28
  try go_wp2
  have n0_ := Aside0.mk (below_drew1 HB.out); clear HB; have HB := n0_; clear n0_; have p129 : 0 ≤ ((ji2) : Int) := of_decide_eq_true as_; have q129 : (ji2) < (l0.length : Int) := of_decide_eq_true as_; obtain ⟨ad129, e129, hx129_0, hx129_1, hx129_2⟩ := at_T54 HR0.out (ji2) p129 q129; have hw129_2 := hx129_2; have hw129_1 := hx129_1; have hw129_0 := hx129_0; obtain rfl : ad128 = ad129 := (by injection e129); replace hx129_0 := cx_ HB.out hx129_0; replace hx129_1 := cx_ HB.out hx129_1; replace hx129_2 := cx_ HB.out hx129_2; replace p129 := eq_true p129; replace q129 := eq_true q129; have p133 : 0 ≤ ((ji2) : Int) := of_decide_eq_true as_; have q133 : (ji2) < (l0.length : Int) := of_decide_eq_true as_; obtain ⟨ad133, e133, hx133_0, hx133_1, hx133_2⟩ := at_T54 HR0.out (ji2) p133 q133; have hw133_2 := hx133_2; have hw133_1 := hx133_1; have hw133_0 := hx133_0; obtain rfl : ad128 = ad133 := (by injection e133); replace hx133_0 := cx_ HB.out hx133_0; replace hx133_1 := cx_ HB.out hx133_1; replace hx133_2 := cx_ HB.out hx133_2; replace p133 := eq_true p133; replace q133 := eq_true q133
  refine start_ (n := 17) (S := fun w' => w'.cell? (ad128.add (((ji2)).toNat * 3)) = some (.int .i64 ((rd_T54 l0 (ji2)).f0)) ∧ w'.cell? ⟨(ad128.add (((ji2)).toNat * 3)).block, (ad128.add (((ji2)).toNat * 3)).off + 1, none⟩ = some (.int .i64 ((rd_T54 l0 (ji2)).f1)) ∧ w'.cell? ⟨(ad128.add (((ji2)).toNat * 3)).block, (ad128.add (((ji2)).toNat * 3)).off + 2, none⟩ = some (.int .i64 ((rd_T54 l0 (ji2)).f2)) ∧ w'.cell? (ad128.add (((ji2)).toNat * 3)) = some (.int .i64 ((rd_T54 l0 (ji2)).f0)) ∧ w'.cell? ⟨(ad128.add (((ji2)).toNat * 3)).block, (ad128.add (((ji2)).toNat * 3)).off + 1, none⟩ = some (.int .i64 ((rd_T54 l0 (ji2)).f1)) ∧ w'.cell? ⟨(ad128.add (((ji2)).toNat * 3)).block, (ad128.add (((ji2)).toNat * 3)).off + 2, none⟩ = some (.int .i64 ((rd_T54 l0 (ji2)).f2))) (ds := []) #[false, false, false, false, false, false, false, false, false, false, false, false, false, false, false, false, false] (by kernel_rfl) rfl rfl ⟨(cx_ HB.out hw129_0), (cx_ HB.out hw129_1), (cx_ HB.out hw129_2), (cx_ HB.out hw133_0), (cx_ HB.out hw133_1), (cx_ HB.out hw133_2)⟩ (fun hHeld => ?_); refine with_tabW spec_l3Text.tab3 spec_l3Text.bits3 (fun HT_ HW_ => ?_)
  generalize w.drew = w8 at HB hx129_0 hx129_1 hx129_2 hx133_0 hx133_1 hx133_2 hHeld ⊢
  refine pr_ HT_.out 0 (some 16) #[true, false, false, false, false, false, false, false, false, false, false, false, false, false, false, false, false] ?_
  refine pr_ HT_.out 1 (some 17) #[true, true, false, false, false, false, false, false, false, false, false, false, false, false, false, false, false] ?_
  refine pr_ HT_.out 2 (some 18) #[true, true, true, false, false, false, false, false, false, false, false, false, false, false, false, false, false] ?_
  refine pr_ HT_.out 3 (some 19) #[true, true, true, true, false, false, false, false, false, false, false, false, false, false, false, false, false] ?_
  refine pr_ HT_.out 9 (some 25) #[true, true, true, true, false, false, false, false, false, true, false, false, false, false, false, false, false] ?_
  refine pr_ HT_.out 10 (some 26) #[true, true, true, true, false, false, false, false, false, true, true, false, false, false, false, false, false] ?_
  refine pr_ HT_.out 11 (some 27) #[true, true, true, true, false, false, false, false, false, true, true, true, false, false, false, false, false] ?_
  refine pr_ HT_.out 12 (some 28) #[true, true, true, true, false, false, false, false, false, true, true, true, true, false, false, false, false] ?_
  refine tk_ HT_.out HW_.out hHeld 4 (some 20) #[true, true, true, true, true, false, false, false, false, true, true, true, true, false, false, false, false] ?_
  refine pr_ HT_.out 5 (some 21) #[true, true, true, true, true, true, false, false, false, true, true, true, true, false, false, false, false] ?_
  refine pr_ HT_.out 6 (some 22) #[true, true, true, true, true, true, true, false, false, true, true, true, true, false, false, false, false] ?_
  refine tk_ HT_.out HW_.out hHeld 13 (some 29) #[true, true, true, true, true, true, true, false, false, true, true, true, true, true, false, false, false] ?_
  refine join_ (σ := Value) 2 #[true, true, true, true, true, true, true, true, true, true, true, true, true, true, true, false, false] (fun s_ => [(23, s_), (24, .string (strOfNums y130)), (30, .string t134)]) (fun s_ w' => (w'.cell? (ad128.add (((ji2)).toNat * 3)) = some (.int .i64 ((rd_T54 l0 (ji2)).f0)) ∧ w'.cell? ⟨(ad128.add (((ji2)).toNat * 3)).block, (ad128.add (((ji2)).toNat * 3)).off + 1, none⟩ = some (.int .i64 ((rd_T54 l0 (ji2)).f1)) ∧ w'.cell? ⟨(ad128.add (((ji2)).toNat * 3)).block, (ad128.add (((ji2)).toNat * 3)).off + 2, none⟩ = some (.int .i64 ((rd_T54 l0 (ji2)).f2)) ∧ w'.cell? (ad128.add (((ji2)).toNat * 3)) = some (.int .i64 ((rd_T54 l0 (ji2)).f0)) ∧ w'.cell? ⟨(ad128.add (((ji2)).toNat * 3)).block, (ad128.add (((ji2)).toNat * 3)).off + 1, none⟩ = some (.int .i64 ((rd_T54 l0 (ji2)).f1)) ∧ w'.cell? ⟨(ad128.add (((ji2)).toNat * 3)).block, (ad128.add (((ji2)).toNat * 3)).off + 2, none⟩ = some (.int .i64 ((rd_T54 l0 (ji2)).f2))) ∧ (Kd.R (Kd.int .u8) 5 w' w.heap.size (fun _ => True) s_ y130) ∧ (Below w.heap.size w w')) ?_ ?_
  rotate_left
  ·intro hCont
   refine two_ (i := 7) (j := 14) (Ni := some 23) (Nj := some 30) #[true, true, true, true, true, true, true, true, false, true, true, true, true, true, false, false, false] #[true, true, true, true, true, true, true, false, false, true, true, true, true, true, true, false, false] rfl rfl rfl rfl (two_of HT_.out (by kernel_rfl)) (by decide) (by decide) (fun K hK => ?_) (fun K hK => ?_)
   ·skip
    refine Kd.R_lit_step (Kd.int .u8) _ 5 ?hg (N := 23) ?hd (xs := ([(wrap64 (65 + ((rd_T54 l0 (ji2)).f1))) % 256] : List Int)) (inner := [.int .u8 ((wrap64 (65 + ((rd_T54 l0 (ji2)).f1))) % 256)]) (ok := fun _ => True) (okp := fun _ => True) ?hr ?hp (fun _ hk => hk) trivial (Below.refl _ _) (Nat.le_refl _) (by simp) ?_; (case hd => rfl); (case hg => rfl); (case hr => first | (go_simp; done) | (go_simp; rfl)); (case hp => exact (Reps.one (show Kd.M (Kd.int .u8) _ _ _ ((wrap64 (65 + ((rd_T54 l0 (ji2)).f1))) % 256) [.int .u8 ((wrap64 (65 + ((rd_T54 l0 (ji2)).f1))) % 256)] from rfl) (Reps.none _ _)))
    intro v131 w9 ho10 hb hg_ hnew_; clear hg_ hnew_
    (first | rw [← Ny130.out] at ho10 | (simp only [Int.reduceToNat] at ho10; rw [← Ny130.out] at ho10))
    have n0_ := Aside0.mk (Kd.R_lower ho10 (below_size (bl_ HB.out))); have n1_ := Aside0.mk (below_step (bl_ HB.out) hb); clear HB; have HO132 := n0_; have HB := n1_; clear n0_ n1_ hb ho10
    refine hK.out _ _ ⟨(cx_ HB.out hw129_0), (cx_ HB.out hw129_1), (cx_ HB.out hw129_2), (cx_ HB.out hw133_0), (cx_ HB.out hw133_1), (cx_ HB.out hw133_2)⟩ (fun hHeld => ?_)
    clear hK K
    refine norm_ (a' := ?_) ?_ ?_
    rotate_left
    ·show Act.put _ (some 23) _ = _
     simp only [Act.put, List.setIfInBounds_toArray, List.set_cons_zero, List.set_cons_succ, i64_w, i32_w]
     rfl
    refine two_ (i := 8) (j := 14) (Ni := some 24) (Nj := some 30) #[true, true, true, true, true, true, true, true, true, true, true, true, true, true, false, false, false] #[true, true, true, true, true, true, true, true, false, true, true, true, true, true, true, false, false] rfl rfl rfl rfl (two_of HT_.out (by kernel_rfl)) (by decide) (by decide) (fun K hK => ?_) (fun K hK => ?_)
    ·skip
     have hcv11 := own_string (P := Tryd.prog) Tryd.underlying22 Tryd.underlying5 Tryd.underlying9 (Kd.own_of_R HO132.out)
     refine value_ (w1 := ?_) (v := ?_) (by rfl) rfl ?_ ?_
     rotate_left 2
     ·go_simp
      constructor
      ·rfl
      ·rfl
     clear hcv11
     refine hK.out _ _ ⟨(cx_ HB.out hw129_0), (cx_ HB.out hw129_1), (cx_ HB.out hw129_2), (cx_ HB.out hw133_0), (cx_ HB.out hw133_1), (cx_ HB.out hw133_2)⟩ (fun hHeld => ?_)
     clear hK K
     refine norm_ (a' := ?_) ?_ ?_
     rotate_left
     ·show Act.put _ (some 24) _ = _
      simp only [Act.put, List.setIfInBounds_toArray, List.set_cons_zero, List.set_cons_succ, i64_w, i32_w]
      rfl
     refine one_ (i := 14) (N := some 30) #[true, true, true, true, true, true, true, true, true, true, true, true, true, true, true, false, false] rfl rfl (one_of HT_.out (by kernel_rfl)) (by decide) (fun K hK => ?_)
     refine goes_ Tryd.func44 (by kernel_rfl) rfl #[.int .i64 ((rd_T54 l0 (ji2)).f2)] (by rfl) rfl rfl (by (try simp only [List.map_toArray, List.map_cons, List.map_nil]); first | done | (simp only [hji2]; rfl) | rfl | (simp only [List.length_drop, List.length_take]; rfl)) ?_
     with_reducible refine (spec_l1Number.calls k ((rd_T54 l0 (ji2)).f2) t134 _ A6.out).mono ?_
     rintro e w12 ⟨rfl, hb⟩
     refine ⟨_, rfl, ?_⟩
     have n0_ := Aside0.mk (Kd.R_below (r_ HO132.out) hb); have n1_ := Aside0.mk (below_step (bl_ HB.out) hb); clear HO132 HB; have HO132 := n0_; have HB := n1_; clear n0_ n1_
     (try clear hb)
     (try clear hb2)
     (try clear hk)
     (try clear hi)
     refine hK.out _ _ ⟨(cx_ HB.out hw129_0), (cx_ HB.out hw129_1), (cx_ HB.out hw129_2), (cx_ HB.out hw133_0), (cx_ HB.out hw133_1), (cx_ HB.out hw133_2)⟩ (fun hHeld => ?_)
     clear hK K
     refine norm_ (a' := ?_) ?_ ?_
     rotate_left
     ·show Act.put _ (some 30) _ = _
      simp only [Act.put, List.setIfInBounds_toArray, List.set_cons_zero, List.set_cons_succ, i64_w, i32_w]
      rfl
     exact norm_ (by simp only [putAll, Act.put, List.setIfInBounds_toArray, List.set_cons_zero, List.set_cons_succ]) (hCont (v131) _ ⟨hHeld, (r_ HO132.out), (bl_ HB.out)⟩)
    ·skip
     refine goes_ Tryd.func44 (by kernel_rfl) rfl #[.int .i64 ((rd_T54 l0 (ji2)).f2)] (by rfl) rfl rfl (by (try simp only [List.map_toArray, List.map_cons, List.map_nil]); first | done | (simp only [hji2]; rfl) | rfl | (simp only [List.length_drop, List.length_take]; rfl)) ?_
     with_reducible refine (spec_l1Number.calls k ((rd_T54 l0 (ji2)).f2) t134 _ A6.out).mono ?_
     rintro e w11 ⟨rfl, hb⟩
     refine ⟨_, rfl, ?_⟩
     have n0_ := Aside0.mk (Kd.R_below (r_ HO132.out) hb); have n1_ := Aside0.mk (below_step (bl_ HB.out) hb); clear HO132 HB; have HO132 := n0_; have HB := n1_; clear n0_ n1_
     (try clear hb)
     (try clear hb2)
     (try clear hk)
     (try clear hi)
     refine hK.out _ _ ⟨(cx_ HB.out hw129_0), (cx_ HB.out hw129_1), (cx_ HB.out hw129_2), (cx_ HB.out hw133_0), (cx_ HB.out hw133_1), (cx_ HB.out hw133_2)⟩ (fun hHeld => ?_)
     clear hK K
     refine norm_ (a' := ?_) ?_ ?_
     rotate_left
     ·show Act.put _ (some 30) _ = _
      simp only [Act.put, List.setIfInBounds_toArray, List.set_cons_zero, List.set_cons_succ, i64_w, i32_w]
      rfl
     refine one_ (i := 8) (N := some 24) #[true, true, true, true, true, true, true, true, true, true, true, true, true, true, true, false, false] rfl rfl (one_of HT_.out (by kernel_rfl)) (by decide) (fun K hK => ?_)
     have hcv12 := own_string (P := Tryd.prog) Tryd.underlying22 Tryd.underlying5 Tryd.underlying9 (Kd.own_of_R HO132.out)
     refine value_ (w1 := ?_) (v := ?_) (by rfl) rfl ?_ ?_
     rotate_left 2
     ·go_simp
      constructor
      ·rfl
      ·rfl
     clear hcv12
     refine hK.out _ _ ⟨(cx_ HB.out hw129_0), (cx_ HB.out hw129_1), (cx_ HB.out hw129_2), (cx_ HB.out hw133_0), (cx_ HB.out hw133_1), (cx_ HB.out hw133_2)⟩ (fun hHeld => ?_)
     clear hK K
     refine norm_ (a' := ?_) ?_ ?_
     rotate_left
     ·show Act.put _ (some 24) _ = _
      simp only [Act.put, List.setIfInBounds_toArray, List.set_cons_zero, List.set_cons_succ, i64_w, i32_w]
      rfl
     exact norm_ (by simp only [putAll, Act.put, List.setIfInBounds_toArray, List.set_cons_zero, List.set_cons_succ]) (hCont (v131) _ ⟨hHeld, (r_ HO132.out), (bl_ HB.out)⟩)
   ·skip
    refine goes_ Tryd.func44 (by kernel_rfl) rfl #[.int .i64 ((rd_T54 l0 (ji2)).f2)] (by rfl) rfl rfl (by (try simp only [List.map_toArray, List.map_cons, List.map_nil]); first | done | (simp only [hji2]; rfl) | rfl | (simp only [List.length_drop, List.length_take]; rfl)) ?_
    with_reducible refine (spec_l1Number.calls k ((rd_T54 l0 (ji2)).f2) t134 _ A6.out).mono ?_
    rintro e w9 ⟨rfl, hb⟩
    refine ⟨_, rfl, ?_⟩
    have n0_ := Aside0.mk (below_step (bl_ HB.out) hb); clear HB; have HB := n0_; clear n0_
    (try clear hb)
    (try clear hb2)
    (try clear hk)
    (try clear hi)
    refine hK.out _ _ ⟨(cx_ HB.out hw129_0), (cx_ HB.out hw129_1), (cx_ HB.out hw129_2), (cx_ HB.out hw133_0), (cx_ HB.out hw133_1), (cx_ HB.out hw133_2)⟩ (fun hHeld => ?_)
    clear hK K
    refine norm_ (a' := ?_) ?_ ?_
    rotate_left
    ·show Act.put _ (some 30) _ = _
     simp only [Act.put, List.setIfInBounds_toArray, List.set_cons_zero, List.set_cons_succ, i64_w, i32_w]
     rfl
    refine one_ (i := 7) (N := some 23) #[true, true, true, true, true, true, true, true, false, true, true, true, true, true, true, false, false] rfl rfl (one_of HT_.out (by kernel_rfl)) (by decide) (fun K hK => ?_)
    refine Kd.R_lit_step (Kd.int .u8) _ 5 ?hg (N := 23) ?hd (xs := ([(wrap64 (65 + ((rd_T54 l0 (ji2)).f1))) % 256] : List Int)) (inner := [.int .u8 ((wrap64 (65 + ((rd_T54 l0 (ji2)).f1))) % 256)]) (ok := fun _ => True) (okp := fun _ => True) ?hr ?hp (fun _ hk => hk) trivial (Below.refl _ _) (Nat.le_refl _) (by simp) ?_; (case hd => rfl); (case hg => rfl); (case hr => first | (go_simp; done) | (go_simp; rfl)); (case hp => exact (Reps.one (show Kd.M (Kd.int .u8) _ _ _ ((wrap64 (65 + ((rd_T54 l0 (ji2)).f1))) % 256) [.int .u8 ((wrap64 (65 + ((rd_T54 l0 (ji2)).f1))) % 256)] from rfl) (Reps.none _ _)))
    intro v131 w10 ho11 hb hg_ hnew_; clear hg_ hnew_
    (first | rw [← Ny130.out] at ho11 | (simp only [Int.reduceToNat] at ho11; rw [← Ny130.out] at ho11))
    have n0_ := Aside0.mk (Kd.R_lower ho11 (below_size (bl_ HB.out))); have n1_ := Aside0.mk (below_step (bl_ HB.out) hb); clear HB; have HO132 := n0_; have HB := n1_; clear n0_ n1_ hb ho11
    refine hK.out _ _ ⟨(cx_ HB.out hw129_0), (cx_ HB.out hw129_1), (cx_ HB.out hw129_2), (cx_ HB.out hw133_0), (cx_ HB.out hw133_1), (cx_ HB.out hw133_2)⟩ (fun hHeld => ?_)
    clear hK K
    refine norm_ (a' := ?_) ?_ ?_
    rotate_left
    ·show Act.put _ (some 23) _ = _
     simp only [Act.put, List.setIfInBounds_toArray, List.set_cons_zero, List.set_cons_succ, i64_w, i32_w]
     rfl
    refine one_ (i := 8) (N := some 24) #[true, true, true, true, true, true, true, true, true, true, true, true, true, true, true, false, false] rfl rfl (one_of HT_.out (by kernel_rfl)) (by decide) (fun K hK => ?_)
    have hcv12 := own_string (P := Tryd.prog) Tryd.underlying22 Tryd.underlying5 Tryd.underlying9 (Kd.own_of_R HO132.out)
    refine value_ (w1 := ?_) (v := ?_) (by rfl) rfl ?_ ?_
    rotate_left 2
    ·go_simp
     constructor
     ·rfl
     ·rfl
    clear hcv12
    refine hK.out _ _ ⟨(cx_ HB.out hw129_0), (cx_ HB.out hw129_1), (cx_ HB.out hw129_2), (cx_ HB.out hw133_0), (cx_ HB.out hw133_1), (cx_ HB.out hw133_2)⟩ (fun hHeld => ?_)
    clear hK K
    refine norm_ (a' := ?_) ?_ ?_
    rotate_left
    ·show Act.put _ (some 24) _ = _
     simp only [Act.put, List.setIfInBounds_toArray, List.set_cons_zero, List.set_cons_succ, i64_w, i32_w]
     rfl
    exact norm_ (by simp only [putAll, Act.put, List.setIfInBounds_toArray, List.set_cons_zero, List.set_cons_succ]) (hCont (v131) _ ⟨hHeld, (r_ HO132.out), (bl_ HB.out)⟩)
  rintro v131 w13 ⟨hS_, h0_, h1_⟩; have n0_ : Aside0 (Kd.R (Kd.int .u8) 5 w13 w.heap.size (fun _ => True) v131 y130) := ⟨h0_⟩; have n1_ : Aside0 (Below w.heap.size w w13) := ⟨h1_⟩; clear HB h0_ h1_; have HO132 := n0_; have HB := n1_; clear n0_ n1_; have hHeld : w13.cell? (ad128.add (((ji2)).toNat * 3)) = some (.int .i64 ((rd_T54 l0 (ji2)).f0)) ∧ w13.cell? ⟨(ad128.add (((ji2)).toNat * 3)).block, (ad128.add (((ji2)).toNat * 3)).off + 1, none⟩ = some (.int .i64 ((rd_T54 l0 (ji2)).f1)) ∧ w13.cell? ⟨(ad128.add (((ji2)).toNat * 3)).block, (ad128.add (((ji2)).toNat * 3)).off + 2, none⟩ = some (.int .i64 ((rd_T54 l0 (ji2)).f2)) ∧ w13.cell? (ad128.add (((ji2)).toNat * 3)) = some (.int .i64 ((rd_T54 l0 (ji2)).f0)) ∧ w13.cell? ⟨(ad128.add (((ji2)).toNat * 3)).block, (ad128.add (((ji2)).toNat * 3)).off + 1, none⟩ = some (.int .i64 ((rd_T54 l0 (ji2)).f1)) ∧ w13.cell? ⟨(ad128.add (((ji2)).toNat * 3)).block, (ad128.add (((ji2)).toNat * 3)).off + 2, none⟩ = some (.int .i64 ((rd_T54 l0 (ji2)).f2)) := hS_
  refine norm_ (a' := ?_) ?_ ?_
  rotate_left
  ·simp only [putAll, Act.put, List.setIfInBounds_toArray, List.set_cons_zero, List.set_cons_succ]
   rfl
  refine pr_ HT_.out 15 (some 31) #[true, true, true, true, true, true, true, true, true, true, true, true, true, true, true, true, false] ?_
  refine pr_ HT_.out 16 (some 2) #[true, true, true, true, true, true, true, true, true, true, true, true, true, true, true, true, true] ?_
  refine done_ (done_of HT_.out (by kernel_rfl)) ?_
  try go_wp2
  go_ret
  exact ⟨by first | rfl | (simp [errW_none, errW_some] <;> rfl) | (simp only [← hji2]; first | rfl | (simp [errW_none, errW_some] <;> rfl)) | (simp [*, errW_none, errW_some] <;> rfl), bl_ HB.out⟩
 ·rw [if_neg c5] at H
  have c5b0 : (((rd_T54 l0 (ji2)).f0) == 0) = false := beq_eq_false_iff_ne.mpr c5; have c5b1 : (((rd_T54 l0 (ji2)).f0) != 0) = true := bne_iff_ne.mpr c5; replace H := Option.bind_eq_some_iff.mp H; obtain ⟨t135, A140, H⟩ := H
  try dsimp only at H
  have A14 := Aside0.mk A140; clear A140
  by_cases c15 : 0 ≤ t135; rotate_left
  ·rw [if_neg c15] at H; exact absurd H (by simp)
  rw [if_pos c15] at H
  have c15b0 := eq_true c15; have c15b1 : decide (0 ≤ t135) = true := decide_eq_true c15; clear c15
  by_cases c16 : t135 ≤ (l0.length : Int); rotate_left
  ·rw [if_neg c16] at H; exact absurd H (by simp)
  rw [if_pos c16] at H
  have c16b0 := eq_true c16; have c16b1 : decide (t135 ≤ (l0.length : Int)) = true := decide_eq_true c16; clear c16; obtain ⟨y136, hy136⟩ : ∃ y_ : List (S54), y_ = (l0.take (t135 : Int).toNat) := ⟨_, rfl⟩
  rw [← hy136] at H; (try with_reducible replace H := hb_ H); (try dsimp only at H)
  have Ny136 := Aside0.mk hy136; clear hy136; replace H := Option.bind_eq_some_iff.mp H; obtain ⟨t140, A170, H⟩ := H
  try dsimp only at H
  have A17 := Aside0.mk A170; clear A170; have c18b0 := eq_true (of_decide_eq_true as_ : 0 ≤ t135)
  by_cases c19 : t135 ≤ (ji2); rotate_left
  ·rw [if_neg c19] at H; exact absurd H (by simp)
  rw [if_pos c19] at H
  have c19b0 := eq_true c19; have c19b1 : decide (t135 ≤ (ji2)) = true := decide_eq_true c19; clear c19
  by_cases c20 : (ji2) ≤ (l0.length : Int); rotate_left
  ·rw [if_neg c20] at H; exact absurd H (by simp)
  rw [if_pos c20] at H
  have c20b0 := eq_true c20; have c20b1 : decide ((ji2) ≤ (l0.length : Int)) = true := decide_eq_true c20; clear c20; obtain ⟨y141, hy141⟩ : ∃ y_ : List (S54), y_ = ((l0.take ((ji2) : Int).toNat).drop (t135 : Int).toNat) := ⟨_, rfl⟩
  rw [← hy141] at H; (try with_reducible replace H := hb_ H); (try dsimp only at H)
  have Ny141 := Aside0.mk hy141; clear hy141; replace H := Option.bind_eq_some_iff.mp H; obtain ⟨t145, A210, H⟩ := H
  try dsimp only at H
  have A21 := Aside0.mk A210; clear A210
  by_cases c22 : ((rd_T54 l0 (ji2)).f0) = 2
  ·rw [if_pos c22] at H
   have c22b0 : (((rd_T54 l0 (ji2)).f0) == 2) = true := beq_iff_eq.mpr c22; have c22b1 : (((rd_T54 l0 (ji2)).f0) != 2) = false := bne_eq_false_iff_eq.mpr c22; clear c22; obtain ⟨ji23, hji23⟩ : ∃ j_ : Int, (wrap64 ((ji2) - 1)) = j_ := ⟨_, rfl⟩
   first | rw [hji23] at H | simp only [hji23] at H
   (try rw [hji23] at A14)
   (try rw [hji23] at A17)
   (try rw [hji23] at A21)
   have hji23w : (IntKind.i64.wrap ((ji2) - 1)) = ji23 := (i64_w _).trans hji23
   by_cases c24 : 0 ≤ (ji23); rotate_left
   ·rw [if_neg c24] at H; exact absurd H (by simp)
   rw [if_pos c24] at H
   have c24b0 : decide (0 ≤ (ji23)) = true := decide_eq_true c24; clear c24
   by_cases c25 : (ji23) < (l0.length : Int); rotate_left
   ·rw [if_neg c25] at H; exact absurd H (by simp)
   rw [if_pos c25] at H
   have c25b0 : decide ((ji23) < (l0.length : Int)) = true := decide_eq_true c25; clear c25
   by_cases c26 : ((rd_T54 l0 (ji23)).f0) = 2
   ·rw [if_pos c26] at H
    have c26b0 : (((rd_T54 l0 (ji23)).f0) == 2) = true := beq_iff_eq.mpr c26; have c26b1 : (((rd_T54 l0 (ji23)).f0) != 2) = false := bne_eq_false_iff_eq.mpr c26; clear c26
    by_cases c27 : 1 + t145.size ≤ 9223372036854775807; rotate_left
    ·rw [if_neg c27] at H; exact absurd H (by simp)
    rw [if_pos c27] at H
    have c27b0 := eq_true c27; have c27b1 : decide (1 + t145.size ≤ 9223372036854775807) = true := decide_eq_true c27
    try have c27b2 : (9223372036854775807 < 1 + t145.size) = False := eq_false (Nat.not_lt.2 c27)
    by_cases c28 : ((⟨#[40]⟩ : ByteArray) ++ t145).size + 1 ≤ 9223372036854775807; rotate_left
    ·rw [if_neg c28] at H; exact absurd H (by simp)
    rw [if_pos c28] at H
    have c28b0 := eq_true c28; have c28b1 : decide (((⟨#[40]⟩ : ByteArray) ++ t145).size + 1 ≤ 9223372036854775807) = true := decide_eq_true c28
    try have c28b2 : (9223372036854775807 < ((⟨#[40]⟩ : ByteArray) ++ t145).size + 1) = False := eq_false (Nat.not_lt.2 c28)
    try have c28b3 : (9223372036854775807 < 1 + t145.size + 1) = False := eq_false (Nat.not_lt.2 (by have h_ := c28; simp only [ByteArray.size_append] at h_; exact h_))
    try have c28b4 : (1 + t145.size + 1 ≤ 9223372036854775807) = True := eq_true (by have h_ := c28; simp only [ByteArray.size_append] at h_; exact h_)
    by_cases c29 : t140.size + 1 ≤ 9223372036854775807; rotate_left
    ·rw [if_neg c29] at H; exact absurd H (by simp)
    rw [if_pos c29] at H
    have c29b0 := eq_true c29; have c29b1 : decide (t140.size + 1 ≤ 9223372036854775807) = true := decide_eq_true c29
    try have c29b2 : (9223372036854775807 < t140.size + 1) = False := eq_false (Nat.not_lt.2 c29)
    by_cases c30 : (t140 ++ (⟨#[124]⟩ : ByteArray)).size + (((⟨#[40]⟩ : ByteArray) ++ t145) ++ (⟨#[41]⟩ : ByteArray)).size ≤ 9223372036854775807; rotate_left
    ·rw [if_neg c30] at H; exact absurd H (by simp)
    rw [if_pos c30] at H
    have c30b0 := eq_true c30; have c30b1 : decide ((t140 ++ (⟨#[124]⟩ : ByteArray)).size + (((⟨#[40]⟩ : ByteArray) ++ t145) ++ (⟨#[41]⟩ : ByteArray)).size ≤ 9223372036854775807) = true := decide_eq_true c30
    try have c30b2 : (9223372036854775807 < (t140 ++ (⟨#[124]⟩ : ByteArray)).size + (((⟨#[40]⟩ : ByteArray) ++ t145) ++ (⟨#[41]⟩ : ByteArray)).size) = False := eq_false (Nat.not_lt.2 c30)
    try have c30b3 : (9223372036854775807 < t140.size + 1 + (1 + t145.size + 1)) = False := eq_false (Nat.not_lt.2 (by have h_ := c30; simp only [ByteArray.size_append] at h_; exact h_))
    try have c30b4 : (t140.size + 1 + (1 + t145.size + 1) ≤ 9223372036854775807) = True := eq_true (by have h_ := c30; simp only [ByteArray.size_append] at h_; exact h_)
    obtain rfl := Option.some.inj H; have p128 : 0 ≤ ((ji2) : Int) := of_decide_eq_true as_; have q128 : (ji2) < (l0.length : Int) := of_decide_eq_true as_; obtain ⟨ad128, e128, hx128_0, hx128_1, hx128_2⟩ := at_T54 HR0.out (ji2) p128 q128; cases e128; replace p128 := eq_true p128; replace q128 := eq_true q128
    go_enter Tryd.func28, Tryd.ntmps28
    go_wp2_with (first | ((with_reducible refine gate_callee (f := 45) rfl ?_); refine goesL_ (some 35) rfl rfl Tryd.func45 (by kernel_rfl) rfl #[.slice (some ad128) l0.length c0, .int .i64 ji23] rfl (by (try simp only [List.map_toArray, List.map_cons, List.map_nil]); first | done | (simp only [hji23]; rfl) | rfl | (simp only [List.length_drop, List.length_take]; rfl)) ?_; (with_reducible refine (spec_l3Starts.calls k _ _ l0 ji23 t135 _ ?side1 ?side2 A14.out).mono ?_); (case side1 => exact cs_ HR0.out); (case side2 => exact HC0.out); rintro e w' ⟨rfl, ⟨nd, rfl⟩⟩; refine ⟨_, rfl, ?_⟩; have q31 : (t135 : Int) ≤ ((l0.length : Int) : Int) := of_decide_eq_true as_; obtain ⟨i031, hi031, _, hsz31, _⟩ := info_parts info54; have hroom31 : l0.length ≤ c0 := HC0.out; have hC31 : Kd.C k54 _ (some ad128) l0.length l0 := HR0.out; have hcut31 := cut_to (P := Tryd.prog) 28 54 .i64 Tryd.underlying28 hi031 (some ad128) l0.length c0 t135 (of_decide_eq_true as_) q31 hroom31; have hr31 := Kd.C_take (m := (t135 : Int).toNat) hC31 (by omega); have hy31 : y136.length = (t135 : Int).toNat := (by rw [Ny136.out, List.length_take]; omega); rw [← Ny136.out] at hr31; rw [← hy31] at hcut31; have HR139 := Aside0.mk hr31; have HC139 := Aside0.mk (show y136.length ≤ c0 from by omega); clear hr31 hC31 hroom31 hi031 hsz31; have KY31 := Aside0.mk hy31; clear hy31; replace q31 := eq_true q31) | ((with_reducible refine gate_callee (f := 28) rfl ?_); refine goesL_ (some 39) rfl rfl Tryd.func28 (by kernel_rfl) rfl #[.slice (some ad128) y136.length c0] rfl ga_ ?_; (with_reducible refine (ih k (by omega) _ _ y136 t140 _ ?side1 ?side2 A17.out).mono ?_); (case side1 => exact cs_ HR139.out); (case side2 => exact HC139.out); rintro e w32 ⟨rfl, hb⟩; refine ⟨_, rfl, ?_⟩; have n0_ := Aside0.mk (below_step (bl_ HB.out) hb); clear HB; have HB := n0_; clear n0_; (try clear hb); (try clear hb2); (try clear hk); (try clear hi); have q33 : ((ji2) : Int) ≤ ((l0.length : Int) : Int) := of_decide_eq_true as_; obtain ⟨i033, hi033, _, hsz33, _⟩ := info_parts info54; have hroom33 : l0.length ≤ c0 := HC0.out; have hC33 : Kd.C k54 _ (some ad128) l0.length l0 := HR0.out; have ql33 : (t135 : Int) ≤ ((ji2) : Int) := of_decide_eq_true as_; have q033 : (0 : Int) ≤ (t135 : Int) := of_decide_eq_true as_; have hcut33 := cut_mid (P := Tryd.prog) 28 54 .i64 .i64 Tryd.underlying28 hi033 3 hsz33 (some ad128) l0.length c0 t135 (ji2) q033 ql33 q33 hroom33; have hr33 := Kd.C_mid (lo := (t135 : Int).toNat) (hi := ((ji2) : Int).toNat) (c := c0) hC33 (by omega) (by omega) hroom33; obtain ⟨A33, hA33⟩ : ∃ aa_, aa_ = (if c0 = (t135 : Int).toNat then (some ad128) else ((some ad128) : Option Addr).map (·.add ((t135 : Int).toNat * 3))) := ⟨_, rfl⟩; obtain ⟨c33, hc33⟩ : ∃ c1, c1 = c0 - (t135 : Int).toNat := ⟨_, rfl⟩; have hy33 : y141.length = ((ji2) : Int).toNat - (t135 : Int).toNat := (by rw [Ny141.out, List.length_drop, List.length_take] <;> omega); rw [show ((l0).take ((ji2) : Int).toNat).drop (t135 : Int).toNat = y141 from Ny141.out.symm] at hr33; replace hr33 : Kd.C k54 _ A33 y141.length y141 := (by rw [hA33]; exact hr33); rw [← hy33, ← hA33, ← hc33] at hcut33; have HR144 := Aside0.mk hr33; have HC144 := Aside0.mk (show y141.length ≤ c33 from by rw [hy33, hc33]; exact Nat.sub_le_sub_right (Nat.le_trans (by omega) hroom33) _); clear hr33 hC33 hroom33 hi033 hsz33 hc33; have KY33 := Aside0.mk hy33; have KA33 := Aside0.mk hA33; clear hy33 hA33; replace q33 := eq_true q33) | ((with_reducible refine gate_callee (f := 28) rfl ?_); refine goesL_ (some 44) rfl rfl Tryd.func28 (by kernel_rfl) rfl #[.slice A33 y141.length c33] rfl ga_ ?_; (with_reducible refine (ih k (by omega) _ _ y141 t145 _ ?side1 ?side2 A21.out).mono ?_); (case side1 => exact cs_ (Kd.C_below HR144.out HB.out)); (case side2 => exact HC144.out); rintro e w34 ⟨rfl, hb⟩; refine ⟨_, rfl, ?_⟩; have n0_ := Aside0.mk (below_step (bl_ HB.out) hb); clear HB; have HB := n0_; clear n0_; (try clear hb); (try clear hb2); (try clear hk); (try clear hi); have p146 : 0 ≤ ((ji2) : Int) := of_decide_eq_true as_; have q146 : (ji2) < (l0.length : Int) := of_decide_eq_true as_; obtain ⟨ad146, e146, hx146_0, hx146_1, hx146_2⟩ := at_T54 HR0.out (ji2) p146 q146; obtain rfl : ad128 = ad146 := (by injection e146); replace hx146_0 := cx_ HB.out hx146_0; replace hx146_1 := cx_ HB.out hx146_1; replace hx146_2 := cx_ HB.out hx146_2; replace p146 := eq_true p146; replace q146 := eq_true q146; have p147 : 0 ≤ ((ji23) : Int) := of_decide_eq_true as_; have q147 : (ji23) < (l0.length : Int) := of_decide_eq_true as_; obtain ⟨ad147, e147, hx147_0, hx147_1, hx147_2⟩ := at_T54 HR0.out (ji23) p147 q147; obtain rfl : ad128 = ad147 := (by injection e147); replace hx147_0 := cx_ HB.out hx147_0; replace hx147_1 := cx_ HB.out hx147_1; replace hx147_2 := cx_ HB.out hx147_2; replace p147 := eq_true p147; replace q147 := eq_true q147))
    go_ret
    exact ⟨by first | rfl | (simp [errW_none, errW_some] <;> rfl) | (simp only [← hji2, ← hji23]; first | rfl | (simp [errW_none, errW_some] <;> rfl)) | (simp [*, errW_none, errW_some] <;> rfl), bl_ HB.out⟩
   ·rw [if_neg c26] at H
    have c26b0 : (((rd_T54 l0 (ji23)).f0) == 2) = false := beq_eq_false_iff_ne.mpr c26; have c26b1 : (((rd_T54 l0 (ji23)).f0) != 2) = true := bne_iff_ne.mpr c26
    by_cases c35 : t140.size + 1 ≤ 9223372036854775807; rotate_left
    ·rw [if_neg c35] at H; exact absurd H (by simp)
    rw [if_pos c35] at H
    have c35b0 := eq_true c35; have c35b1 : decide (t140.size + 1 ≤ 9223372036854775807) = true := decide_eq_true c35
    try have c35b2 : (9223372036854775807 < t140.size + 1) = False := eq_false (Nat.not_lt.2 c35)
    by_cases c36 : (t140 ++ (⟨#[124]⟩ : ByteArray)).size + t145.size ≤ 9223372036854775807; rotate_left
    ·rw [if_neg c36] at H; exact absurd H (by simp)
    rw [if_pos c36] at H
    have c36b0 := eq_true c36; have c36b1 : decide ((t140 ++ (⟨#[124]⟩ : ByteArray)).size + t145.size ≤ 9223372036854775807) = true := decide_eq_true c36
    try have c36b2 : (9223372036854775807 < (t140 ++ (⟨#[124]⟩ : ByteArray)).size + t145.size) = False := eq_false (Nat.not_lt.2 c36)
    try have c36b3 : (9223372036854775807 < t140.size + 1 + t145.size) = False := eq_false (Nat.not_lt.2 (by have h_ := c36; simp only [ByteArray.size_append] at h_; exact h_))
    try have c36b4 : (t140.size + 1 + t145.size ≤ 9223372036854775807) = True := eq_true (by have h_ := c36; simp only [ByteArray.size_append] at h_; exact h_)
    obtain rfl := Option.some.inj H; have p128 : 0 ≤ ((ji2) : Int) := of_decide_eq_true as_; have q128 : (ji2) < (l0.length : Int) := of_decide_eq_true as_; obtain ⟨ad128, e128, hx128_0, hx128_1, hx128_2⟩ := at_T54 HR0.out (ji2) p128 q128; cases e128; replace p128 := eq_true p128; replace q128 := eq_true q128
    go_enter Tryd.func28, Tryd.ntmps28
    go_wp2_with (first | ((with_reducible refine gate_callee (f := 45) rfl ?_); refine goesL_ (some 35) rfl rfl Tryd.func45 (by kernel_rfl) rfl #[.slice (some ad128) l0.length c0, .int .i64 ji23] rfl (by (try simp only [List.map_toArray, List.map_cons, List.map_nil]); first | done | (simp only [hji23]; rfl) | rfl | (simp only [List.length_drop, List.length_take]; rfl)) ?_; (with_reducible refine (spec_l3Starts.calls k _ _ l0 ji23 t135 _ ?side1 ?side2 A14.out).mono ?_); (case side1 => exact cs_ HR0.out); (case side2 => exact HC0.out); rintro e w' ⟨rfl, ⟨nd, rfl⟩⟩; refine ⟨_, rfl, ?_⟩; have q37 : (t135 : Int) ≤ ((l0.length : Int) : Int) := of_decide_eq_true as_; obtain ⟨i037, hi037, _, hsz37, _⟩ := info_parts info54; have hroom37 : l0.length ≤ c0 := HC0.out; have hC37 : Kd.C k54 _ (some ad128) l0.length l0 := HR0.out; have hcut37 := cut_to (P := Tryd.prog) 28 54 .i64 Tryd.underlying28 hi037 (some ad128) l0.length c0 t135 (of_decide_eq_true as_) q37 hroom37; have hr37 := Kd.C_take (m := (t135 : Int).toNat) hC37 (by omega); have hy37 : y136.length = (t135 : Int).toNat := (by rw [Ny136.out, List.length_take]; omega); rw [← Ny136.out] at hr37; rw [← hy37] at hcut37; have HR139 := Aside0.mk hr37; have HC139 := Aside0.mk (show y136.length ≤ c0 from by omega); clear hr37 hC37 hroom37 hi037 hsz37; have KY37 := Aside0.mk hy37; clear hy37; replace q37 := eq_true q37) | ((with_reducible refine gate_callee (f := 28) rfl ?_); refine goesL_ (some 39) rfl rfl Tryd.func28 (by kernel_rfl) rfl #[.slice (some ad128) y136.length c0] rfl ga_ ?_; (with_reducible refine (ih k (by omega) _ _ y136 t140 _ ?side1 ?side2 A17.out).mono ?_); (case side1 => exact cs_ HR139.out); (case side2 => exact HC139.out); rintro e w38 ⟨rfl, hb⟩; refine ⟨_, rfl, ?_⟩; have n0_ := Aside0.mk (below_step (bl_ HB.out) hb); clear HB; have HB := n0_; clear n0_; (try clear hb); (try clear hb2); (try clear hk); (try clear hi); have q39 : ((ji2) : Int) ≤ ((l0.length : Int) : Int) := of_decide_eq_true as_; obtain ⟨i039, hi039, _, hsz39, _⟩ := info_parts info54; have hroom39 : l0.length ≤ c0 := HC0.out; have hC39 : Kd.C k54 _ (some ad128) l0.length l0 := HR0.out; have ql39 : (t135 : Int) ≤ ((ji2) : Int) := of_decide_eq_true as_; have q039 : (0 : Int) ≤ (t135 : Int) := of_decide_eq_true as_; have hcut39 := cut_mid (P := Tryd.prog) 28 54 .i64 .i64 Tryd.underlying28 hi039 3 hsz39 (some ad128) l0.length c0 t135 (ji2) q039 ql39 q39 hroom39; have hr39 := Kd.C_mid (lo := (t135 : Int).toNat) (hi := ((ji2) : Int).toNat) (c := c0) hC39 (by omega) (by omega) hroom39; obtain ⟨A39, hA39⟩ : ∃ aa_, aa_ = (if c0 = (t135 : Int).toNat then (some ad128) else ((some ad128) : Option Addr).map (·.add ((t135 : Int).toNat * 3))) := ⟨_, rfl⟩; obtain ⟨c39, hc39⟩ : ∃ c1, c1 = c0 - (t135 : Int).toNat := ⟨_, rfl⟩; have hy39 : y141.length = ((ji2) : Int).toNat - (t135 : Int).toNat := (by rw [Ny141.out, List.length_drop, List.length_take] <;> omega); rw [show ((l0).take ((ji2) : Int).toNat).drop (t135 : Int).toNat = y141 from Ny141.out.symm] at hr39; replace hr39 : Kd.C k54 _ A39 y141.length y141 := (by rw [hA39]; exact hr39); rw [← hy39, ← hA39, ← hc39] at hcut39; have HR144 := Aside0.mk hr39; have HC144 := Aside0.mk (show y141.length ≤ c39 from by rw [hy39, hc39]; exact Nat.sub_le_sub_right (Nat.le_trans (by omega) hroom39) _); clear hr39 hC39 hroom39 hi039 hsz39 hc39; have KY39 := Aside0.mk hy39; have KA39 := Aside0.mk hA39; clear hy39 hA39; replace q39 := eq_true q39) | ((with_reducible refine gate_callee (f := 28) rfl ?_); refine goesL_ (some 44) rfl rfl Tryd.func28 (by kernel_rfl) rfl #[.slice A39 y141.length c39] rfl ga_ ?_; (with_reducible refine (ih k (by omega) _ _ y141 t145 _ ?side1 ?side2 A21.out).mono ?_); (case side1 => exact cs_ (Kd.C_below HR144.out HB.out)); (case side2 => exact HC144.out); rintro e w40 ⟨rfl, hb⟩; refine ⟨_, rfl, ?_⟩; have n0_ := Aside0.mk (below_step (bl_ HB.out) hb); clear HB; have HB := n0_; clear n0_; (try clear hb); (try clear hb2); (try clear hk); (try clear hi); have p146 : 0 ≤ ((ji2) : Int) := of_decide_eq_true as_; have q146 : (ji2) < (l0.length : Int) := of_decide_eq_true as_; obtain ⟨ad146, e146, hx146_0, hx146_1, hx146_2⟩ := at_T54 HR0.out (ji2) p146 q146; obtain rfl : ad128 = ad146 := (by injection e146); replace hx146_0 := cx_ HB.out hx146_0; replace hx146_1 := cx_ HB.out hx146_1; replace hx146_2 := cx_ HB.out hx146_2; replace p146 := eq_true p146; replace q146 := eq_true q146; have p147 : 0 ≤ ((ji23) : Int) := of_decide_eq_true as_; have q147 : (ji23) < (l0.length : Int) := of_decide_eq_true as_; obtain ⟨ad147, e147, hx147_0, hx147_1, hx147_2⟩ := at_T54 HR0.out (ji23) p147 q147; obtain rfl : ad128 = ad147 := (by injection e147); replace hx147_0 := cx_ HB.out hx147_0; replace hx147_1 := cx_ HB.out hx147_1; replace hx147_2 := cx_ HB.out hx147_2; replace p147 := eq_true p147; replace q147 := eq_true q147))
    go_ret
    exact ⟨by first | rfl | (simp [errW_none, errW_some] <;> rfl) | (simp only [← hji2, ← hji23]; first | rfl | (simp [errW_none, errW_some] <;> rfl)) | (simp [*, errW_none, errW_some] <;> rfl), bl_ HB.out⟩
  ·rw [if_neg c22] at H
   have c22b0 : (((rd_T54 l0 (ji2)).f0) == 2) = false := beq_eq_false_iff_ne.mpr c22; have c22b1 : (((rd_T54 l0 (ji2)).f0) != 2) = true := bne_iff_ne.mpr c22; obtain ⟨ji41, hji41⟩ : ∃ j_ : Int, (wrap64 (t135 - 1)) = j_ := ⟨_, rfl⟩
   first | rw [hji41] at H | simp only [hji41] at H
   (try rw [hji41] at A14)
   (try rw [hji41] at A17)
   (try rw [hji41] at A21)
   have hji41w : (IntKind.i64.wrap (t135 - 1)) = ji41 := (i64_w _).trans hji41
   by_cases c42 : 0 ≤ (ji41); rotate_left
   ·rw [if_neg c42] at H; exact absurd H (by simp)
   rw [if_pos c42] at H
   have c42b0 : decide (0 ≤ (ji41)) = true := decide_eq_true c42; clear c42
   by_cases c43 : (ji41) < (l0.length : Int); rotate_left
   ·rw [if_neg c43] at H; exact absurd H (by simp)
   rw [if_pos c43] at H
   have c43b0 : decide ((ji41) < (l0.length : Int)) = true := decide_eq_true c43; clear c43
   by_cases c44 : ((rd_T54 l0 (ji41)).f0) = 2
   ·rw [if_pos c44] at H
    have c44b0 : (((rd_T54 l0 (ji41)).f0) == 2) = true := beq_iff_eq.mpr c44; have c44b1 : (((rd_T54 l0 (ji41)).f0) != 2) = false := bne_eq_false_iff_eq.mpr c44; clear c44
    by_cases c45 : 1 + t140.size ≤ 9223372036854775807; rotate_left
    ·rw [if_neg c45] at H; exact absurd H (by simp)
    rw [if_pos c45] at H
    have c45b0 := eq_true c45; have c45b1 : decide (1 + t140.size ≤ 9223372036854775807) = true := decide_eq_true c45
    try have c45b2 : (9223372036854775807 < 1 + t140.size) = False := eq_false (Nat.not_lt.2 c45)
    by_cases c46 : ((⟨#[40]⟩ : ByteArray) ++ t140).size + 1 ≤ 9223372036854775807; rotate_left
    ·rw [if_neg c46] at H; exact absurd H (by simp)
    rw [if_pos c46] at H
    have c46b0 := eq_true c46; have c46b1 : decide (((⟨#[40]⟩ : ByteArray) ++ t140).size + 1 ≤ 9223372036854775807) = true := decide_eq_true c46
    try have c46b2 : (9223372036854775807 < ((⟨#[40]⟩ : ByteArray) ++ t140).size + 1) = False := eq_false (Nat.not_lt.2 c46)
    try have c46b3 : (9223372036854775807 < 1 + t140.size + 1) = False := eq_false (Nat.not_lt.2 (by have h_ := c46; simp only [ByteArray.size_append] at h_; exact h_))
    try have c46b4 : (1 + t140.size + 1 ≤ 9223372036854775807) = True := eq_true (by have h_ := c46; simp only [ByteArray.size_append] at h_; exact h_)
    obtain ⟨ji47, hji47⟩ : ∃ j_ : Int, (wrap64 ((ji2) - 1)) = j_ := ⟨_, rfl⟩
    first | rw [hji47] at H | simp only [hji47] at H
    (try rw [hji47] at A14)
    (try rw [hji47] at A17)
    (try rw [hji47] at A21)
    have hji47w : (IntKind.i64.wrap ((ji2) - 1)) = ji47 := (i64_w _).trans hji47
    by_cases c48 : 0 ≤ (ji47); rotate_left
    ·rw [if_neg c48] at H; exact absurd H (by simp)
    rw [if_pos c48] at H
    have c48b0 : decide (0 ≤ (ji47)) = true := decide_eq_true c48; clear c48
    by_cases c49 : (ji47) < (l0.length : Int); rotate_left
    ·rw [if_neg c49] at H; exact absurd H (by simp)
    rw [if_pos c49] at H
    have c49b0 : decide ((ji47) < (l0.length : Int)) = true := decide_eq_true c49; clear c49
    by_cases c50 : ((rd_T54 l0 (ji47)).f0) = 0
    ·rw [if_pos c50] at H
     have c50b0 : (((rd_T54 l0 (ji47)).f0) == 0) = true := beq_iff_eq.mpr c50; have c50b1 : (((rd_T54 l0 (ji47)).f0) != 0) = false := bne_eq_false_iff_eq.mpr c50; clear c50
     by_cases c51 : (((⟨#[40]⟩ : ByteArray) ++ t140) ++ (⟨#[41]⟩ : ByteArray)).size + 1 ≤ 9223372036854775807; rotate_left
     ·rw [if_neg c51] at H; exact absurd H (by simp)
     rw [if_pos c51] at H
     have c51b0 := eq_true c51; have c51b1 : decide ((((⟨#[40]⟩ : ByteArray) ++ t140) ++ (⟨#[41]⟩ : ByteArray)).size + 1 ≤ 9223372036854775807) = true := decide_eq_true c51
     try have c51b2 : (9223372036854775807 < (((⟨#[40]⟩ : ByteArray) ++ t140) ++ (⟨#[41]⟩ : ByteArray)).size + 1) = False := eq_false (Nat.not_lt.2 c51)
     try have c51b3 : (9223372036854775807 < 1 + t140.size + 1 + 1) = False := eq_false (Nat.not_lt.2 (by have h_ := c51; simp only [ByteArray.size_append] at h_; exact h_))
     try have c51b4 : (1 + t140.size + 1 + 1 ≤ 9223372036854775807) = True := eq_true (by have h_ := c51; simp only [ByteArray.size_append] at h_; exact h_)
     by_cases c52 : ((((⟨#[40]⟩ : ByteArray) ++ t140) ++ (⟨#[41]⟩ : ByteArray)) ++ (⟨#[38]⟩ : ByteArray)).size + t145.size ≤ 9223372036854775807; rotate_left
     ·rw [if_neg c52] at H; exact absurd H (by simp)
     rw [if_pos c52] at H
     have c52b0 := eq_true c52; have c52b1 : decide (((((⟨#[40]⟩ : ByteArray) ++ t140) ++ (⟨#[41]⟩ : ByteArray)) ++ (⟨#[38]⟩ : ByteArray)).size + t145.size ≤ 9223372036854775807) = true := decide_eq_true c52
     try have c52b2 : (9223372036854775807 < ((((⟨#[40]⟩ : ByteArray) ++ t140) ++ (⟨#[41]⟩ : ByteArray)) ++ (⟨#[38]⟩ : ByteArray)).size + t145.size) = False := eq_false (Nat.not_lt.2 c52)
     try have c52b3 : (9223372036854775807 < 1 + t140.size + 1 + 1 + t145.size) = False := eq_false (Nat.not_lt.2 (by have h_ := c52; simp only [ByteArray.size_append] at h_; exact h_))
     try have c52b4 : (1 + t140.size + 1 + 1 + t145.size ≤ 9223372036854775807) = True := eq_true (by have h_ := c52; simp only [ByteArray.size_append] at h_; exact h_)
     obtain rfl := Option.some.inj H; have p128 : 0 ≤ ((ji2) : Int) := of_decide_eq_true as_; have q128 : (ji2) < (l0.length : Int) := of_decide_eq_true as_; obtain ⟨ad128, e128, hx128_0, hx128_1, hx128_2⟩ := at_T54 HR0.out (ji2) p128 q128; cases e128; replace p128 := eq_true p128; replace q128 := eq_true q128
     go_enter Tryd.func28, Tryd.ntmps28
     go_wp2_with (first | ((with_reducible refine gate_callee (f := 45) rfl ?_); refine goesL_ (some 35) rfl rfl Tryd.func45 (by kernel_rfl) rfl #[.slice (some ad128) l0.length c0, .int .i64 ji47] rfl (by (try simp only [List.map_toArray, List.map_cons, List.map_nil]); first | done | (simp only [hji47]; rfl) | rfl | (simp only [List.length_drop, List.length_take]; rfl)) ?_; (with_reducible refine (spec_l3Starts.calls k _ _ l0 ji47 t135 _ ?side1 ?side2 A14.out).mono ?_); (case side1 => exact cs_ HR0.out); (case side2 => exact HC0.out); rintro e w' ⟨rfl, ⟨nd, rfl⟩⟩; refine ⟨_, rfl, ?_⟩; have q53 : (t135 : Int) ≤ ((l0.length : Int) : Int) := of_decide_eq_true as_; obtain ⟨i053, hi053, _, hsz53, _⟩ := info_parts info54; have hroom53 : l0.length ≤ c0 := HC0.out; have hC53 : Kd.C k54 _ (some ad128) l0.length l0 := HR0.out; have hcut53 := cut_to (P := Tryd.prog) 28 54 .i64 Tryd.underlying28 hi053 (some ad128) l0.length c0 t135 (of_decide_eq_true as_) q53 hroom53; have hr53 := Kd.C_take (m := (t135 : Int).toNat) hC53 (by omega); have hy53 : y136.length = (t135 : Int).toNat := (by rw [Ny136.out, List.length_take]; omega); rw [← Ny136.out] at hr53; rw [← hy53] at hcut53; have HR139 := Aside0.mk hr53; have HC139 := Aside0.mk (show y136.length ≤ c0 from by omega); clear hr53 hC53 hroom53 hi053 hsz53; have KY53 := Aside0.mk hy53; clear hy53; replace q53 := eq_true q53) | ((with_reducible refine gate_callee (f := 28) rfl ?_); refine goesL_ (some 39) rfl rfl Tryd.func28 (by kernel_rfl) rfl #[.slice (some ad128) y136.length c0] rfl ga_ ?_; (with_reducible refine (ih k (by omega) _ _ y136 t140 _ ?side1 ?side2 A17.out).mono ?_); (case side1 => exact cs_ HR139.out); (case side2 => exact HC139.out); rintro e w54 ⟨rfl, hb⟩; refine ⟨_, rfl, ?_⟩; have n0_ := Aside0.mk (below_step (bl_ HB.out) hb); clear HB; have HB := n0_; clear n0_; (try clear hb); (try clear hb2); (try clear hk); (try clear hi); have q55 : ((ji2) : Int) ≤ ((l0.length : Int) : Int) := of_decide_eq_true as_; obtain ⟨i055, hi055, _, hsz55, _⟩ := info_parts info54; have hroom55 : l0.length ≤ c0 := HC0.out; have hC55 : Kd.C k54 _ (some ad128) l0.length l0 := HR0.out; have ql55 : (t135 : Int) ≤ ((ji2) : Int) := of_decide_eq_true as_; have q055 : (0 : Int) ≤ (t135 : Int) := of_decide_eq_true as_; have hcut55 := cut_mid (P := Tryd.prog) 28 54 .i64 .i64 Tryd.underlying28 hi055 3 hsz55 (some ad128) l0.length c0 t135 (ji2) q055 ql55 q55 hroom55; have hr55 := Kd.C_mid (lo := (t135 : Int).toNat) (hi := ((ji2) : Int).toNat) (c := c0) hC55 (by omega) (by omega) hroom55; obtain ⟨A55, hA55⟩ : ∃ aa_, aa_ = (if c0 = (t135 : Int).toNat then (some ad128) else ((some ad128) : Option Addr).map (·.add ((t135 : Int).toNat * 3))) := ⟨_, rfl⟩; obtain ⟨c55, hc55⟩ : ∃ c1, c1 = c0 - (t135 : Int).toNat := ⟨_, rfl⟩; have hy55 : y141.length = ((ji2) : Int).toNat - (t135 : Int).toNat := (by rw [Ny141.out, List.length_drop, List.length_take] <;> omega); rw [show ((l0).take ((ji2) : Int).toNat).drop (t135 : Int).toNat = y141 from Ny141.out.symm] at hr55; replace hr55 : Kd.C k54 _ A55 y141.length y141 := (by rw [hA55]; exact hr55); rw [← hy55, ← hA55, ← hc55] at hcut55; have HR144 := Aside0.mk hr55; have HC144 := Aside0.mk (show y141.length ≤ c55 from by rw [hy55, hc55]; exact Nat.sub_le_sub_right (Nat.le_trans (by omega) hroom55) _); clear hr55 hC55 hroom55 hi055 hsz55 hc55; have KY55 := Aside0.mk hy55; have KA55 := Aside0.mk hA55; clear hy55 hA55; replace q55 := eq_true q55) | ((with_reducible refine gate_callee (f := 28) rfl ?_); refine goesL_ (some 44) rfl rfl Tryd.func28 (by kernel_rfl) rfl #[.slice A55 y141.length c55] rfl ga_ ?_; (with_reducible refine (ih k (by omega) _ _ y141 t145 _ ?side1 ?side2 A21.out).mono ?_); (case side1 => exact cs_ (Kd.C_below HR144.out HB.out)); (case side2 => exact HC144.out); rintro e w56 ⟨rfl, hb⟩; refine ⟨_, rfl, ?_⟩; have n0_ := Aside0.mk (below_step (bl_ HB.out) hb); clear HB; have HB := n0_; clear n0_; (try clear hb); (try clear hb2); (try clear hk); (try clear hi); have p146 : 0 ≤ ((ji2) : Int) := of_decide_eq_true as_; have q146 : (ji2) < (l0.length : Int) := of_decide_eq_true as_; obtain ⟨ad146, e146, hx146_0, hx146_1, hx146_2⟩ := at_T54 HR0.out (ji2) p146 q146; obtain rfl : ad128 = ad146 := (by injection e146); replace hx146_0 := cx_ HB.out hx146_0; replace hx146_1 := cx_ HB.out hx146_1; replace hx146_2 := cx_ HB.out hx146_2; replace p146 := eq_true p146; replace q146 := eq_true q146; have p148 : 0 ≤ ((ji41) : Int) := of_decide_eq_true as_; have q148 : (ji41) < (l0.length : Int) := of_decide_eq_true as_; obtain ⟨ad148, e148, hx148_0, hx148_1, hx148_2⟩ := at_T54 HR0.out (ji41) p148 q148; obtain rfl : ad128 = ad148 := (by injection e148); replace hx148_0 := cx_ HB.out hx148_0; replace hx148_1 := cx_ HB.out hx148_1; replace hx148_2 := cx_ HB.out hx148_2; replace p148 := eq_true p148; replace q148 := eq_true q148; have p149 : 0 ≤ ((ji47) : Int) := of_decide_eq_true as_; have q149 : (ji47) < (l0.length : Int) := of_decide_eq_true as_; obtain ⟨ad149, e149, hx149_0, hx149_1, hx149_2⟩ := at_T54 HR0.out (ji47) p149 q149; obtain rfl : ad128 = ad149 := (by injection e149); replace hx149_0 := cx_ HB.out hx149_0; replace hx149_1 := cx_ HB.out hx149_1; replace hx149_2 := cx_ HB.out hx149_2; replace p149 := eq_true p149; replace q149 := eq_true q149))
     go_ret
     exact ⟨by first | rfl | (simp [errW_none, errW_some] <;> rfl) | (simp only [← hji2, ← hji41, ← hji47]; first | rfl | (simp [errW_none, errW_some] <;> rfl)) | (simp [*, errW_none, errW_some] <;> rfl), bl_ HB.out⟩
    ·rw [if_neg c50] at H
     have c50b0 : (((rd_T54 l0 (ji47)).f0) == 0) = false := beq_eq_false_iff_ne.mpr c50; have c50b1 : (((rd_T54 l0 (ji47)).f0) != 0) = true := bne_iff_ne.mpr c50
     by_cases c57 : 1 + t145.size ≤ 9223372036854775807; rotate_left
     ·rw [if_neg c57] at H; exact absurd H (by simp)
     rw [if_pos c57] at H
     have c57b0 := eq_true c57; have c57b1 : decide (1 + t145.size ≤ 9223372036854775807) = true := decide_eq_true c57
     try have c57b2 : (9223372036854775807 < 1 + t145.size) = False := eq_false (Nat.not_lt.2 c57)
     by_cases c58 : ((⟨#[40]⟩ : ByteArray) ++ t145).size + 1 ≤ 9223372036854775807; rotate_left
     ·rw [if_neg c58] at H; exact absurd H (by simp)
     rw [if_pos c58] at H
     have c58b0 := eq_true c58; have c58b1 : decide (((⟨#[40]⟩ : ByteArray) ++ t145).size + 1 ≤ 9223372036854775807) = true := decide_eq_true c58
     try have c58b2 : (9223372036854775807 < ((⟨#[40]⟩ : ByteArray) ++ t145).size + 1) = False := eq_false (Nat.not_lt.2 c58)
     try have c58b3 : (9223372036854775807 < 1 + t145.size + 1) = False := eq_false (Nat.not_lt.2 (by have h_ := c58; simp only [ByteArray.size_append] at h_; exact h_))
     try have c58b4 : (1 + t145.size + 1 ≤ 9223372036854775807) = True := eq_true (by have h_ := c58; simp only [ByteArray.size_append] at h_; exact h_)
     by_cases c59 : (((⟨#[40]⟩ : ByteArray) ++ t140) ++ (⟨#[41]⟩ : ByteArray)).size + 1 ≤ 9223372036854775807; rotate_left
     ·rw [if_neg c59] at H; exact absurd H (by simp)
     rw [if_pos c59] at H
     have c59b0 := eq_true c59; have c59b1 : decide ((((⟨#[40]⟩ : ByteArray) ++ t140) ++ (⟨#[41]⟩ : ByteArray)).size + 1 ≤ 9223372036854775807) = true := decide_eq_true c59
     try have c59b2 : (9223372036854775807 < (((⟨#[40]⟩ : ByteArray) ++ t140) ++ (⟨#[41]⟩ : ByteArray)).size + 1) = False := eq_false (Nat.not_lt.2 c59)
     try have c59b3 : (9223372036854775807 < 1 + t140.size + 1 + 1) = False := eq_false (Nat.not_lt.2 (by have h_ := c59; simp only [ByteArray.size_append] at h_; exact h_))
     try have c59b4 : (1 + t140.size + 1 + 1 ≤ 9223372036854775807) = True := eq_true (by have h_ := c59; simp only [ByteArray.size_append] at h_; exact h_)
     by_cases c60 : ((((⟨#[40]⟩ : ByteArray) ++ t140) ++ (⟨#[41]⟩ : ByteArray)) ++ (⟨#[38]⟩ : ByteArray)).size + (((⟨#[40]⟩ : ByteArray) ++ t145) ++ (⟨#[41]⟩ : ByteArray)).size ≤ 9223372036854775807; rotate_left
     ·rw [if_neg c60] at H; exact absurd H (by simp)
     rw [if_pos c60] at H
     have c60b0 := eq_true c60; have c60b1 : decide (((((⟨#[40]⟩ : ByteArray) ++ t140) ++ (⟨#[41]⟩ : ByteArray)) ++ (⟨#[38]⟩ : ByteArray)).size + (((⟨#[40]⟩ : ByteArray) ++ t145) ++ (⟨#[41]⟩ : ByteArray)).size ≤ 9223372036854775807) = true := decide_eq_true c60
     try have c60b2 : (9223372036854775807 < ((((⟨#[40]⟩ : ByteArray) ++ t140) ++ (⟨#[41]⟩ : ByteArray)) ++ (⟨#[38]⟩ : ByteArray)).size + (((⟨#[40]⟩ : ByteArray) ++ t145) ++ (⟨#[41]⟩ : ByteArray)).size) = False := eq_false (Nat.not_lt.2 c60)
     try have c60b3 : (9223372036854775807 < 1 + t140.size + 1 + 1 + (1 + t145.size + 1)) = False := eq_false (Nat.not_lt.2 (by have h_ := c60; simp only [ByteArray.size_append] at h_; exact h_))
     try have c60b4 : (1 + t140.size + 1 + 1 + (1 + t145.size + 1) ≤ 9223372036854775807) = True := eq_true (by have h_ := c60; simp only [ByteArray.size_append] at h_; exact h_)
     obtain rfl := Option.some.inj H; have p128 : 0 ≤ ((ji2) : Int) := of_decide_eq_true as_; have q128 : (ji2) < (l0.length : Int) := of_decide_eq_true as_; obtain ⟨ad128, e128, hx128_0, hx128_1, hx128_2⟩ := at_T54 HR0.out (ji2) p128 q128; cases e128; replace p128 := eq_true p128; replace q128 := eq_true q128
     go_enter Tryd.func28, Tryd.ntmps28
     go_wp2_with (first | ((with_reducible refine gate_callee (f := 45) rfl ?_); refine goesL_ (some 35) rfl rfl Tryd.func45 (by kernel_rfl) rfl #[.slice (some ad128) l0.length c0, .int .i64 ji47] rfl (by (try simp only [List.map_toArray, List.map_cons, List.map_nil]); first | done | (simp only [hji47]; rfl) | rfl | (simp only [List.length_drop, List.length_take]; rfl)) ?_; (with_reducible refine (spec_l3Starts.calls k _ _ l0 ji47 t135 _ ?side1 ?side2 A14.out).mono ?_); (case side1 => exact cs_ HR0.out); (case side2 => exact HC0.out); rintro e w' ⟨rfl, ⟨nd, rfl⟩⟩; refine ⟨_, rfl, ?_⟩; have q61 : (t135 : Int) ≤ ((l0.length : Int) : Int) := of_decide_eq_true as_; obtain ⟨i061, hi061, _, hsz61, _⟩ := info_parts info54; have hroom61 : l0.length ≤ c0 := HC0.out; have hC61 : Kd.C k54 _ (some ad128) l0.length l0 := HR0.out; have hcut61 := cut_to (P := Tryd.prog) 28 54 .i64 Tryd.underlying28 hi061 (some ad128) l0.length c0 t135 (of_decide_eq_true as_) q61 hroom61; have hr61 := Kd.C_take (m := (t135 : Int).toNat) hC61 (by omega); have hy61 : y136.length = (t135 : Int).toNat := (by rw [Ny136.out, List.length_take]; omega); rw [← Ny136.out] at hr61; rw [← hy61] at hcut61; have HR139 := Aside0.mk hr61; have HC139 := Aside0.mk (show y136.length ≤ c0 from by omega); clear hr61 hC61 hroom61 hi061 hsz61; have KY61 := Aside0.mk hy61; clear hy61; replace q61 := eq_true q61) | ((with_reducible refine gate_callee (f := 28) rfl ?_); refine goesL_ (some 39) rfl rfl Tryd.func28 (by kernel_rfl) rfl #[.slice (some ad128) y136.length c0] rfl ga_ ?_; (with_reducible refine (ih k (by omega) _ _ y136 t140 _ ?side1 ?side2 A17.out).mono ?_); (case side1 => exact cs_ HR139.out); (case side2 => exact HC139.out); rintro e w62 ⟨rfl, hb⟩; refine ⟨_, rfl, ?_⟩; have n0_ := Aside0.mk (below_step (bl_ HB.out) hb); clear HB; have HB := n0_; clear n0_; (try clear hb); (try clear hb2); (try clear hk); (try clear hi); have q63 : ((ji2) : Int) ≤ ((l0.length : Int) : Int) := of_decide_eq_true as_; obtain ⟨i063, hi063, _, hsz63, _⟩ := info_parts info54; have hroom63 : l0.length ≤ c0 := HC0.out; have hC63 : Kd.C k54 _ (some ad128) l0.length l0 := HR0.out; have ql63 : (t135 : Int) ≤ ((ji2) : Int) := of_decide_eq_true as_; have q063 : (0 : Int) ≤ (t135 : Int) := of_decide_eq_true as_; have hcut63 := cut_mid (P := Tryd.prog) 28 54 .i64 .i64 Tryd.underlying28 hi063 3 hsz63 (some ad128) l0.length c0 t135 (ji2) q063 ql63 q63 hroom63; have hr63 := Kd.C_mid (lo := (t135 : Int).toNat) (hi := ((ji2) : Int).toNat) (c := c0) hC63 (by omega) (by omega) hroom63; obtain ⟨A63, hA63⟩ : ∃ aa_, aa_ = (if c0 = (t135 : Int).toNat then (some ad128) else ((some ad128) : Option Addr).map (·.add ((t135 : Int).toNat * 3))) := ⟨_, rfl⟩; obtain ⟨c63, hc63⟩ : ∃ c1, c1 = c0 - (t135 : Int).toNat := ⟨_, rfl⟩; have hy63 : y141.length = ((ji2) : Int).toNat - (t135 : Int).toNat := (by rw [Ny141.out, List.length_drop, List.length_take] <;> omega); rw [show ((l0).take ((ji2) : Int).toNat).drop (t135 : Int).toNat = y141 from Ny141.out.symm] at hr63; replace hr63 : Kd.C k54 _ A63 y141.length y141 := (by rw [hA63]; exact hr63); rw [← hy63, ← hA63, ← hc63] at hcut63; have HR144 := Aside0.mk hr63; have HC144 := Aside0.mk (show y141.length ≤ c63 from by rw [hy63, hc63]; exact Nat.sub_le_sub_right (Nat.le_trans (by omega) hroom63) _); clear hr63 hC63 hroom63 hi063 hsz63 hc63; have KY63 := Aside0.mk hy63; have KA63 := Aside0.mk hA63; clear hy63 hA63; replace q63 := eq_true q63) | ((with_reducible refine gate_callee (f := 28) rfl ?_); refine goesL_ (some 44) rfl rfl Tryd.func28 (by kernel_rfl) rfl #[.slice A63 y141.length c63] rfl ga_ ?_; (with_reducible refine (ih k (by omega) _ _ y141 t145 _ ?side1 ?side2 A21.out).mono ?_); (case side1 => exact cs_ (Kd.C_below HR144.out HB.out)); (case side2 => exact HC144.out); rintro e w64 ⟨rfl, hb⟩; refine ⟨_, rfl, ?_⟩; have n0_ := Aside0.mk (below_step (bl_ HB.out) hb); clear HB; have HB := n0_; clear n0_; (try clear hb); (try clear hb2); (try clear hk); (try clear hi); have p146 : 0 ≤ ((ji2) : Int) := of_decide_eq_true as_; have q146 : (ji2) < (l0.length : Int) := of_decide_eq_true as_; obtain ⟨ad146, e146, hx146_0, hx146_1, hx146_2⟩ := at_T54 HR0.out (ji2) p146 q146; obtain rfl : ad128 = ad146 := (by injection e146); replace hx146_0 := cx_ HB.out hx146_0; replace hx146_1 := cx_ HB.out hx146_1; replace hx146_2 := cx_ HB.out hx146_2; replace p146 := eq_true p146; replace q146 := eq_true q146; have p148 : 0 ≤ ((ji41) : Int) := of_decide_eq_true as_; have q148 : (ji41) < (l0.length : Int) := of_decide_eq_true as_; obtain ⟨ad148, e148, hx148_0, hx148_1, hx148_2⟩ := at_T54 HR0.out (ji41) p148 q148; obtain rfl : ad128 = ad148 := (by injection e148); replace hx148_0 := cx_ HB.out hx148_0; replace hx148_1 := cx_ HB.out hx148_1; replace hx148_2 := cx_ HB.out hx148_2; replace p148 := eq_true p148; replace q148 := eq_true q148; have p149 : 0 ≤ ((ji47) : Int) := of_decide_eq_true as_; have q149 : (ji47) < (l0.length : Int) := of_decide_eq_true as_; obtain ⟨ad149, e149, hx149_0, hx149_1, hx149_2⟩ := at_T54 HR0.out (ji47) p149 q149; obtain rfl : ad128 = ad149 := (by injection e149); replace hx149_0 := cx_ HB.out hx149_0; replace hx149_1 := cx_ HB.out hx149_1; replace hx149_2 := cx_ HB.out hx149_2; replace p149 := eq_true p149; replace q149 := eq_true q149))
     go_ret
     exact ⟨by first | rfl | (simp [errW_none, errW_some] <;> rfl) | (simp only [← hji2, ← hji41, ← hji47]; first | rfl | (simp [errW_none, errW_some] <;> rfl)) | (simp [*, errW_none, errW_some] <;> rfl), bl_ HB.out⟩
   ·rw [if_neg c44] at H
    have c44b0 : (((rd_T54 l0 (ji41)).f0) == 2) = false := beq_eq_false_iff_ne.mpr c44; have c44b1 : (((rd_T54 l0 (ji41)).f0) != 2) = true := bne_iff_ne.mpr c44; obtain ⟨ji65, hji65⟩ : ∃ j_ : Int, (wrap64 ((ji2) - 1)) = j_ := ⟨_, rfl⟩
    first | rw [hji65] at H | simp only [hji65] at H
    (try rw [hji65] at A14)
    (try rw [hji65] at A17)
    (try rw [hji65] at A21)
    have hji65w : (IntKind.i64.wrap ((ji2) - 1)) = ji65 := (i64_w _).trans hji65
    by_cases c66 : 0 ≤ (ji65); rotate_left
    ·rw [if_neg c66] at H; exact absurd H (by simp)
    rw [if_pos c66] at H
    have c66b0 : decide (0 ≤ (ji65)) = true := decide_eq_true c66; clear c66
    by_cases c67 : (ji65) < (l0.length : Int); rotate_left
    ·rw [if_neg c67] at H; exact absurd H (by simp)
    rw [if_pos c67] at H
    have c67b0 : decide ((ji65) < (l0.length : Int)) = true := decide_eq_true c67; clear c67
    by_cases c68 : ((rd_T54 l0 (ji65)).f0) = 0
    ·rw [if_pos c68] at H
     have c68b0 : (((rd_T54 l0 (ji65)).f0) == 0) = true := beq_iff_eq.mpr c68; have c68b1 : (((rd_T54 l0 (ji65)).f0) != 0) = false := bne_eq_false_iff_eq.mpr c68; clear c68
     by_cases c69 : t140.size + 1 ≤ 9223372036854775807; rotate_left
     ·rw [if_neg c69] at H; exact absurd H (by simp)
     rw [if_pos c69] at H
     have c69b0 := eq_true c69; have c69b1 : decide (t140.size + 1 ≤ 9223372036854775807) = true := decide_eq_true c69
     try have c69b2 : (9223372036854775807 < t140.size + 1) = False := eq_false (Nat.not_lt.2 c69)
     by_cases c70 : (t140 ++ (⟨#[38]⟩ : ByteArray)).size + t145.size ≤ 9223372036854775807; rotate_left
     ·rw [if_neg c70] at H; exact absurd H (by simp)
     rw [if_pos c70] at H
     have c70b0 := eq_true c70; have c70b1 : decide ((t140 ++ (⟨#[38]⟩ : ByteArray)).size + t145.size ≤ 9223372036854775807) = true := decide_eq_true c70
     try have c70b2 : (9223372036854775807 < (t140 ++ (⟨#[38]⟩ : ByteArray)).size + t145.size) = False := eq_false (Nat.not_lt.2 c70)
     try have c70b3 : (9223372036854775807 < t140.size + 1 + t145.size) = False := eq_false (Nat.not_lt.2 (by have h_ := c70; simp only [ByteArray.size_append] at h_; exact h_))
     try have c70b4 : (t140.size + 1 + t145.size ≤ 9223372036854775807) = True := eq_true (by have h_ := c70; simp only [ByteArray.size_append] at h_; exact h_)
     obtain rfl := Option.some.inj H; have p128 : 0 ≤ ((ji2) : Int) := of_decide_eq_true as_; have q128 : (ji2) < (l0.length : Int) := of_decide_eq_true as_; obtain ⟨ad128, e128, hx128_0, hx128_1, hx128_2⟩ := at_T54 HR0.out (ji2) p128 q128; cases e128; replace p128 := eq_true p128; replace q128 := eq_true q128
     go_enter Tryd.func28, Tryd.ntmps28
     go_wp2_with (first | ((with_reducible refine gate_callee (f := 45) rfl ?_); refine goesL_ (some 35) rfl rfl Tryd.func45 (by kernel_rfl) rfl #[.slice (some ad128) l0.length c0, .int .i64 ji65] rfl (by (try simp only [List.map_toArray, List.map_cons, List.map_nil]); first | done | (simp only [hji65]; rfl) | rfl | (simp only [List.length_drop, List.length_take]; rfl)) ?_; (with_reducible refine (spec_l3Starts.calls k _ _ l0 ji65 t135 _ ?side1 ?side2 A14.out).mono ?_); (case side1 => exact cs_ HR0.out); (case side2 => exact HC0.out); rintro e w' ⟨rfl, ⟨nd, rfl⟩⟩; refine ⟨_, rfl, ?_⟩; have q71 : (t135 : Int) ≤ ((l0.length : Int) : Int) := of_decide_eq_true as_; obtain ⟨i071, hi071, _, hsz71, _⟩ := info_parts info54; have hroom71 : l0.length ≤ c0 := HC0.out; have hC71 : Kd.C k54 _ (some ad128) l0.length l0 := HR0.out; have hcut71 := cut_to (P := Tryd.prog) 28 54 .i64 Tryd.underlying28 hi071 (some ad128) l0.length c0 t135 (of_decide_eq_true as_) q71 hroom71; have hr71 := Kd.C_take (m := (t135 : Int).toNat) hC71 (by omega); have hy71 : y136.length = (t135 : Int).toNat := (by rw [Ny136.out, List.length_take]; omega); rw [← Ny136.out] at hr71; rw [← hy71] at hcut71; have HR139 := Aside0.mk hr71; have HC139 := Aside0.mk (show y136.length ≤ c0 from by omega); clear hr71 hC71 hroom71 hi071 hsz71; have KY71 := Aside0.mk hy71; clear hy71; replace q71 := eq_true q71) | ((with_reducible refine gate_callee (f := 28) rfl ?_); refine goesL_ (some 39) rfl rfl Tryd.func28 (by kernel_rfl) rfl #[.slice (some ad128) y136.length c0] rfl ga_ ?_; (with_reducible refine (ih k (by omega) _ _ y136 t140 _ ?side1 ?side2 A17.out).mono ?_); (case side1 => exact cs_ HR139.out); (case side2 => exact HC139.out); rintro e w72 ⟨rfl, hb⟩; refine ⟨_, rfl, ?_⟩; have n0_ := Aside0.mk (below_step (bl_ HB.out) hb); clear HB; have HB := n0_; clear n0_; (try clear hb); (try clear hb2); (try clear hk); (try clear hi); have q73 : ((ji2) : Int) ≤ ((l0.length : Int) : Int) := of_decide_eq_true as_; obtain ⟨i073, hi073, _, hsz73, _⟩ := info_parts info54; have hroom73 : l0.length ≤ c0 := HC0.out; have hC73 : Kd.C k54 _ (some ad128) l0.length l0 := HR0.out; have ql73 : (t135 : Int) ≤ ((ji2) : Int) := of_decide_eq_true as_; have q073 : (0 : Int) ≤ (t135 : Int) := of_decide_eq_true as_; have hcut73 := cut_mid (P := Tryd.prog) 28 54 .i64 .i64 Tryd.underlying28 hi073 3 hsz73 (some ad128) l0.length c0 t135 (ji2) q073 ql73 q73 hroom73; have hr73 := Kd.C_mid (lo := (t135 : Int).toNat) (hi := ((ji2) : Int).toNat) (c := c0) hC73 (by omega) (by omega) hroom73; obtain ⟨A73, hA73⟩ : ∃ aa_, aa_ = (if c0 = (t135 : Int).toNat then (some ad128) else ((some ad128) : Option Addr).map (·.add ((t135 : Int).toNat * 3))) := ⟨_, rfl⟩; obtain ⟨c73, hc73⟩ : ∃ c1, c1 = c0 - (t135 : Int).toNat := ⟨_, rfl⟩; have hy73 : y141.length = ((ji2) : Int).toNat - (t135 : Int).toNat := (by rw [Ny141.out, List.length_drop, List.length_take] <;> omega); rw [show ((l0).take ((ji2) : Int).toNat).drop (t135 : Int).toNat = y141 from Ny141.out.symm] at hr73; replace hr73 : Kd.C k54 _ A73 y141.length y141 := (by rw [hA73]; exact hr73); rw [← hy73, ← hA73, ← hc73] at hcut73; have HR144 := Aside0.mk hr73; have HC144 := Aside0.mk (show y141.length ≤ c73 from by rw [hy73, hc73]; exact Nat.sub_le_sub_right (Nat.le_trans (by omega) hroom73) _); clear hr73 hC73 hroom73 hi073 hsz73 hc73; have KY73 := Aside0.mk hy73; have KA73 := Aside0.mk hA73; clear hy73 hA73; replace q73 := eq_true q73) | ((with_reducible refine gate_callee (f := 28) rfl ?_); refine goesL_ (some 44) rfl rfl Tryd.func28 (by kernel_rfl) rfl #[.slice A73 y141.length c73] rfl ga_ ?_; (with_reducible refine (ih k (by omega) _ _ y141 t145 _ ?side1 ?side2 A21.out).mono ?_); (case side1 => exact cs_ (Kd.C_below HR144.out HB.out)); (case side2 => exact HC144.out); rintro e w74 ⟨rfl, hb⟩; refine ⟨_, rfl, ?_⟩; have n0_ := Aside0.mk (below_step (bl_ HB.out) hb); clear HB; have HB := n0_; clear n0_; (try clear hb); (try clear hb2); (try clear hk); (try clear hi); have p146 : 0 ≤ ((ji2) : Int) := of_decide_eq_true as_; have q146 : (ji2) < (l0.length : Int) := of_decide_eq_true as_; obtain ⟨ad146, e146, hx146_0, hx146_1, hx146_2⟩ := at_T54 HR0.out (ji2) p146 q146; obtain rfl : ad128 = ad146 := (by injection e146); replace hx146_0 := cx_ HB.out hx146_0; replace hx146_1 := cx_ HB.out hx146_1; replace hx146_2 := cx_ HB.out hx146_2; replace p146 := eq_true p146; replace q146 := eq_true q146; have p148 : 0 ≤ ((ji41) : Int) := of_decide_eq_true as_; have q148 : (ji41) < (l0.length : Int) := of_decide_eq_true as_; obtain ⟨ad148, e148, hx148_0, hx148_1, hx148_2⟩ := at_T54 HR0.out (ji41) p148 q148; obtain rfl : ad128 = ad148 := (by injection e148); replace hx148_0 := cx_ HB.out hx148_0; replace hx148_1 := cx_ HB.out hx148_1; replace hx148_2 := cx_ HB.out hx148_2; replace p148 := eq_true p148; replace q148 := eq_true q148; have p150 : 0 ≤ ((ji65) : Int) := of_decide_eq_true as_; have q150 : (ji65) < (l0.length : Int) := of_decide_eq_true as_; obtain ⟨ad150, e150, hx150_0, hx150_1, hx150_2⟩ := at_T54 HR0.out (ji65) p150 q150; obtain rfl : ad128 = ad150 := (by injection e150); replace hx150_0 := cx_ HB.out hx150_0; replace hx150_1 := cx_ HB.out hx150_1; replace hx150_2 := cx_ HB.out hx150_2; replace p150 := eq_true p150; replace q150 := eq_true q150))
     go_ret
     exact ⟨by first | rfl | (simp [errW_none, errW_some] <;> rfl) | (simp only [← hji2, ← hji41, ← hji65]; first | rfl | (simp [errW_none, errW_some] <;> rfl)) | (simp [*, errW_none, errW_some] <;> rfl), bl_ HB.out⟩
    ·rw [if_neg c68] at H
     have c68b0 : (((rd_T54 l0 (ji65)).f0) == 0) = false := beq_eq_false_iff_ne.mpr c68; have c68b1 : (((rd_T54 l0 (ji65)).f0) != 0) = true := bne_iff_ne.mpr c68
     by_cases c75 : 1 + t145.size ≤ 9223372036854775807; rotate_left
     ·rw [if_neg c75] at H; exact absurd H (by simp)
     rw [if_pos c75] at H
     have c75b0 := eq_true c75; have c75b1 : decide (1 + t145.size ≤ 9223372036854775807) = true := decide_eq_true c75
     try have c75b2 : (9223372036854775807 < 1 + t145.size) = False := eq_false (Nat.not_lt.2 c75)
     by_cases c76 : ((⟨#[40]⟩ : ByteArray) ++ t145).size + 1 ≤ 9223372036854775807; rotate_left
     ·rw [if_neg c76] at H; exact absurd H (by simp)
     rw [if_pos c76] at H
     have c76b0 := eq_true c76; have c76b1 : decide (((⟨#[40]⟩ : ByteArray) ++ t145).size + 1 ≤ 9223372036854775807) = true := decide_eq_true c76
     try have c76b2 : (9223372036854775807 < ((⟨#[40]⟩ : ByteArray) ++ t145).size + 1) = False := eq_false (Nat.not_lt.2 c76)
     try have c76b3 : (9223372036854775807 < 1 + t145.size + 1) = False := eq_false (Nat.not_lt.2 (by have h_ := c76; simp only [ByteArray.size_append] at h_; exact h_))
     try have c76b4 : (1 + t145.size + 1 ≤ 9223372036854775807) = True := eq_true (by have h_ := c76; simp only [ByteArray.size_append] at h_; exact h_)
     by_cases c77 : t140.size + 1 ≤ 9223372036854775807; rotate_left
     ·rw [if_neg c77] at H; exact absurd H (by simp)
     rw [if_pos c77] at H
     have c77b0 := eq_true c77; have c77b1 : decide (t140.size + 1 ≤ 9223372036854775807) = true := decide_eq_true c77
     try have c77b2 : (9223372036854775807 < t140.size + 1) = False := eq_false (Nat.not_lt.2 c77)
     by_cases c78 : (t140 ++ (⟨#[38]⟩ : ByteArray)).size + (((⟨#[40]⟩ : ByteArray) ++ t145) ++ (⟨#[41]⟩ : ByteArray)).size ≤ 9223372036854775807; rotate_left
     ·rw [if_neg c78] at H; exact absurd H (by simp)
     rw [if_pos c78] at H
     have c78b0 := eq_true c78; have c78b1 : decide ((t140 ++ (⟨#[38]⟩ : ByteArray)).size + (((⟨#[40]⟩ : ByteArray) ++ t145) ++ (⟨#[41]⟩ : ByteArray)).size ≤ 9223372036854775807) = true := decide_eq_true c78
     try have c78b2 : (9223372036854775807 < (t140 ++ (⟨#[38]⟩ : ByteArray)).size + (((⟨#[40]⟩ : ByteArray) ++ t145) ++ (⟨#[41]⟩ : ByteArray)).size) = False := eq_false (Nat.not_lt.2 c78)
     try have c78b3 : (9223372036854775807 < t140.size + 1 + (1 + t145.size + 1)) = False := eq_false (Nat.not_lt.2 (by have h_ := c78; simp only [ByteArray.size_append] at h_; exact h_))
     try have c78b4 : (t140.size + 1 + (1 + t145.size + 1) ≤ 9223372036854775807) = True := eq_true (by have h_ := c78; simp only [ByteArray.size_append] at h_; exact h_)
     obtain rfl := Option.some.inj H; have p128 : 0 ≤ ((ji2) : Int) := of_decide_eq_true as_; have q128 : (ji2) < (l0.length : Int) := of_decide_eq_true as_; obtain ⟨ad128, e128, hx128_0, hx128_1, hx128_2⟩ := at_T54 HR0.out (ji2) p128 q128; cases e128; replace p128 := eq_true p128; replace q128 := eq_true q128
     go_enter Tryd.func28, Tryd.ntmps28
     go_wp2_with (first | ((with_reducible refine gate_callee (f := 45) rfl ?_); refine goesL_ (some 35) rfl rfl Tryd.func45 (by kernel_rfl) rfl #[.slice (some ad128) l0.length c0, .int .i64 ji65] rfl (by (try simp only [List.map_toArray, List.map_cons, List.map_nil]); first | done | (simp only [hji65]; rfl) | rfl | (simp only [List.length_drop, List.length_take]; rfl)) ?_; (with_reducible refine (spec_l3Starts.calls k _ _ l0 ji65 t135 _ ?side1 ?side2 A14.out).mono ?_); (case side1 => exact cs_ HR0.out); (case side2 => exact HC0.out); rintro e w' ⟨rfl, ⟨nd, rfl⟩⟩; refine ⟨_, rfl, ?_⟩; have q79 : (t135 : Int) ≤ ((l0.length : Int) : Int) := of_decide_eq_true as_; obtain ⟨i079, hi079, _, hsz79, _⟩ := info_parts info54; have hroom79 : l0.length ≤ c0 := HC0.out; have hC79 : Kd.C k54 _ (some ad128) l0.length l0 := HR0.out; have hcut79 := cut_to (P := Tryd.prog) 28 54 .i64 Tryd.underlying28 hi079 (some ad128) l0.length c0 t135 (of_decide_eq_true as_) q79 hroom79; have hr79 := Kd.C_take (m := (t135 : Int).toNat) hC79 (by omega); have hy79 : y136.length = (t135 : Int).toNat := (by rw [Ny136.out, List.length_take]; omega); rw [← Ny136.out] at hr79; rw [← hy79] at hcut79; have HR139 := Aside0.mk hr79; have HC139 := Aside0.mk (show y136.length ≤ c0 from by omega); clear hr79 hC79 hroom79 hi079 hsz79; have KY79 := Aside0.mk hy79; clear hy79; replace q79 := eq_true q79) | ((with_reducible refine gate_callee (f := 28) rfl ?_); refine goesL_ (some 39) rfl rfl Tryd.func28 (by kernel_rfl) rfl #[.slice (some ad128) y136.length c0] rfl ga_ ?_; (with_reducible refine (ih k (by omega) _ _ y136 t140 _ ?side1 ?side2 A17.out).mono ?_); (case side1 => exact cs_ HR139.out); (case side2 => exact HC139.out); rintro e w80 ⟨rfl, hb⟩; refine ⟨_, rfl, ?_⟩; have n0_ := Aside0.mk (below_step (bl_ HB.out) hb); clear HB; have HB := n0_; clear n0_; (try clear hb); (try clear hb2); (try clear hk); (try clear hi); have q81 : ((ji2) : Int) ≤ ((l0.length : Int) : Int) := of_decide_eq_true as_; obtain ⟨i081, hi081, _, hsz81, _⟩ := info_parts info54; have hroom81 : l0.length ≤ c0 := HC0.out; have hC81 : Kd.C k54 _ (some ad128) l0.length l0 := HR0.out; have ql81 : (t135 : Int) ≤ ((ji2) : Int) := of_decide_eq_true as_; have q081 : (0 : Int) ≤ (t135 : Int) := of_decide_eq_true as_; have hcut81 := cut_mid (P := Tryd.prog) 28 54 .i64 .i64 Tryd.underlying28 hi081 3 hsz81 (some ad128) l0.length c0 t135 (ji2) q081 ql81 q81 hroom81; have hr81 := Kd.C_mid (lo := (t135 : Int).toNat) (hi := ((ji2) : Int).toNat) (c := c0) hC81 (by omega) (by omega) hroom81; obtain ⟨A81, hA81⟩ : ∃ aa_, aa_ = (if c0 = (t135 : Int).toNat then (some ad128) else ((some ad128) : Option Addr).map (·.add ((t135 : Int).toNat * 3))) := ⟨_, rfl⟩; obtain ⟨c81, hc81⟩ : ∃ c1, c1 = c0 - (t135 : Int).toNat := ⟨_, rfl⟩; have hy81 : y141.length = ((ji2) : Int).toNat - (t135 : Int).toNat := (by rw [Ny141.out, List.length_drop, List.length_take] <;> omega); rw [show ((l0).take ((ji2) : Int).toNat).drop (t135 : Int).toNat = y141 from Ny141.out.symm] at hr81; replace hr81 : Kd.C k54 _ A81 y141.length y141 := (by rw [hA81]; exact hr81); rw [← hy81, ← hA81, ← hc81] at hcut81; have HR144 := Aside0.mk hr81; have HC144 := Aside0.mk (show y141.length ≤ c81 from by rw [hy81, hc81]; exact Nat.sub_le_sub_right (Nat.le_trans (by omega) hroom81) _); clear hr81 hC81 hroom81 hi081 hsz81 hc81; have KY81 := Aside0.mk hy81; have KA81 := Aside0.mk hA81; clear hy81 hA81; replace q81 := eq_true q81) | ((with_reducible refine gate_callee (f := 28) rfl ?_); refine goesL_ (some 44) rfl rfl Tryd.func28 (by kernel_rfl) rfl #[.slice A81 y141.length c81] rfl ga_ ?_; (with_reducible refine (ih k (by omega) _ _ y141 t145 _ ?side1 ?side2 A21.out).mono ?_); (case side1 => exact cs_ (Kd.C_below HR144.out HB.out)); (case side2 => exact HC144.out); rintro e w82 ⟨rfl, hb⟩; refine ⟨_, rfl, ?_⟩; have n0_ := Aside0.mk (below_step (bl_ HB.out) hb); clear HB; have HB := n0_; clear n0_; (try clear hb); (try clear hb2); (try clear hk); (try clear hi); have p146 : 0 ≤ ((ji2) : Int) := of_decide_eq_true as_; have q146 : (ji2) < (l0.length : Int) := of_decide_eq_true as_; obtain ⟨ad146, e146, hx146_0, hx146_1, hx146_2⟩ := at_T54 HR0.out (ji2) p146 q146; obtain rfl : ad128 = ad146 := (by injection e146); replace hx146_0 := cx_ HB.out hx146_0; replace hx146_1 := cx_ HB.out hx146_1; replace hx146_2 := cx_ HB.out hx146_2; replace p146 := eq_true p146; replace q146 := eq_true q146; have p148 : 0 ≤ ((ji41) : Int) := of_decide_eq_true as_; have q148 : (ji41) < (l0.length : Int) := of_decide_eq_true as_; obtain ⟨ad148, e148, hx148_0, hx148_1, hx148_2⟩ := at_T54 HR0.out (ji41) p148 q148; obtain rfl : ad128 = ad148 := (by injection e148); replace hx148_0 := cx_ HB.out hx148_0; replace hx148_1 := cx_ HB.out hx148_1; replace hx148_2 := cx_ HB.out hx148_2; replace p148 := eq_true p148; replace q148 := eq_true q148; have p150 : 0 ≤ ((ji65) : Int) := of_decide_eq_true as_; have q150 : (ji65) < (l0.length : Int) := of_decide_eq_true as_; obtain ⟨ad150, e150, hx150_0, hx150_1, hx150_2⟩ := at_T54 HR0.out (ji65) p150 q150; obtain rfl : ad128 = ad150 := (by injection e150); replace hx150_0 := cx_ HB.out hx150_0; replace hx150_1 := cx_ HB.out hx150_1; replace hx150_2 := cx_ HB.out hx150_2; replace p150 := eq_true p150; replace q150 := eq_true q150))
     go_ret
     exact ⟨by first | rfl | (simp [errW_none, errW_some] <;> rfl) | (simp only [← hji2, ← hji41, ← hji65]; first | rfl | (simp [errW_none, errW_some] <;> rfl)) | (simp [*, errW_none, errW_some] <;> rfl), bl_ HB.out⟩

/-! ### spec_TermText: function 21 -/
def spec_TermText.f (k : Nat) (a0_0 : Int) (l0_1 : List Int) (l1 : List (S54)) : Option (ByteArray) := (spec_TermOk.f k a0_0 l0_1 l1).bind fun t152 => (if t152 = true then ((spec_l3Text.f k l1).bind fun t153 => (some t153)) else (some (⟨#[]⟩ : ByteArray)))
set_option maxHeartbeats 8000000 in
set_option maxRecDepth 100000 in
theorem spec_TermText.calls (k : Nat) (a0_0 : Int) (A0_1 : Option Addr) (c0_1 : Nat) (l0_1 : List Int) (A1 : Option Addr) (c1 : Nat) (l1 : List (S54)) (r : ByteArray) (w : World) (hr0_1 : Kd.C (Kd.int .i64) w A0_1 l0_1.length l0_1) (hc0_1 : l0_1.length ≤ c0_1) (hr1 : Kd.C k54 w A1 l1.length l1) (hc1 : l1.length ≤ c1) (h : spec_TermText.f k a0_0 l0_1 l1 = some r) :
  Calls Tryd.prog 21 #[.agg #[.int .i64 a0_0, .slice A0_1 l0_1.length c0_1], .slice A1 l1.length c1] w fun e w' => e = .returned (.string r) ∧ Below w.heap.size w w' := by
 have hu25 := Tryd.underlying25; have HR0_1 := Aside0.mk hr0_1; have HC0_1 := Aside0.mk hc0_1; clear hr0_1 hc0_1; have HR1 := Aside0.mk hr1; have HC1 := Aside0.mk hc1; clear hr1 hc1; have HB := Aside0.mk (Below.refl w.heap.size w); have H := h; clear h
 unfold spec_TermText.f at H
 replace H := Option.bind_eq_some_iff.mp H; obtain ⟨t152, A30, H⟩ := H
 try dsimp only at H
 have A3 := Aside0.mk A30; clear A30
 by_cases c4 : t152 = true
 ·subst c4
  rw [if_pos rfl] at H
  replace H := Option.bind_eq_some_iff.mp H; obtain ⟨t153, A50, H⟩ := H
  try dsimp only at H
  have A5 := Aside0.mk A50; clear A50; obtain rfl := Option.some.inj H
  go_enter Tryd.func21, Tryd.ntmps21
  go_wp2_with (first | ((with_reducible refine gate_dst (N := 2) rfl ?_); refine box_event ?hg (N := 2) ?hd (cs := #[.int .i64 a0_0, .slice A0_1 l0_1.length c0_1]) (t := 25) ?hr ?_; (case hd => rfl); (case hg => rfl); (case hr => first | (go_simp; done) | (go_simp; rfl)); intro gb151 hg w6 hbox hb; have n0_ := Aside0.mk (below_step (bl_ HB.out) hb); have n1_ := Aside0.mk (hbox); have n2_ := Aside0.mk ((by rw [hg]; exact (below_size (bl_ HB.out)) : w.heap.size ≤ gb151)); have n3_ := Aside0.mk ((by rw [hg]; exact (below_size (bl_ HB.out)) : w.heap.size ≤ gb151)); clear HB; have HB := n0_; have BK151 := n1_; have GW151 := n2_; have GE151 := n3_; clear n0_ n1_ n2_ n3_; clear hb hbox hg; have hcz7_0 : w6.cell? ⟨gb151, 0, none⟩ = some (.int .i64 a0_0) := (blk_cell BK151.out 0).trans rfl; have hcz7_1 : w6.cell? ⟨gb151, 1, none⟩ = some (.slice A0_1 l0_1.length c0_1) := (blk_cell BK151.out 1).trans rfl; have hfz7_0 := blk_frozen BK151.out 0; have hfz7_1 := blk_frozen BK151.out 1) | ((with_reducible refine gate_callee (f := 27) rfl ?_); refine goesL_ (some 7) rfl rfl Tryd.func27 (by kernel_rfl) rfl #[.agg #[.int .i64 a0_0, .slice A0_1 l0_1.length c0_1], .slice A1 l1.length c1] rfl ga_ ?_; (with_reducible refine (spec_TermOk.calls k a0_0 _ _ l0_1 _ _ l1 true _ ?side1 ?side2 ?side3 ?side4 A3.out).mono ?_); (case side1 => exact cs_ (Kd.C_below HR0_1.out HB.out)); (case side2 => exact HC0_1.out); (case side3 => exact cs_ (Kd.C_below HR1.out HB.out)); (case side4 => exact HC1.out); rintro e w8 ⟨rfl, hb⟩; refine ⟨_, rfl, ?_⟩; have n0_ := Aside0.mk (blk_below (g := gb151) (o := .cells #[.int .i64 a0_0, .slice A0_1 l0_1.length c0_1] 25 (0, 0)) (bk_ BK151.out) hb); have n1_ := Aside0.mk (below_step (bs_ HB.out GE151.out) hb); clear BK151; clear HB; have BK151 := n0_; have HB := n1_; clear n0_ n1_; (try clear hb); (try clear hb2); (try clear hk); (try clear hi)) | ((with_reducible refine gate_callee (f := 28) rfl ?_); refine goesL_ (some 10) rfl rfl Tryd.func28 (by kernel_rfl) rfl #[.slice A1 l1.length c1] rfl ga_ ?_; (with_reducible refine (spec_l3Text.calls k _ _ l1 t153 _ ?side1 ?side2 A5.out).mono ?_); (case side1 => exact cs_ (Kd.C_below HR1.out HB.out)); (case side2 => exact HC1.out); rintro e w9 ⟨rfl, hb⟩; refine ⟨_, rfl, ?_⟩; have n0_ := Aside0.mk (blk_below (g := gb151) (o := .cells #[.int .i64 a0_0, .slice A0_1 l0_1.length c0_1] 25 (0, 0)) (bk_ BK151.out) hb); have n1_ := Aside0.mk (below_step (bs_ HB.out GE151.out) hb); clear BK151; clear HB; have BK151 := n0_; have HB := n1_; clear n0_ n1_; (try clear hb); (try clear hb2); (try clear hk); (try clear hi)))
  go_ret
  exact ⟨sr_, bs_ HB.out GE151.out⟩
 ·replace c4 := Bool.eq_false_iff.mpr c4
  subst c4
  rw [if_neg (show ¬ (false = true) by decide)] at H
  obtain rfl := Option.some.inj H
  go_enter Tryd.func21, Tryd.ntmps21
  go_wp2_with (first | ((with_reducible refine gate_dst (N := 2) rfl ?_); refine box_event ?hg (N := 2) ?hd (cs := #[.int .i64 a0_0, .slice A0_1 l0_1.length c0_1]) (t := 25) ?hr ?_; (case hd => rfl); (case hg => rfl); (case hr => first | (go_simp; done) | (go_simp; rfl)); intro gb151 hg w10 hbox hb; have n0_ := Aside0.mk (below_step (bl_ HB.out) hb); have n1_ := Aside0.mk (hbox); have n2_ := Aside0.mk ((by rw [hg]; exact (below_size (bl_ HB.out)) : w.heap.size ≤ gb151)); have n3_ := Aside0.mk ((by rw [hg]; exact (below_size (bl_ HB.out)) : w.heap.size ≤ gb151)); clear HB; have HB := n0_; have BK151 := n1_; have GW151 := n2_; have GE151 := n3_; clear n0_ n1_ n2_ n3_; clear hb hbox hg; have hcz11_0 : w10.cell? ⟨gb151, 0, none⟩ = some (.int .i64 a0_0) := (blk_cell BK151.out 0).trans rfl; have hcz11_1 : w10.cell? ⟨gb151, 1, none⟩ = some (.slice A0_1 l0_1.length c0_1) := (blk_cell BK151.out 1).trans rfl; have hfz11_0 := blk_frozen BK151.out 0; have hfz11_1 := blk_frozen BK151.out 1) | ((with_reducible refine gate_callee (f := 27) rfl ?_); refine goesL_ (some 7) rfl rfl Tryd.func27 (by kernel_rfl) rfl #[.agg #[.int .i64 a0_0, .slice A0_1 l0_1.length c0_1], .slice A1 l1.length c1] rfl ga_ ?_; (with_reducible refine (spec_TermOk.calls k a0_0 _ _ l0_1 _ _ l1 false _ ?side1 ?side2 ?side3 ?side4 A3.out).mono ?_); (case side1 => exact cs_ (Kd.C_below HR0_1.out HB.out)); (case side2 => exact HC0_1.out); (case side3 => exact cs_ (Kd.C_below HR1.out HB.out)); (case side4 => exact HC1.out); rintro e w12 ⟨rfl, hb⟩; refine ⟨_, rfl, ?_⟩; have n0_ := Aside0.mk (blk_below (g := gb151) (o := .cells #[.int .i64 a0_0, .slice A0_1 l0_1.length c0_1] 25 (0, 0)) (bk_ BK151.out) hb); have n1_ := Aside0.mk (below_step (bs_ HB.out GE151.out) hb); clear BK151; clear HB; have BK151 := n0_; have HB := n1_; clear n0_ n1_; (try clear hb); (try clear hb2); (try clear hk); (try clear hi)))
  go_ret
  exact ⟨sr_, bs_ HB.out GE151.out⟩

end Go.Proofs.YtoifikhcnioagaaDoor.PFnReadTerm
