/- The row: IdleIn returns what the reference's returns, for all arguments. No condition. -/
import Derived.Test.YtngcadbabkjllaaRows
import Derived.Test.YtngcadbabkjllaaPFnExactIdleInx11
import Derived.Test.YtngcadbabkjllaaPureFnExactIdleIn
import Derived.Test.YtngcadbabkjllaaBaseOpen
import Derived.WalkKit
import Derived.ProofKit
import Derived.OpenShut
import Derived.ShutString
import Derived.ChangeOld
import Derived.Below
import Derived.SizedLaws
namespace Go.Proofs.Ytngcadbabkjllaa.fnExactIdleIn
open Go.ChangeShapes Go.WideShapes Go.ChangeAt Go.RowKit Go.Proofs.Ytngcadbabkjllaa.BaseOpen Go.Proofs.YtngcadbabkjllaaW.PrintWords
set_option linter.unusedVariables false
theorem own : ownKnob Try.prog.godebug = none := by kernel_rfl
theorem laidOut : laidOutB Try.prog = true := by kernel_rfl
set_option maxRecDepth 100000 in
theorem lifted (os : Os) (started : os.Started) (H : Type) (enc : TypeId × Value → H) :
    ReturnsInHanded {} Try.checked os 10 .any (Rows.fnExactIdleInSpec.pre6 enc Try.prog Try.f10 Rows.fnExactIdleInRow.domain false) (Rows.fnExactIdleInSpec.post enc Try.prog Try.f10 false true false false) := by
  refine returnsInHanded_of_change_sized (C := Try.checked) own started (by kernel_rfl) Try.func10
    (ChangeSpec.witness6 (enc := enc) (C := Try.checked) false ⟨#[], #[.agg #[.int .i64 0, .slice none 0 0], .slice none 0 0], []⟩ 8 (by kernel_rfl) (by kernel_rfl) (by kernel_rfl) (by kernel_rfl)) ?_
  intro W base args ds gs before hval0 hW hcnd hsz0 _
  have hval : ∀ (j : Nat) t v, Try.f10.params[j]? = some t → args[j]? = some v → Value.okWide Try.prog W .any base t v := hval0
  have hW' := hW
  obtain ⟨p, q, hA0, hV, rfl, hfz, hnd⟩ := hW
  have hA : DataW.TrodAll enc Try.prog W 0 (fun _ => true) true Try.f10.params.toList args.toList ds p := hA0
  rw [Try.params10] at hA hval
  obtain ⟨v0, vs0, d0, ds0, p0, q0, hargs, rfl, rfl, h0, r0⟩ := trodAll_cons hA
  obtain ⟨v1, vs1, d1, ds1, p1, q1, rfl, rfl, rfl, h1, r1⟩ := trodAll_cons r0
  obtain ⟨rfl, rfl, rfl⟩ := trodAll_nil r1
  obtain rfl : args = #[v0, v1] := by cases args; simp_all
  obtain ⟨rfl, rfl⟩ := trodVars_none hV
  have k0 := h0
  have lt0 : ∀ x ∈ p0, x.block < W.heap.size := by obtain ⟨m, hm⟩ := k0; exact DataW.trod_lt m _ _ _ hm
  obtain ⟨x0, A0, c0, l0, rfl, wx0, hC0, hc0, hm0, hw0⟩ := open_house Try.underlying37 (by kernel_rfl) (by kernel_rfl) Try.underlying3 Try.underlying23 Try.underlying3 (by kernel_rfl) (hval 0 37 v0 rfl rfl) h0
  have k1 := h1
  have lt1 : ∀ x ∈ p1, x.block < W.heap.size := by obtain ⟨m, hm⟩ := k1; exact DataW.trod_lt m _ _ _ hm
  obtain ⟨a1, len1, cap1, rfl⟩ := okWide_slice Try.underlying38 (hval 1 38 v1 rfl rfl)
  obtain ⟨l1, rfl, hc1, hm1, hw1, hx1⟩ := open_marks Try.underlying38 Try.underlying61 (by kernel_rfl) (by kernel_rfl) Try.underlying3 Try.underlying3 Try.underlying3 h1
  have hC1 := reads_marks (w := W) (fun x : PFnExactIdleIn.S61 => (x.f0, x.f1, x.f2)) (fun m => ⟨m.1, m.2.1, m.2.2⟩) (fun _ => rfl) hm1 hx1
  have hl1 : (l1.map fun m => (⟨m.1, m.2.1, m.2.2⟩ : PFnExactIdleIn.S61)).length = l1.length := List.length_map _
  clear hA0 hval0 hsz0
  obtain ⟨k, hk⟩ := Pure.fnExactIdleIn.main x0 l0 hm0 hw0 (l1.map fun m => (⟨m.1, m.2.1, m.2.2⟩ : PFnExactIdleIn.S61)) (by rw [hl1]; exact hm1) (by rintro x hx; obtain ⟨m, hm, rfl⟩ := List.mem_map.1 hx; exact hw1 m hm)
  have hcall := PFnExactIdleIn.laws_FnExactIdleIn.calls k _ _ _ _ _ _ _ true W hC0 hc0 hC1 (by rw [hl1]; exact hc1) hk
  rw [hl1] at hcall
  refine (hcall).mono fun e W' ⟨he, bel0⟩ => ?_
  subst he
  have bel : Below W.heap.size W W' := bel0
  exact ⟨_, rfl, _, _, _, [], _, [], hW', trodAll_mk1 (shut_bool Try.underlying4 _), (trodAll_cons_mk (Below.trod laidOut (by kernel_rfl) (of_decide_eq_true (by kernel_rfl)) k0 bel lt0) (trodAll_cons_mk (Below.trod laidOut (by kernel_rfl) (of_decide_eq_true (by kernel_rfl)) k1 bel lt1) trodAll_mk0)), rfl, bel.frame _, fun h => by cases h⟩
theorem over : Rows.fnExactIdleInRow.holds Try.pinned (OpenSpec.ofChange Rows.fnExactIdleInSpec) :=
  OpenClaim.holds_of_wide 10 Try.f10 rfl rfl rfl rfl rfl rfl rfl ⟨rfl, rfl, rfl, rfl, rfl⟩ rfl rfl rfl rfl rfl (by kernel_rfl) Try.func10 (by kernel_rfl)
    (of_decide_eq_true (by kernel_rfl)) (by unfold Func.isWrapper; first | (rw [if_pos (by decide +kernel)]; kernel_rfl) | (rw [if_neg (by decide +kernel)]; exact ⟨rfl, rfl⟩))
    (fun os started H enc _ => lifted os started H enc)
theorem proved : Rows.FnExactIdleInSaid := over
#print axioms proved
end Go.Proofs.Ytngcadbabkjllaa.fnExactIdleIn
namespace Go.Proofs.Ytngcadbabkjllaa
/-- The row, under a short name, for the claim. -/
theorem fnExactIdleIn_holds : Rows.FnExactIdleInSaid := fnExactIdleIn.proved
end Go.Proofs.Ytngcadbabkjllaa
