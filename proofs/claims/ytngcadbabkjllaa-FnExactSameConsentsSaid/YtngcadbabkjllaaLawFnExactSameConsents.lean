/- The row: SameConsents returns what the reference's returns, for all arguments. No condition. -/
import Derived.Test.YtngcadbabkjllaaRows
import Derived.Test.YtngcadbabkjllaaPFnExactSameConsentsx12
import Derived.Test.YtngcadbabkjllaaPureFnExactSameConsents
import Derived.Test.YtngcadbabkjllaaBaseOpen
import Derived.WalkKit
import Derived.ProofKit
import Derived.OpenShut
import Derived.ShutString
import Derived.ChangeOld
import Derived.Below
import Derived.SizedLaws
namespace Go.Proofs.Ytngcadbabkjllaa.fnExactSameConsents
open Go.ChangeShapes Go.WideShapes Go.ChangeAt Go.RowKit Go.Proofs.Ytngcadbabkjllaa.BaseOpen Go.Proofs.YtngcadbabkjllaaW.PrintWords
set_option linter.unusedVariables false
theorem own : ownKnob Try.prog.godebug = none := by kernel_rfl
theorem laidOut : laidOutB Try.prog = true := by kernel_rfl
set_option maxRecDepth 100000 in
theorem lifted (os : Os) (started : os.Started) (H : Type) (enc : TypeId × Value → H) :
    ReturnsInHanded {} Try.checked os 6 .any (Rows.fnExactSameConsentsSpec.pre6 enc Try.prog Try.f6 Rows.fnExactSameConsentsRow.domain false) (Rows.fnExactSameConsentsSpec.post enc Try.prog Try.f6 false true false false) := by
  refine returnsInHanded_of_change_sized (C := Try.checked) own started (by kernel_rfl) Try.func6
    (ChangeSpec.witness6 (enc := enc) (C := Try.checked) false ⟨#[], #[.agg #[.int .i64 0, .slice none 0 0], .slice none 0 0, .slice none 0 0], []⟩ 8 (by kernel_rfl) (by kernel_rfl) (by kernel_rfl) (by kernel_rfl)) ?_
  intro W base args ds gs before hval0 hW hcnd hsz0 _
  have hval : ∀ (j : Nat) t v, Try.f6.params[j]? = some t → args[j]? = some v → Value.okWide Try.prog W .any base t v := hval0
  have hW' := hW
  obtain ⟨p, q, hA0, hV, rfl, hfz, hnd⟩ := hW
  have hA : DataW.TrodAll enc Try.prog W 0 (fun _ => true) true Try.f6.params.toList args.toList ds p := hA0
  rw [Try.params6] at hA hval
  obtain ⟨v0, vs0, d0, ds0, p0, q0, hargs, rfl, rfl, h0, r0⟩ := trodAll_cons hA
  obtain ⟨v1, vs1, d1, ds1, p1, q1, rfl, rfl, rfl, h1, r1⟩ := trodAll_cons r0
  obtain ⟨v2, vs2, d2, ds2, p2, q2, rfl, rfl, rfl, h2, r2⟩ := trodAll_cons r1
  obtain ⟨rfl, rfl, rfl⟩ := trodAll_nil r2
  obtain rfl : args = #[v0, v1, v2] := by cases args; simp_all
  obtain ⟨rfl, rfl⟩ := trodVars_none hV
  have k0 := h0
  have lt0 : ∀ x ∈ p0, x.block < W.heap.size := by obtain ⟨m, hm⟩ := k0; exact DataW.trod_lt m _ _ _ hm
  obtain ⟨x0, A0, c0, l0, rfl, wx0, hC0, hc0, hm0, hw0⟩ := open_house Try.underlying37 (by kernel_rfl) (by kernel_rfl) Try.underlying3 Try.underlying23 Try.underlying3 (by kernel_rfl) (hval 0 37 v0 rfl rfl) h0
  have k1 := h1
  have lt1 : ∀ x ∈ p1, x.block < W.heap.size := by obtain ⟨m, hm⟩ := k1; exact DataW.trod_lt m _ _ _ hm
  obtain ⟨a1, len1, cap1, rfl⟩ := okWide_slice Try.underlying38 (hval 1 38 v1 rfl rfl)
  obtain ⟨l1, rfl, hc1, hm1, hw1, hx1⟩ := open_marks Try.underlying38 Try.underlying61 (by kernel_rfl) (by kernel_rfl) Try.underlying3 Try.underlying3 Try.underlying3 h1
  have hC1 := reads_marks (w := W) (fun x : PFnExactSameConsents.S61 => (x.f0, x.f1, x.f2)) (fun m => ⟨m.1, m.2.1, m.2.2⟩) (fun _ => rfl) hm1 hx1
  have hl1 : (l1.map fun m => (⟨m.1, m.2.1, m.2.2⟩ : PFnExactSameConsents.S61)).length = l1.length := List.length_map _
  have k2 := h2
  have lt2 : ∀ x ∈ p2, x.block < W.heap.size := by obtain ⟨m, hm⟩ := k2; exact DataW.trod_lt m _ _ _ hm
  obtain ⟨a2, len2, cap2, rfl⟩ := okWide_slice Try.underlying38 (hval 2 38 v2 rfl rfl)
  obtain ⟨l2, rfl, hc2, hm2, hw2, hx2⟩ := open_marks Try.underlying38 Try.underlying61 (by kernel_rfl) (by kernel_rfl) Try.underlying3 Try.underlying3 Try.underlying3 h2
  have hC2 := reads_marks (w := W) (fun x : PFnExactSameConsents.S61 => (x.f0, x.f1, x.f2)) (fun m => ⟨m.1, m.2.1, m.2.2⟩) (fun _ => rfl) hm2 hx2
  have hl2 : (l2.map fun m => (⟨m.1, m.2.1, m.2.2⟩ : PFnExactSameConsents.S61)).length = l2.length := List.length_map _
  clear hA0 hval0 hsz0
  obtain ⟨k, hk⟩ := Pure.fnExactSameConsents.main x0 l0 hm0 hw0 (l1.map fun m => (⟨m.1, m.2.1, m.2.2⟩ : PFnExactSameConsents.S61)) (by rw [hl1]; exact hm1) (by rintro x hx; obtain ⟨m, hm, rfl⟩ := List.mem_map.1 hx; exact hw1 m hm) (l2.map fun m => (⟨m.1, m.2.1, m.2.2⟩ : PFnExactSameConsents.S61)) (by rw [hl2]; exact hm2) (by rintro x hx; obtain ⟨m, hm, rfl⟩ := List.mem_map.1 hx; exact hw2 m hm)
  have hcall := PFnExactSameConsents.laws_FnExactSameConsents.calls k _ _ _ _ _ _ _ _ _ _ true W hC0 hc0 hC1 (by rw [hl1]; exact hc1) hC2 (by rw [hl2]; exact hc2) hk
  rw [hl1, hl2] at hcall
  refine (hcall).mono fun e W' ⟨he, bel0⟩ => ?_
  subst he
  have bel : Below W.heap.size W W' := bel0
  exact ⟨_, rfl, _, _, _, [], _, [], hW', trodAll_mk1 (shut_bool Try.underlying4 _), (trodAll_cons_mk (Below.trod laidOut (by kernel_rfl) (of_decide_eq_true (by kernel_rfl)) k0 bel lt0) (trodAll_cons_mk (Below.trod laidOut (by kernel_rfl) (of_decide_eq_true (by kernel_rfl)) k1 bel lt1) (trodAll_cons_mk (Below.trod laidOut (by kernel_rfl) (of_decide_eq_true (by kernel_rfl)) k2 bel lt2) trodAll_mk0))), rfl, bel.frame _, fun h => by cases h⟩
theorem over : Rows.fnExactSameConsentsRow.holds Try.pinned (OpenSpec.ofChange Rows.fnExactSameConsentsSpec) :=
  OpenClaim.holds_of_wide 6 Try.f6 rfl rfl rfl rfl rfl rfl rfl ⟨rfl, rfl, rfl, rfl, rfl⟩ rfl rfl rfl rfl rfl (by kernel_rfl) Try.func6 (by kernel_rfl)
    (of_decide_eq_true (by kernel_rfl)) (by unfold Func.isWrapper; first | (rw [if_pos (by decide +kernel)]; kernel_rfl) | (rw [if_neg (by decide +kernel)]; exact ⟨rfl, rfl⟩))
    (fun os started H enc _ => lifted os started H enc)
theorem proved : Rows.FnExactSameConsentsSaid := over
#print axioms proved
end Go.Proofs.Ytngcadbabkjllaa.fnExactSameConsents
namespace Go.Proofs.Ytngcadbabkjllaa
/-- The row, under a short name, for the claim. -/
theorem fnExactSameConsents_holds : Rows.FnExactSameConsentsSaid := fnExactSameConsents.proved
end Go.Proofs.Ytngcadbabkjllaa
