/- The row: TermText returns what the reference's returns, for all arguments. No condition. -/
import Derived.Test.YtngcadbabkjllaaDoorRows
import Derived.Test.YtngcadbabkjllaaDoorPFnExactTermTextx11
import Derived.Test.YtngcadbabkjllaaDoorPureFnExactTermText
import Derived.Test.YtngcadbabkjllaaDoorBaseOpen
import Derived.WalkKit
import Derived.ProofKit
import Derived.OpenShut
import Derived.ShutString
import Derived.ChangeOld
import Derived.Below
import Derived.SizedLaws
import Derived.Test.YtngcadbabkjllaaDoorTie
import Derived.Test.YtngcadbabkjllaaDoorCards
import Derived.LaidMore
import Derived.LaidLaws
import Derived.Stop.Joined
import Derived.SevenTiedAt
namespace Go.Proofs.YtngcadbabkjllaaDoor.fnExactTermText
open Go.ChangeShapes Go.WideShapes Go.ChangeAt Go.RowKit Go.Proofs.YtngcadbabkjllaaDoor.BaseOpen Go.Proofs.YtngcadbabkjllaaDoorW.PrintWords
set_option linter.unusedVariables false
theorem own : ownKnob Tryd.prog.godebug = none := by kernel_rfl
theorem laidOut : laidOutB Tryd.prog = true := by kernel_rfl
/-- The door's own heap meets the condition: closed facts. -/
theorem door_met (os : Os) (args : Array Value) : laidMetH Tryd.prog Rows.fnExactTermTextRow.laid ((World.doorLaid Tryd.prog 400 os).forCall (fun _ _ => 0) ⟨#[], args, []⟩).memory :=
  laidMetH_of_parts3 (fuel := 8) (laidMet_of_run' 8 (by kernel_rfl) (by kernel_rfl)) (by kernel_rfl) (by kernel_rfl)
set_option maxRecDepth 100000 in
theorem lifted (os : Os) (started : os.Started) (H : Type) (enc : TypeId × Value → H) :
    ReturnsInHanded {} Tryd.checked os 3 .any (fun w args => (Rows.fnExactTermTextSpec.pre enc Tryd.prog Tryd.f3 Rows.fnExactTermTextRow.domain false w args ∧ laidMetH Tryd.prog Rows.fnExactTermTextRow.laid w) ∧ sizedMet enc Tryd.prog Tryd.f3 (OpenSpec.ofChange Rows.fnExactTermTextSpec) false w args) (Rows.fnExactTermTextSpec.post enc Tryd.prog Tryd.f3 false true false false) := by
  refine returnsInHanded_of_change_and (C := Tryd.checked) (X := fun w _ => laidMetH Tryd.prog Rows.fnExactTermTextRow.laid w) (fun _ _ _ hh h => h.of_heap hh) own started (by kernel_rfl) Tryd.func3
    (ChangeSpec.witness_shaped (enc := enc) (C := Tryd.checked) (os := os) (X := fun w _ => laidMetH Tryd.prog Rows.fnExactTermTextRow.laid w) false (World.doorLaid Tryd.prog 400 os) #[.agg #[.int .i64 0, .slice none 0 0], .slice none 0 0] 8 rfl (World.shaped_of_RefB (by kernel_rfl) (by kernel_rfl)) (by kernel_rfl) (by kernel_rfl) (by kernel_rfl) (door_met os _)) ?_
  intro W base args ds gs before hval0 hW hcnd hsz0 hlaid _
  have hval : ∀ (j : Nat) t v, Tryd.f3.params[j]? = some t → args[j]? = some v → Value.okWide Tryd.prog W .any base t v := hval0
  have hW' := hW
  obtain ⟨p, q, hA0, hV, rfl, hfz, hnd⟩ := hW
  have hA : DataW.TrodAll enc Tryd.prog W 0 (fun _ => true) true Tryd.f3.params.toList args.toList ds p := hA0
  rw [Tryd.params3] at hA hval
  obtain ⟨v0, vs0, d0, ds0, p0, q0, hargs, rfl, rfl, h0, r0⟩ := trodAll_cons hA
  obtain ⟨v1, vs1, d1, ds1, p1, q1, rfl, rfl, rfl, h1, r1⟩ := trodAll_cons r0
  obtain ⟨rfl, rfl, rfl⟩ := trodAll_nil r1
  obtain rfl : args = #[v0, v1] := by cases args; simp_all
  obtain ⟨rfl, rfl⟩ := trodVars_none hV
  have k0 := h0
  have lt0 : ∀ x ∈ p0, x.block < W.heap.size := by obtain ⟨m, hm⟩ := k0; exact DataW.trod_lt m _ _ _ hm
  obtain ⟨x0, A0, c0, l0, rfl, wx0, hC0, hc0, hm0, hw0⟩ := open_house Tryd.underlying24 (by kernel_rfl) (by kernel_rfl) Tryd.underlying3 Tryd.underlying22 Tryd.underlying3 (by kernel_rfl) (hval 0 24 v0 rfl rfl) h0
  have k1 := h1
  have lt1 : ∀ x ∈ p1, x.block < W.heap.size := by obtain ⟨m, hm⟩ := k1; exact DataW.trod_lt m _ _ _ hm
  obtain ⟨a1, len1, cap1, rfl⟩ := okWide_slice Tryd.underlying25 (hval 1 25 v1 rfl rfl)
  obtain ⟨l1, rfl, hc1, hm1, hw1, hx1⟩ := open_marks Tryd.underlying25 Tryd.underlying43 (by kernel_rfl) (by kernel_rfl) Tryd.underlying3 Tryd.underlying3 Tryd.underlying3 h1
  have hC1 := reads_marks (w := W) (fun x : PFnExactTermText.S43 => (x.f0, x.f1, x.f2)) (fun m => ⟨m.1, m.2.1, m.2.2⟩) (fun _ => rfl) hm1 hx1
  have hl1 : (l1.map fun m => (⟨m.1, m.2.1, m.2.2⟩ : PFnExactTermText.S43)).length = l1.length := List.length_map _
  clear hA0 hval0 hsz0
  obtain ⟨k, hk⟩ := Pure.fnExactTermText.main x0 l0 hm0 hw0 (l1.map fun m => (⟨m.1, m.2.1, m.2.2⟩ : PFnExactTermText.S43)) (by rw [hl1]; exact hm1) (by rintro x hx; obtain ⟨m, hm, rfl⟩ := List.mem_map.1 hx; exact hw1 m hm)
  have hcall := PFnExactTermText.laws_FnExactTermText.calls k _ _ _ _ _ _ _ true W hC0 hc0 hC1 (by rw [hl1]; exact hc1) hk
  rw [hl1] at hcall
  refine (hcall).mono fun e W' ⟨he, bel0⟩ => ?_
  subst he
  have bel : Below W.heap.size W W' := bel0
  exact ⟨_, rfl, _, _, _, [], _, [], hW', trodAll_mk1 (shut_bool Tryd.underlying4 _), (trodAll_cons_mk (Below.trod laidOut (by kernel_rfl) (of_decide_eq_true (by kernel_rfl)) k0 bel lt0) (trodAll_cons_mk (Below.trod laidOut (by kernel_rfl) (of_decide_eq_true (by kernel_rfl)) k1 bel lt1) trodAll_mk0)), rfl, bel.frame _, fun h => by cases h⟩
theorem over : Rows.fnExactTermTextRow.holds Tryd.pinned (OpenSpec.ofChange Rows.fnExactTermTextSpec) :=
  OpenClaim.holds_of_wide 3 Tryd.f3 rfl rfl rfl rfl rfl rfl rfl ⟨rfl, rfl, rfl, rfl, rfl⟩ rfl rfl rfl rfl rfl (by kernel_rfl) Tryd.func3 (by kernel_rfl)
    (of_decide_eq_true (by kernel_rfl)) (by unfold Func.isWrapper; first | (rw [if_pos (by decide +kernel)]; kernel_rfl) | (rw [if_neg (by decide +kernel)]; exact ⟨rfl, rfl⟩))
    (fun os started H enc _ => lifted os started H enc)
theorem proved : Rows.FnExactTermTextCardSaid :=
  Claim7.holds_tied_plain_at .later [] [.data, .data, .data] true (true, "c186fd5fda1867e45c91fbad94af19cabba11e49644ba078cf32a179d4b6d1cb") false
    over (fun _ h => by cases h) (by kernel_rfl) (fun _ h => by cases h) fnExactTermText_row_tie rfl ⟨rfl, rfl⟩ (by kernel_rfl) rfl
    (fun f fn hf hfn => by
      obtain rfl : f = 3 := Option.some.inj ((show Tryd.prog.funcNamed "loop.example/charterrules/laws.FnExactTermText" = some 3 by kernel_rfl).symm.trans hf) |>.symm
      obtain rfl : fn = Tryd.f3 := (Option.some.inj (Tryd.func3.symm.trans hfn)).symm
      exact ⟨by kernel_rfl, fun j t ht => by
        rw [Tryd.params3] at ht
        have hm := Array.mem_of_getElem? ht
        have hall : (Tryd.f3.params.toList.all fun u => !Tryd.prog.wantsStandIn u) = true := by kernel_rfl
        rw [Tryd.params3] at hall
        have := List.all_eq_true.1 hall t (by simpa using hm)
        have e_ : Tryd.prog.wantsStandIn t = false := by simpa using this
        exact e_⟩)
    (by kernel_rfl)
#print axioms proved
end Go.Proofs.YtngcadbabkjllaaDoor.fnExactTermText
namespace Go.Proofs.YtngcadbabkjllaaDoor
/-- The row, under a short name, for the claim. -/
theorem fnExactTermText_holds : Rows.FnExactTermTextCardSaid := fnExactTermText.proved
end Go.Proofs.YtngcadbabkjllaaDoor
