/-
  No cell of these rows narrows 'for every input' (looked for: loops, veiled, ifaces, maps, wideKeys, modest, calm, conditions, laid).
  DERIVED. THE GIVEN ROWS OF THIS SEAT. 9 by the template 'for every input the law returns true; each argument reads behind the call as it read before'; 0 by the template 'total and deterministic' (their statements: YtngcadbabkjllaaTotals.lean).
  GIVEN WITH THE SEED: the statements are not yours to turn. If you find one false, say at which input.
  Laid BY PROGRAM, IN A SANDBOX (cutbox-rows.mjs): the forced cells as the released guide's own fill.sh prints them over the translation 6bcaeb11d9892d65… (all of the seat's roots in one cut). By AI agents, Wed Nov 11 2026. No macro, syntax, notation, axiom, sorry.
-/
import Derived.Test.YtngcadbabkjllaaChecked
import GoSem.Claim
import GoSem.ClaimJoined
import GoSem.ClaimMapViews
import Derived.JoinedTies
import Derived.KernelRfl
namespace Go.Proofs.Ytngcadbabkjllaa
/- THE CELL 'sum', in the pinned program and in every row, IS THE sha256 OF THE DUMP (.gsa) THAT YtngcadbabkjllaaProg.lean LOADS. Nothing in Lean hashes anything: it is a label: what it is worth is what the hold of that sum in a sandbox is worth. -/
noncomputable def Try.pinned : Pinned := { name := "ytngcadbabkjllaa", sum := "6bcaeb11d9892d6577dcc80ee2c011a0aa3e6a0955d166d4f44e87c1c00e7f1d", checked := Try.checked }
namespace Rows
def none {H : Type} : Left H := { results := [], args := [] }

/-- 'laws.FnBothEither': WHATEVER THE INPUT: true; the input reads as it did. -/
def fnBothEitherSpec : ChangeSpec := { name := "fnBothEither", fn := fun _ => fun
  | [d] => { results := [.lit (.bool true)], args := [d] }
  | _ => none }
def fnBothEitherRow : OpenClaim := { program := "ytngcadbabkjllaa", sum := "6bcaeb11d9892d6577dcc80ee2c011a0aa3e6a0955d166d4f44e87c1c00e7f1d", func := "loop.example/charterrules/laws.FnBothEither", spec := "fnBothEither", apart := false }
def FnBothEitherSaid : Prop := fnBothEitherRow.holds Try.pinned (OpenSpec.ofChange fnBothEitherSpec)

/-- ITS FALSE NEIGHBOUR: 'it returns false'. Refute it at one input. -/
def fnBothEitherWrong : ChangeSpec := { name := "fnBothEither", fn := fun _ => fun
  | [d] => { results := [.lit (.bool false)], args := [d] }
  | _ => none }
def FnBothEitherWrongFalsely : Prop := fnBothEitherRow.holds Try.pinned (OpenSpec.ofChange fnBothEitherWrong)

/-- 'laws.FnExactClashOk': WHATEVER THE INPUT: true; the input reads as it did. -/
def fnExactClashOkSpec : ChangeSpec := { name := "fnExactClashOk", fn := fun _ => fun
  | [d1, d2] => { results := [.lit (.bool true)], args := [d1, d2] }
  | _ => none }
def fnExactClashOkRow : OpenClaim := { program := "ytngcadbabkjllaa", sum := "6bcaeb11d9892d6577dcc80ee2c011a0aa3e6a0955d166d4f44e87c1c00e7f1d", func := "loop.example/charterrules/laws.FnExactClashOk", spec := "fnExactClashOk", recurses := true, apart := false }
def FnExactClashOkSaid : Prop := fnExactClashOkRow.holds Try.pinned (OpenSpec.ofChange fnExactClashOkSpec)

/-- ITS FALSE NEIGHBOUR: 'it returns false'. Refute it at one input. -/
def fnExactClashOkWrong : ChangeSpec := { name := "fnExactClashOk", fn := fun _ => fun
  | [d1, d2] => { results := [.lit (.bool false)], args := [d1, d2] }
  | _ => none }
def FnExactClashOkWrongFalsely : Prop := fnExactClashOkRow.holds Try.pinned (OpenSpec.ofChange fnExactClashOkWrong)

/-- 'laws.FnExactDecisiveOk': WHATEVER THE INPUT: true; the input reads as it did. -/
def fnExactDecisiveOkSpec : ChangeSpec := { name := "fnExactDecisiveOk", fn := fun _ => fun
  | [d1, d2] => { results := [.lit (.bool true)], args := [d1, d2] }
  | _ => none }
def fnExactDecisiveOkRow : OpenClaim := { program := "ytngcadbabkjllaa", sum := "6bcaeb11d9892d6577dcc80ee2c011a0aa3e6a0955d166d4f44e87c1c00e7f1d", func := "loop.example/charterrules/laws.FnExactDecisiveOk", spec := "fnExactDecisiveOk", recurses := true, apart := false }
def FnExactDecisiveOkSaid : Prop := fnExactDecisiveOkRow.holds Try.pinned (OpenSpec.ofChange fnExactDecisiveOkSpec)

/-- ITS FALSE NEIGHBOUR: 'it returns false'. Refute it at one input. -/
def fnExactDecisiveOkWrong : ChangeSpec := { name := "fnExactDecisiveOk", fn := fun _ => fun
  | [d1, d2] => { results := [.lit (.bool false)], args := [d1, d2] }
  | _ => none }
def FnExactDecisiveOkWrongFalsely : Prop := fnExactDecisiveOkRow.holds Try.pinned (OpenSpec.ofChange fnExactDecisiveOkWrong)

/-- 'laws.FnExactSameConsents': WHATEVER THE INPUT: true; the input reads as it did. -/
def fnExactSameConsentsSpec : ChangeSpec := { name := "fnExactSameConsents", fn := fun _ => fun
  | [d1, d2, d3] => { results := [.lit (.bool true)], args := [d1, d2, d3] }
  | _ => none }
def fnExactSameConsentsRow : OpenClaim := { program := "ytngcadbabkjllaa", sum := "6bcaeb11d9892d6577dcc80ee2c011a0aa3e6a0955d166d4f44e87c1c00e7f1d", func := "loop.example/charterrules/laws.FnExactSameConsents", spec := "fnExactSameConsents", recurses := true, apart := false }
def FnExactSameConsentsSaid : Prop := fnExactSameConsentsRow.holds Try.pinned (OpenSpec.ofChange fnExactSameConsentsSpec)

/-- ITS FALSE NEIGHBOUR: 'it returns false'. Refute it at one input. -/
def fnExactSameConsentsWrong : ChangeSpec := { name := "fnExactSameConsents", fn := fun _ => fun
  | [d1, d2, d3] => { results := [.lit (.bool false)], args := [d1, d2, d3] }
  | _ => none }
def FnExactSameConsentsWrongFalsely : Prop := fnExactSameConsentsRow.holds Try.pinned (OpenSpec.ofChange fnExactSameConsentsWrong)

/-- 'laws.FnExactNeededIn': WHATEVER THE INPUT: true; the input reads as it did. -/
def fnExactNeededInSpec : ChangeSpec := { name := "fnExactNeededIn", fn := fun _ => fun
  | [d1, d2] => { results := [.lit (.bool true)], args := [d1, d2] }
  | _ => none }
def fnExactNeededInRow : OpenClaim := { program := "ytngcadbabkjllaa", sum := "6bcaeb11d9892d6577dcc80ee2c011a0aa3e6a0955d166d4f44e87c1c00e7f1d", func := "loop.example/charterrules/laws.FnExactNeededIn", spec := "fnExactNeededIn", recurses := true, apart := false }
def FnExactNeededInSaid : Prop := fnExactNeededInRow.holds Try.pinned (OpenSpec.ofChange fnExactNeededInSpec)

/-- ITS FALSE NEIGHBOUR: 'it returns false'. Refute it at one input. -/
def fnExactNeededInWrong : ChangeSpec := { name := "fnExactNeededIn", fn := fun _ => fun
  | [d1, d2] => { results := [.lit (.bool false)], args := [d1, d2] }
  | _ => none }
def FnExactNeededInWrongFalsely : Prop := fnExactNeededInRow.holds Try.pinned (OpenSpec.ofChange fnExactNeededInWrong)

/-- 'laws.FnExactCountConsents': WHATEVER THE INPUT: true; the input reads as it did. -/
def fnExactCountConsentsSpec : ChangeSpec := { name := "fnExactCountConsents", fn := fun _ => fun
  | [d1, d2] => { results := [.lit (.bool true)], args := [d1, d2] }
  | _ => none }
def fnExactCountConsentsRow : OpenClaim := { program := "ytngcadbabkjllaa", sum := "6bcaeb11d9892d6577dcc80ee2c011a0aa3e6a0955d166d4f44e87c1c00e7f1d", func := "loop.example/charterrules/laws.FnExactCountConsents", spec := "fnExactCountConsents", recurses := true, apart := false }
def FnExactCountConsentsSaid : Prop := fnExactCountConsentsRow.holds Try.pinned (OpenSpec.ofChange fnExactCountConsentsSpec)

/-- ITS FALSE NEIGHBOUR: 'it returns false'. Refute it at one input. -/
def fnExactCountConsentsWrong : ChangeSpec := { name := "fnExactCountConsents", fn := fun _ => fun
  | [d1, d2] => { results := [.lit (.bool false)], args := [d1, d2] }
  | _ => none }
def FnExactCountConsentsWrongFalsely : Prop := fnExactCountConsentsRow.holds Try.pinned (OpenSpec.ofChange fnExactCountConsentsWrong)

/-- 'laws.FnCountConsents': WHATEVER THE INPUT: true; the input reads as it did. -/
def fnCountConsentsSpec : ChangeSpec := { name := "fnCountConsents", fn := fun _ => fun
  | [d] => { results := [.lit (.bool true)], args := [d] }
  | _ => none }
def fnCountConsentsRow : OpenClaim := { program := "ytngcadbabkjllaa", sum := "6bcaeb11d9892d6577dcc80ee2c011a0aa3e6a0955d166d4f44e87c1c00e7f1d", func := "loop.example/charterrules/laws.FnCountConsents", spec := "fnCountConsents", recurses := true, apart := false }
def FnCountConsentsSaid : Prop := fnCountConsentsRow.holds Try.pinned (OpenSpec.ofChange fnCountConsentsSpec)

/-- ITS FALSE NEIGHBOUR: 'it returns false'. Refute it at one input. -/
def fnCountConsentsWrong : ChangeSpec := { name := "fnCountConsents", fn := fun _ => fun
  | [d] => { results := [.lit (.bool false)], args := [d] }
  | _ => none }
def FnCountConsentsWrongFalsely : Prop := fnCountConsentsRow.holds Try.pinned (OpenSpec.ofChange fnCountConsentsWrong)

/-- 'laws.FnExactIdleIn': WHATEVER THE INPUT: true; the input reads as it did. -/
def fnExactIdleInSpec : ChangeSpec := { name := "fnExactIdleIn", fn := fun _ => fun
  | [d1, d2] => { results := [.lit (.bool true)], args := [d1, d2] }
  | _ => none }
def fnExactIdleInRow : OpenClaim := { program := "ytngcadbabkjllaa", sum := "6bcaeb11d9892d6577dcc80ee2c011a0aa3e6a0955d166d4f44e87c1c00e7f1d", func := "loop.example/charterrules/laws.FnExactIdleIn", spec := "fnExactIdleIn", recurses := true, apart := false }
def FnExactIdleInSaid : Prop := fnExactIdleInRow.holds Try.pinned (OpenSpec.ofChange fnExactIdleInSpec)

/-- ITS FALSE NEIGHBOUR: 'it returns false'. Refute it at one input. -/
def fnExactIdleInWrong : ChangeSpec := { name := "fnExactIdleIn", fn := fun _ => fun
  | [d1, d2] => { results := [.lit (.bool false)], args := [d1, d2] }
  | _ => none }
def FnExactIdleInWrongFalsely : Prop := fnExactIdleInRow.holds Try.pinned (OpenSpec.ofChange fnExactIdleInWrong)

/-- 'laws.FnDecisiveOk': WHATEVER THE INPUT: true; the input reads as it did. -/
def fnDecisiveOkSpec : ChangeSpec := { name := "fnDecisiveOk", fn := fun _ => fun
  | [d] => { results := [.lit (.bool true)], args := [d] }
  | _ => none }
def fnDecisiveOkRow : OpenClaim := { program := "ytngcadbabkjllaa", sum := "6bcaeb11d9892d6577dcc80ee2c011a0aa3e6a0955d166d4f44e87c1c00e7f1d", func := "loop.example/charterrules/laws.FnDecisiveOk", spec := "fnDecisiveOk", recurses := true, apart := false }
def FnDecisiveOkSaid : Prop := fnDecisiveOkRow.holds Try.pinned (OpenSpec.ofChange fnDecisiveOkSpec)

/-- ITS FALSE NEIGHBOUR: 'it returns false'. Refute it at one input. -/
def fnDecisiveOkWrong : ChangeSpec := { name := "fnDecisiveOk", fn := fun _ => fun
  | [d] => { results := [.lit (.bool false)], args := [d] }
  | _ => none }
def FnDecisiveOkWrongFalsely : Prop := fnDecisiveOkRow.holds Try.pinned (OpenSpec.ofChange fnDecisiveOkWrong)

/- THE SECOND FORM. 'bulk': how many values and letters a reading holds, each counted each time it is reached (what is shared counts as often as it is met; a slice's spare places count too). A statement '..UptoSaid' is the law's where the arguments, and the package variables that the reading takes, are together of bulk at most 1048576: NARROWER than '..Said'. Prove '..Said' where nothing that the law and all that it calls make is longer than what came in: it says more and counts as full. Else prove '..UptoSaid'. A law counts once. -/
mutual
def uptoBulk {H : Type} : DataW H → Nat
  | .lit (.string bytes) => bytes.length + 1
  | .lit _ => 1
  | .nil => 1
  | .ptr d => uptoBulk d + 1
  | .slice elems spare => uptoBulkAll elems + uptoBulkAll spare + 1
  | .agg parts => uptoBulkAll parts + 1
  | .iface _ d => uptoBulk d + 1
  | .map entries => uptoBulkEntries entries + 1
  | .held _ => 1
def uptoBulkAll {H : Type} : List (DataW H) → Nat
  | [] => 0
  | d :: r => uptoBulk d + uptoBulkAll r
def uptoBulkEntries {H : Type} : List (Lit × DataW H) → Nat
  | [] => 0
  | x :: r => uptoBulkEntry x + uptoBulkEntries r
def uptoBulkEntry {H : Type} : Lit × DataW H → Nat
  | (.string bytes, d) => bytes.length + uptoBulk d + 1
  | (_, d) => uptoBulk d + 1
 end
def uptoSmall : (H : Type) → List (DataW H) → Bool := fun _ ds => decide (uptoBulkAll ds ≤ 1048576)
def OpenSpec.upto (s : _root_.Go.ChangeSpec) : _root_.Go.OpenSpec := { _root_.Go.OpenSpec.ofChange s with cond := some uptoSmall }

/-- 'laws.FnBothEither', WHERE WHAT IT READS IS OF BULK AT MOST 1048576: true; the input reads as it did. -/
def fnBothEitherUptoRow : OpenClaim := { program := "ytngcadbabkjllaa", sum := "6bcaeb11d9892d6577dcc80ee2c011a0aa3e6a0955d166d4f44e87c1c00e7f1d", func := "loop.example/charterrules/laws.FnBothEither", spec := "fnBothEither", apart := false, narrowed := true }
def FnBothEitherUptoSaid : Prop := fnBothEitherUptoRow.holds Try.pinned (OpenSpec.upto fnBothEitherSpec)

/-- 'laws.FnExactClashOk', WHERE WHAT IT READS IS OF BULK AT MOST 1048576: true; the input reads as it did. -/
def fnExactClashOkUptoRow : OpenClaim := { program := "ytngcadbabkjllaa", sum := "6bcaeb11d9892d6577dcc80ee2c011a0aa3e6a0955d166d4f44e87c1c00e7f1d", func := "loop.example/charterrules/laws.FnExactClashOk", spec := "fnExactClashOk", recurses := true, apart := false, narrowed := true }
def FnExactClashOkUptoSaid : Prop := fnExactClashOkUptoRow.holds Try.pinned (OpenSpec.upto fnExactClashOkSpec)

/-- 'laws.FnExactDecisiveOk', WHERE WHAT IT READS IS OF BULK AT MOST 1048576: true; the input reads as it did. -/
def fnExactDecisiveOkUptoRow : OpenClaim := { program := "ytngcadbabkjllaa", sum := "6bcaeb11d9892d6577dcc80ee2c011a0aa3e6a0955d166d4f44e87c1c00e7f1d", func := "loop.example/charterrules/laws.FnExactDecisiveOk", spec := "fnExactDecisiveOk", recurses := true, apart := false, narrowed := true }
def FnExactDecisiveOkUptoSaid : Prop := fnExactDecisiveOkUptoRow.holds Try.pinned (OpenSpec.upto fnExactDecisiveOkSpec)

/-- 'laws.FnExactSameConsents', WHERE WHAT IT READS IS OF BULK AT MOST 1048576: true; the input reads as it did. -/
def fnExactSameConsentsUptoRow : OpenClaim := { program := "ytngcadbabkjllaa", sum := "6bcaeb11d9892d6577dcc80ee2c011a0aa3e6a0955d166d4f44e87c1c00e7f1d", func := "loop.example/charterrules/laws.FnExactSameConsents", spec := "fnExactSameConsents", recurses := true, apart := false, narrowed := true }
def FnExactSameConsentsUptoSaid : Prop := fnExactSameConsentsUptoRow.holds Try.pinned (OpenSpec.upto fnExactSameConsentsSpec)

/-- 'laws.FnExactNeededIn', WHERE WHAT IT READS IS OF BULK AT MOST 1048576: true; the input reads as it did. -/
def fnExactNeededInUptoRow : OpenClaim := { program := "ytngcadbabkjllaa", sum := "6bcaeb11d9892d6577dcc80ee2c011a0aa3e6a0955d166d4f44e87c1c00e7f1d", func := "loop.example/charterrules/laws.FnExactNeededIn", spec := "fnExactNeededIn", recurses := true, apart := false, narrowed := true }
def FnExactNeededInUptoSaid : Prop := fnExactNeededInUptoRow.holds Try.pinned (OpenSpec.upto fnExactNeededInSpec)

/-- 'laws.FnExactCountConsents', WHERE WHAT IT READS IS OF BULK AT MOST 1048576: true; the input reads as it did. -/
def fnExactCountConsentsUptoRow : OpenClaim := { program := "ytngcadbabkjllaa", sum := "6bcaeb11d9892d6577dcc80ee2c011a0aa3e6a0955d166d4f44e87c1c00e7f1d", func := "loop.example/charterrules/laws.FnExactCountConsents", spec := "fnExactCountConsents", recurses := true, apart := false, narrowed := true }
def FnExactCountConsentsUptoSaid : Prop := fnExactCountConsentsUptoRow.holds Try.pinned (OpenSpec.upto fnExactCountConsentsSpec)

/-- 'laws.FnCountConsents', WHERE WHAT IT READS IS OF BULK AT MOST 1048576: true; the input reads as it did. -/
def fnCountConsentsUptoRow : OpenClaim := { program := "ytngcadbabkjllaa", sum := "6bcaeb11d9892d6577dcc80ee2c011a0aa3e6a0955d166d4f44e87c1c00e7f1d", func := "loop.example/charterrules/laws.FnCountConsents", spec := "fnCountConsents", recurses := true, apart := false, narrowed := true }
def FnCountConsentsUptoSaid : Prop := fnCountConsentsUptoRow.holds Try.pinned (OpenSpec.upto fnCountConsentsSpec)

/-- 'laws.FnExactIdleIn', WHERE WHAT IT READS IS OF BULK AT MOST 1048576: true; the input reads as it did. -/
def fnExactIdleInUptoRow : OpenClaim := { program := "ytngcadbabkjllaa", sum := "6bcaeb11d9892d6577dcc80ee2c011a0aa3e6a0955d166d4f44e87c1c00e7f1d", func := "loop.example/charterrules/laws.FnExactIdleIn", spec := "fnExactIdleIn", recurses := true, apart := false, narrowed := true }
def FnExactIdleInUptoSaid : Prop := fnExactIdleInUptoRow.holds Try.pinned (OpenSpec.upto fnExactIdleInSpec)

/-- 'laws.FnDecisiveOk', WHERE WHAT IT READS IS OF BULK AT MOST 1048576: true; the input reads as it did. -/
def fnDecisiveOkUptoRow : OpenClaim := { program := "ytngcadbabkjllaa", sum := "6bcaeb11d9892d6577dcc80ee2c011a0aa3e6a0955d166d4f44e87c1c00e7f1d", func := "loop.example/charterrules/laws.FnDecisiveOk", spec := "fnDecisiveOk", recurses := true, apart := false, narrowed := true }
def FnDecisiveOkUptoSaid : Prop := fnDecisiveOkUptoRow.holds Try.pinned (OpenSpec.upto fnDecisiveOkSpec)

end Rows
end Go.Proofs.Ytngcadbabkjllaa
