/-
  No cell of these rows narrows 'for every input' (looked for: loops, veiled, ifaces, maps, wideKeys, modest, calm, conditions, laid).
  DERIVED. THE GIVEN ROWS OF THIS SEAT. 12 by the template 'for every input the law returns true; each argument reads behind the call as it read before'; 0 by the template 'total and deterministic' (their statements: YtohnkhjknihhjaaTotals.lean).
  GIVEN WITH THE SEED: the statements are not yours to turn. If you find one false, say at which input.
  Laid BY PROGRAM, IN A SANDBOX (cutbox-rows.mjs): the forced cells as the released guide's own fill.sh prints them over the translation 4cb73ca9f2ae97ec… (all of the seat's roots in one cut). By AI agents, Wed Nov 11 2026. No macro, syntax, notation, axiom, sorry.
-/
import Derived.Test.YtohnkhjknihhjaaChecked
import GoSem.Claim
import GoSem.ClaimJoined
import GoSem.ClaimMapViews
import Derived.JoinedTies
import Derived.KernelRfl
namespace Go.Proofs.Ytohnkhjknihhjaa
/- THE CELL 'sum', in the pinned program and in every row, IS THE sha256 OF THE DUMP (.gsa) THAT YtohnkhjknihhjaaProg.lean LOADS. Nothing in Lean hashes anything: it is a label: what it is worth is what the hold of that sum in a sandbox is worth. -/
noncomputable def Try.pinned : Pinned := { name := "ytohnkhjknihhjaa", sum := "4cb73ca9f2ae97ec24cc5dc1ea41e93b44f974fc67390227b20d6a55be5a75a7", checked := Try.checked }
namespace Rows
def none {H : Type} : Left H := { results := [], args := [] }

/-- 'laws.FnExactConstants': WHATEVER THE INPUT: true; the input reads as it did. -/
def fnExactConstantsSpec : ChangeSpec := { name := "fnExactConstants", fn := fun _ => fun
  | [] => { results := [.lit (.bool true)], args := [] }
  | _ => none }
def fnExactConstantsRow : OpenClaim := { program := "ytohnkhjknihhjaa", sum := "4cb73ca9f2ae97ec24cc5dc1ea41e93b44f974fc67390227b20d6a55be5a75a7", func := "loop.example/charterrules/laws.FnExactConstants", spec := "fnExactConstants", apart := false }
def FnExactConstantsSaid : Prop := fnExactConstantsRow.holds Try.pinned (OpenSpec.ofChange fnExactConstantsSpec)

/-- ITS FALSE NEIGHBOUR: 'it returns false'. Refute it at one input. -/
def fnExactConstantsWrong : ChangeSpec := { name := "fnExactConstants", fn := fun _ => fun
  | [] => { results := [.lit (.bool false)], args := [] }
  | _ => none }
def FnExactConstantsWrongFalsely : Prop := fnExactConstantsRow.holds Try.pinned (OpenSpec.ofChange fnExactConstantsWrong)

/-- 'laws.FnExactCrowdOk': WHATEVER THE INPUT: true; the input reads as it did. -/
def fnExactCrowdOkSpec : ChangeSpec := { name := "fnExactCrowdOk", fn := fun _ => fun
  | [d1, d2] => { results := [.lit (.bool true)], args := [d1, d2] }
  | _ => none }
def fnExactCrowdOkRow : OpenClaim := { program := "ytohnkhjknihhjaa", sum := "4cb73ca9f2ae97ec24cc5dc1ea41e93b44f974fc67390227b20d6a55be5a75a7", func := "loop.example/charterrules/laws.FnExactCrowdOk", spec := "fnExactCrowdOk", apart := false }
def FnExactCrowdOkSaid : Prop := fnExactCrowdOkRow.holds Try.pinned (OpenSpec.ofChange fnExactCrowdOkSpec)

/-- ITS FALSE NEIGHBOUR: 'it returns false'. Refute it at one input. -/
def fnExactCrowdOkWrong : ChangeSpec := { name := "fnExactCrowdOk", fn := fun _ => fun
  | [d1, d2] => { results := [.lit (.bool false)], args := [d1, d2] }
  | _ => none }
def FnExactCrowdOkWrongFalsely : Prop := fnExactCrowdOkRow.holds Try.pinned (OpenSpec.ofChange fnExactCrowdOkWrong)

/-- 'laws.FnExactLackOf': WHATEVER THE INPUT: true; the input reads as it did. -/
def fnExactLackOfSpec : ChangeSpec := { name := "fnExactLackOf", fn := fun _ => fun
  | [d1, d2] => { results := [.lit (.bool true)], args := [d1, d2] }
  | _ => none }
def fnExactLackOfRow : OpenClaim := { program := "ytohnkhjknihhjaa", sum := "4cb73ca9f2ae97ec24cc5dc1ea41e93b44f974fc67390227b20d6a55be5a75a7", func := "loop.example/charterrules/laws.FnExactLackOf", spec := "fnExactLackOf", apart := false }
def FnExactLackOfSaid : Prop := fnExactLackOfRow.holds Try.pinned (OpenSpec.ofChange fnExactLackOfSpec)

/-- ITS FALSE NEIGHBOUR: 'it returns false'. Refute it at one input. -/
def fnExactLackOfWrong : ChangeSpec := { name := "fnExactLackOf", fn := fun _ => fun
  | [d1, d2] => { results := [.lit (.bool false)], args := [d1, d2] }
  | _ => none }
def FnExactLackOfWrongFalsely : Prop := fnExactLackOfRow.holds Try.pinned (OpenSpec.ofChange fnExactLackOfWrong)

/-- 'laws.FnCrowdOk': WHATEVER THE INPUT: true; the input reads as it did. -/
def fnCrowdOkSpec : ChangeSpec := { name := "fnCrowdOk", fn := fun _ => fun
  | [d] => { results := [.lit (.bool true)], args := [d] }
  | _ => none }
def fnCrowdOkRow : OpenClaim := { program := "ytohnkhjknihhjaa", sum := "4cb73ca9f2ae97ec24cc5dc1ea41e93b44f974fc67390227b20d6a55be5a75a7", func := "loop.example/charterrules/laws.FnCrowdOk", spec := "fnCrowdOk", apart := false }
def FnCrowdOkSaid : Prop := fnCrowdOkRow.holds Try.pinned (OpenSpec.ofChange fnCrowdOkSpec)

/-- ITS FALSE NEIGHBOUR: 'it returns false'. Refute it at one input. -/
def fnCrowdOkWrong : ChangeSpec := { name := "fnCrowdOk", fn := fun _ => fun
  | [d] => { results := [.lit (.bool false)], args := [d] }
  | _ => none }
def FnCrowdOkWrongFalsely : Prop := fnCrowdOkRow.holds Try.pinned (OpenSpec.ofChange fnCrowdOkWrong)

/-- 'laws.FnLackOf': WHATEVER THE INPUT: true; the input reads as it did. -/
def fnLackOfSpec : ChangeSpec := { name := "fnLackOf", fn := fun _ => fun
  | [d] => { results := [.lit (.bool true)], args := [d] }
  | _ => none }
def fnLackOfRow : OpenClaim := { program := "ytohnkhjknihhjaa", sum := "4cb73ca9f2ae97ec24cc5dc1ea41e93b44f974fc67390227b20d6a55be5a75a7", func := "loop.example/charterrules/laws.FnLackOf", spec := "fnLackOf", apart := false }
def FnLackOfSaid : Prop := fnLackOfRow.holds Try.pinned (OpenSpec.ofChange fnLackOfSpec)

/-- ITS FALSE NEIGHBOUR: 'it returns false'. Refute it at one input. -/
def fnLackOfWrong : ChangeSpec := { name := "fnLackOf", fn := fun _ => fun
  | [d] => { results := [.lit (.bool false)], args := [d] }
  | _ => none }
def FnLackOfWrongFalsely : Prop := fnLackOfRow.holds Try.pinned (OpenSpec.ofChange fnLackOfWrong)

/-- 'laws.FnExactMajorityOk': WHATEVER THE INPUT: true; the input reads as it did. -/
def fnExactMajorityOkSpec : ChangeSpec := { name := "fnExactMajorityOk", fn := fun _ => fun
  | [d1, d2] => { results := [.lit (.bool true)], args := [d1, d2] }
  | _ => none }
def fnExactMajorityOkRow : OpenClaim := { program := "ytohnkhjknihhjaa", sum := "4cb73ca9f2ae97ec24cc5dc1ea41e93b44f974fc67390227b20d6a55be5a75a7", func := "loop.example/charterrules/laws.FnExactMajorityOk", spec := "fnExactMajorityOk", apart := false }
def FnExactMajorityOkSaid : Prop := fnExactMajorityOkRow.holds Try.pinned (OpenSpec.ofChange fnExactMajorityOkSpec)

/-- ITS FALSE NEIGHBOUR: 'it returns false'. Refute it at one input. -/
def fnExactMajorityOkWrong : ChangeSpec := { name := "fnExactMajorityOk", fn := fun _ => fun
  | [d1, d2] => { results := [.lit (.bool false)], args := [d1, d2] }
  | _ => none }
def FnExactMajorityOkWrongFalsely : Prop := fnExactMajorityOkRow.holds Try.pinned (OpenSpec.ofChange fnExactMajorityOkWrong)

/-- 'laws.FnExactHeadsOf': WHATEVER THE INPUT: true; the input reads as it did. -/
def fnExactHeadsOfSpec : ChangeSpec := { name := "fnExactHeadsOf", fn := fun _ => fun
  | [d1, d2] => { results := [.lit (.bool true)], args := [d1, d2] }
  | _ => none }
def fnExactHeadsOfRow : OpenClaim := { program := "ytohnkhjknihhjaa", sum := "4cb73ca9f2ae97ec24cc5dc1ea41e93b44f974fc67390227b20d6a55be5a75a7", func := "loop.example/charterrules/laws.FnExactHeadsOf", spec := "fnExactHeadsOf", apart := false }
def FnExactHeadsOfSaid : Prop := fnExactHeadsOfRow.holds Try.pinned (OpenSpec.ofChange fnExactHeadsOfSpec)

/-- ITS FALSE NEIGHBOUR: 'it returns false'. Refute it at one input. -/
def fnExactHeadsOfWrong : ChangeSpec := { name := "fnExactHeadsOf", fn := fun _ => fun
  | [d1, d2] => { results := [.lit (.bool false)], args := [d1, d2] }
  | _ => none }
def FnExactHeadsOfWrongFalsely : Prop := fnExactHeadsOfRow.holds Try.pinned (OpenSpec.ofChange fnExactHeadsOfWrong)

/-- 'laws.FnExactBodyOk': WHATEVER THE INPUT: true; the input reads as it did. -/
def fnExactBodyOkSpec : ChangeSpec := { name := "fnExactBodyOk", fn := fun _ => fun
  | [d1, d2] => { results := [.lit (.bool true)], args := [d1, d2] }
  | _ => none }
def fnExactBodyOkRow : OpenClaim := { program := "ytohnkhjknihhjaa", sum := "4cb73ca9f2ae97ec24cc5dc1ea41e93b44f974fc67390227b20d6a55be5a75a7", func := "loop.example/charterrules/laws.FnExactBodyOk", spec := "fnExactBodyOk", apart := false }
def FnExactBodyOkSaid : Prop := fnExactBodyOkRow.holds Try.pinned (OpenSpec.ofChange fnExactBodyOkSpec)

/-- ITS FALSE NEIGHBOUR: 'it returns false'. Refute it at one input. -/
def fnExactBodyOkWrong : ChangeSpec := { name := "fnExactBodyOk", fn := fun _ => fun
  | [d1, d2] => { results := [.lit (.bool false)], args := [d1, d2] }
  | _ => none }
def FnExactBodyOkWrongFalsely : Prop := fnExactBodyOkRow.holds Try.pinned (OpenSpec.ofChange fnExactBodyOkWrong)

/-- 'laws.FnExactSplitOk': WHATEVER THE INPUT: true; the input reads as it did. -/
def fnExactSplitOkSpec : ChangeSpec := { name := "fnExactSplitOk", fn := fun _ => fun
  | [d1, d2] => { results := [.lit (.bool true)], args := [d1, d2] }
  | _ => none }
def fnExactSplitOkRow : OpenClaim := { program := "ytohnkhjknihhjaa", sum := "4cb73ca9f2ae97ec24cc5dc1ea41e93b44f974fc67390227b20d6a55be5a75a7", func := "loop.example/charterrules/laws.FnExactSplitOk", spec := "fnExactSplitOk", apart := false }
def FnExactSplitOkSaid : Prop := fnExactSplitOkRow.holds Try.pinned (OpenSpec.ofChange fnExactSplitOkSpec)

/-- ITS FALSE NEIGHBOUR: 'it returns false'. Refute it at one input. -/
def fnExactSplitOkWrong : ChangeSpec := { name := "fnExactSplitOk", fn := fun _ => fun
  | [d1, d2] => { results := [.lit (.bool false)], args := [d1, d2] }
  | _ => none }
def FnExactSplitOkWrongFalsely : Prop := fnExactSplitOkRow.holds Try.pinned (OpenSpec.ofChange fnExactSplitOkWrong)

/-- 'laws.FnExactDecidesOk': WHATEVER THE INPUT: true; the input reads as it did. -/
def fnExactDecidesOkSpec : ChangeSpec := { name := "fnExactDecidesOk", fn := fun _ => fun
  | [d1, d2, d3] => { results := [.lit (.bool true)], args := [d1, d2, d3] }
  | _ => none }
def fnExactDecidesOkRow : OpenClaim := { program := "ytohnkhjknihhjaa", sum := "4cb73ca9f2ae97ec24cc5dc1ea41e93b44f974fc67390227b20d6a55be5a75a7", func := "loop.example/charterrules/laws.FnExactDecidesOk", spec := "fnExactDecidesOk", apart := false }
def FnExactDecidesOkSaid : Prop := fnExactDecidesOkRow.holds Try.pinned (OpenSpec.ofChange fnExactDecidesOkSpec)

/-- ITS FALSE NEIGHBOUR: 'it returns false'. Refute it at one input. -/
def fnExactDecidesOkWrong : ChangeSpec := { name := "fnExactDecidesOk", fn := fun _ => fun
  | [d1, d2, d3] => { results := [.lit (.bool false)], args := [d1, d2, d3] }
  | _ => none }
def FnExactDecidesOkWrongFalsely : Prop := fnExactDecidesOkRow.holds Try.pinned (OpenSpec.ofChange fnExactDecidesOkWrong)

/-- 'laws.FnExactBlocksOk': WHATEVER THE INPUT: true; the input reads as it did. -/
def fnExactBlocksOkSpec : ChangeSpec := { name := "fnExactBlocksOk", fn := fun _ => fun
  | [d1, d2, d3] => { results := [.lit (.bool true)], args := [d1, d2, d3] }
  | _ => none }
def fnExactBlocksOkRow : OpenClaim := { program := "ytohnkhjknihhjaa", sum := "4cb73ca9f2ae97ec24cc5dc1ea41e93b44f974fc67390227b20d6a55be5a75a7", func := "loop.example/charterrules/laws.FnExactBlocksOk", spec := "fnExactBlocksOk", apart := false }
def FnExactBlocksOkSaid : Prop := fnExactBlocksOkRow.holds Try.pinned (OpenSpec.ofChange fnExactBlocksOkSpec)

/-- ITS FALSE NEIGHBOUR: 'it returns false'. Refute it at one input. -/
def fnExactBlocksOkWrong : ChangeSpec := { name := "fnExactBlocksOk", fn := fun _ => fun
  | [d1, d2, d3] => { results := [.lit (.bool false)], args := [d1, d2, d3] }
  | _ => none }
def FnExactBlocksOkWrongFalsely : Prop := fnExactBlocksOkRow.holds Try.pinned (OpenSpec.ofChange fnExactBlocksOkWrong)

/-- 'laws.FnExactDualBody': WHATEVER THE INPUT: true; the input reads as it did. -/
def fnExactDualBodySpec : ChangeSpec := { name := "fnExactDualBody", fn := fun _ => fun
  | [d1, d2] => { results := [.lit (.bool true)], args := [d1, d2] }
  | _ => none }
def fnExactDualBodyRow : OpenClaim := { program := "ytohnkhjknihhjaa", sum := "4cb73ca9f2ae97ec24cc5dc1ea41e93b44f974fc67390227b20d6a55be5a75a7", func := "loop.example/charterrules/laws.FnExactDualBody", spec := "fnExactDualBody", apart := false }
def FnExactDualBodySaid : Prop := fnExactDualBodyRow.holds Try.pinned (OpenSpec.ofChange fnExactDualBodySpec)

/-- ITS FALSE NEIGHBOUR: 'it returns false'. Refute it at one input. -/
def fnExactDualBodyWrong : ChangeSpec := { name := "fnExactDualBody", fn := fun _ => fun
  | [d1, d2] => { results := [.lit (.bool false)], args := [d1, d2] }
  | _ => none }
def FnExactDualBodyWrongFalsely : Prop := fnExactDualBodyRow.holds Try.pinned (OpenSpec.ofChange fnExactDualBodyWrong)

/- THE SECOND FORM. 'bulk': how many values and letters a reading holds, each counted each time it is reached (what is shared counts as often as it is met; a slice's spare places count too). A statement '..UptoSaid' is the law's where the arguments, and the package variables that the reading takes, are together of bulk at most 1048576: NARROWER than '..Said'. Prove '..Said' where nothing that the law and all that it calls make is longer than what came in: it says more and counts as full. Else prove '..UptoSaid'. A law counts once. -/
mutual
def uptoBulk {H : Type} : DataW H → Nat
  | .lit (.string bytes) => bytes.length + 1
  | .lit _ => 1
  | .nil => 1
  | .ptr d => uptoBulk d + 1
  | .slice elems spare => uptoBulkAll elems + uptoBulkAll spare + 1
  | .agg parts => uptoBulkAll parts + 1
  | .iface _ d => uptoBulk d + 1
  | .map entries => uptoBulkEntries entries + 1
  | .held _ => 1
def uptoBulkAll {H : Type} : List (DataW H) → Nat
  | [] => 0
  | d :: r => uptoBulk d + uptoBulkAll r
def uptoBulkEntries {H : Type} : List (Lit × DataW H) → Nat
  | [] => 0
  | x :: r => uptoBulkEntry x + uptoBulkEntries r
def uptoBulkEntry {H : Type} : Lit × DataW H → Nat
  | (.string bytes, d) => bytes.length + uptoBulk d + 1
  | (_, d) => uptoBulk d + 1
 end
def uptoSmall : (H : Type) → List (DataW H) → Bool := fun _ ds => decide (uptoBulkAll ds ≤ 1048576)
def OpenSpec.upto (s : _root_.Go.ChangeSpec) : _root_.Go.OpenSpec := { _root_.Go.OpenSpec.ofChange s with cond := some uptoSmall }

/-- 'laws.FnExactConstants', WHERE WHAT IT READS IS OF BULK AT MOST 1048576: true; the input reads as it did. -/
def fnExactConstantsUptoRow : OpenClaim := { program := "ytohnkhjknihhjaa", sum := "4cb73ca9f2ae97ec24cc5dc1ea41e93b44f974fc67390227b20d6a55be5a75a7", func := "loop.example/charterrules/laws.FnExactConstants", spec := "fnExactConstants", apart := false, narrowed := true }
def FnExactConstantsUptoSaid : Prop := fnExactConstantsUptoRow.holds Try.pinned (OpenSpec.upto fnExactConstantsSpec)

/-- 'laws.FnExactCrowdOk', WHERE WHAT IT READS IS OF BULK AT MOST 1048576: true; the input reads as it did. -/
def fnExactCrowdOkUptoRow : OpenClaim := { program := "ytohnkhjknihhjaa", sum := "4cb73ca9f2ae97ec24cc5dc1ea41e93b44f974fc67390227b20d6a55be5a75a7", func := "loop.example/charterrules/laws.FnExactCrowdOk", spec := "fnExactCrowdOk", apart := false, narrowed := true }
def FnExactCrowdOkUptoSaid : Prop := fnExactCrowdOkUptoRow.holds Try.pinned (OpenSpec.upto fnExactCrowdOkSpec)

/-- 'laws.FnExactLackOf', WHERE WHAT IT READS IS OF BULK AT MOST 1048576: true; the input reads as it did. -/
def fnExactLackOfUptoRow : OpenClaim := { program := "ytohnkhjknihhjaa", sum := "4cb73ca9f2ae97ec24cc5dc1ea41e93b44f974fc67390227b20d6a55be5a75a7", func := "loop.example/charterrules/laws.FnExactLackOf", spec := "fnExactLackOf", apart := false, narrowed := true }
def FnExactLackOfUptoSaid : Prop := fnExactLackOfUptoRow.holds Try.pinned (OpenSpec.upto fnExactLackOfSpec)

/-- 'laws.FnCrowdOk', WHERE WHAT IT READS IS OF BULK AT MOST 1048576: true; the input reads as it did. -/
def fnCrowdOkUptoRow : OpenClaim := { program := "ytohnkhjknihhjaa", sum := "4cb73ca9f2ae97ec24cc5dc1ea41e93b44f974fc67390227b20d6a55be5a75a7", func := "loop.example/charterrules/laws.FnCrowdOk", spec := "fnCrowdOk", apart := false, narrowed := true }
def FnCrowdOkUptoSaid : Prop := fnCrowdOkUptoRow.holds Try.pinned (OpenSpec.upto fnCrowdOkSpec)

/-- 'laws.FnLackOf', WHERE WHAT IT READS IS OF BULK AT MOST 1048576: true; the input reads as it did. -/
def fnLackOfUptoRow : OpenClaim := { program := "ytohnkhjknihhjaa", sum := "4cb73ca9f2ae97ec24cc5dc1ea41e93b44f974fc67390227b20d6a55be5a75a7", func := "loop.example/charterrules/laws.FnLackOf", spec := "fnLackOf", apart := false, narrowed := true }
def FnLackOfUptoSaid : Prop := fnLackOfUptoRow.holds Try.pinned (OpenSpec.upto fnLackOfSpec)

/-- 'laws.FnExactMajorityOk', WHERE WHAT IT READS IS OF BULK AT MOST 1048576: true; the input reads as it did. -/
def fnExactMajorityOkUptoRow : OpenClaim := { program := "ytohnkhjknihhjaa", sum := "4cb73ca9f2ae97ec24cc5dc1ea41e93b44f974fc67390227b20d6a55be5a75a7", func := "loop.example/charterrules/laws.FnExactMajorityOk", spec := "fnExactMajorityOk", apart := false, narrowed := true }
def FnExactMajorityOkUptoSaid : Prop := fnExactMajorityOkUptoRow.holds Try.pinned (OpenSpec.upto fnExactMajorityOkSpec)

/-- 'laws.FnExactHeadsOf', WHERE WHAT IT READS IS OF BULK AT MOST 1048576: true; the input reads as it did. -/
def fnExactHeadsOfUptoRow : OpenClaim := { program := "ytohnkhjknihhjaa", sum := "4cb73ca9f2ae97ec24cc5dc1ea41e93b44f974fc67390227b20d6a55be5a75a7", func := "loop.example/charterrules/laws.FnExactHeadsOf", spec := "fnExactHeadsOf", apart := false, narrowed := true }
def FnExactHeadsOfUptoSaid : Prop := fnExactHeadsOfUptoRow.holds Try.pinned (OpenSpec.upto fnExactHeadsOfSpec)

/-- 'laws.FnExactBodyOk', WHERE WHAT IT READS IS OF BULK AT MOST 1048576: true; the input reads as it did. -/
def fnExactBodyOkUptoRow : OpenClaim := { program := "ytohnkhjknihhjaa", sum := "4cb73ca9f2ae97ec24cc5dc1ea41e93b44f974fc67390227b20d6a55be5a75a7", func := "loop.example/charterrules/laws.FnExactBodyOk", spec := "fnExactBodyOk", apart := false, narrowed := true }
def FnExactBodyOkUptoSaid : Prop := fnExactBodyOkUptoRow.holds Try.pinned (OpenSpec.upto fnExactBodyOkSpec)

/-- 'laws.FnExactSplitOk', WHERE WHAT IT READS IS OF BULK AT MOST 1048576: true; the input reads as it did. -/
def fnExactSplitOkUptoRow : OpenClaim := { program := "ytohnkhjknihhjaa", sum := "4cb73ca9f2ae97ec24cc5dc1ea41e93b44f974fc67390227b20d6a55be5a75a7", func := "loop.example/charterrules/laws.FnExactSplitOk", spec := "fnExactSplitOk", apart := false, narrowed := true }
def FnExactSplitOkUptoSaid : Prop := fnExactSplitOkUptoRow.holds Try.pinned (OpenSpec.upto fnExactSplitOkSpec)

/-- 'laws.FnExactDecidesOk', WHERE WHAT IT READS IS OF BULK AT MOST 1048576: true; the input reads as it did. -/
def fnExactDecidesOkUptoRow : OpenClaim := { program := "ytohnkhjknihhjaa", sum := "4cb73ca9f2ae97ec24cc5dc1ea41e93b44f974fc67390227b20d6a55be5a75a7", func := "loop.example/charterrules/laws.FnExactDecidesOk", spec := "fnExactDecidesOk", apart := false, narrowed := true }
def FnExactDecidesOkUptoSaid : Prop := fnExactDecidesOkUptoRow.holds Try.pinned (OpenSpec.upto fnExactDecidesOkSpec)

/-- 'laws.FnExactBlocksOk', WHERE WHAT IT READS IS OF BULK AT MOST 1048576: true; the input reads as it did. -/
def fnExactBlocksOkUptoRow : OpenClaim := { program := "ytohnkhjknihhjaa", sum := "4cb73ca9f2ae97ec24cc5dc1ea41e93b44f974fc67390227b20d6a55be5a75a7", func := "loop.example/charterrules/laws.FnExactBlocksOk", spec := "fnExactBlocksOk", apart := false, narrowed := true }
def FnExactBlocksOkUptoSaid : Prop := fnExactBlocksOkUptoRow.holds Try.pinned (OpenSpec.upto fnExactBlocksOkSpec)

/-- 'laws.FnExactDualBody', WHERE WHAT IT READS IS OF BULK AT MOST 1048576: true; the input reads as it did. -/
def fnExactDualBodyUptoRow : OpenClaim := { program := "ytohnkhjknihhjaa", sum := "4cb73ca9f2ae97ec24cc5dc1ea41e93b44f974fc67390227b20d6a55be5a75a7", func := "loop.example/charterrules/laws.FnExactDualBody", spec := "fnExactDualBody", apart := false, narrowed := true }
def FnExactDualBodyUptoSaid : Prop := fnExactDualBodyUptoRow.holds Try.pinned (OpenSpec.upto fnExactDualBodySpec)

end Rows
end Go.Proofs.Ytohnkhjknihhjaa
