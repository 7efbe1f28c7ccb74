/-
  No cell of these rows narrows 'for every input' (looked for: loops, veiled, ifaces, maps, wideKeys, modest, calm, conditions, laid).
  DERIVED. THE GIVEN ROWS OF THIS SEAT. 11 by the template 'for every input the law returns true; each argument reads behind the call as it read before'; 0 by the template 'total and deterministic' (their statements: YtcphhlkonheadaaTotals.lean).
  GIVEN WITH THE SEED: the statements are not yours to turn. If you find one false, say at which input.
  Laid BY PROGRAM, IN A SANDBOX (cutbox-rows.mjs): the forced cells as the released guide's own fill.sh prints them over the translation 8e344994328233f7… (all of the seat's roots in one cut). By AI agents, Wed Nov 11 2026. No macro, syntax, notation, axiom, sorry.
-/
import Derived.Test.YtcphhlkonheadaaChecked
import GoSem.Claim
import GoSem.ClaimJoined
import GoSem.ClaimMapViews
import Derived.JoinedTies
import Derived.KernelRfl
namespace Go.Proofs.Ytcphhlkonheadaa
/- THE CELL 'sum', in the pinned program and in every row, IS THE sha256 OF THE DUMP (.gsa) THAT YtcphhlkonheadaaProg.lean LOADS. Nothing in Lean hashes anything: it is a label: what it is worth is what the hold of that sum in a sandbox is worth. -/
noncomputable def Try.pinned : Pinned := { name := "ytcphhlkonheadaa", sum := "8e344994328233f7994dc69c5984891f8d602d05323cc40b183aa8aaac45d962", checked := Try.checked }
namespace Rows
def none {H : Type} : Left H := { results := [], args := [] }

/-- 'laws.FnMajorityBody': WHATEVER THE INPUT: true; the input reads as it did. -/
def fnMajorityBodySpec : ChangeSpec := { name := "fnMajorityBody", fn := fun _ => fun
  | [d] => { results := [.lit (.bool true)], args := [d] }
  | _ => none }
def fnMajorityBodyRow : OpenClaim := { program := "ytcphhlkonheadaa", sum := "8e344994328233f7994dc69c5984891f8d602d05323cc40b183aa8aaac45d962", func := "loop.example/charterrules/laws.FnMajorityBody", spec := "fnMajorityBody", apart := false }
def FnMajorityBodySaid : Prop := fnMajorityBodyRow.holds Try.pinned (OpenSpec.ofChange fnMajorityBodySpec)

/-- ITS FALSE NEIGHBOUR: 'it returns false'. Refute it at one input. -/
def fnMajorityBodyWrong : ChangeSpec := { name := "fnMajorityBody", fn := fun _ => fun
  | [d] => { results := [.lit (.bool false)], args := [d] }
  | _ => none }
def FnMajorityBodyWrongFalsely : Prop := fnMajorityBodyRow.holds Try.pinned (OpenSpec.ofChange fnMajorityBodyWrong)

/-- 'laws.FnMajorityOk': WHATEVER THE INPUT: true; the input reads as it did. -/
def fnMajorityOkSpec : ChangeSpec := { name := "fnMajorityOk", fn := fun _ => fun
  | [d1, d2] => { results := [.lit (.bool true)], args := [d1, d2] }
  | _ => none }
def fnMajorityOkRow : OpenClaim := { program := "ytcphhlkonheadaa", sum := "8e344994328233f7994dc69c5984891f8d602d05323cc40b183aa8aaac45d962", func := "loop.example/charterrules/laws.FnMajorityOk", spec := "fnMajorityOk", apart := false }
def FnMajorityOkSaid : Prop := fnMajorityOkRow.holds Try.pinned (OpenSpec.ofChange fnMajorityOkSpec)

/-- ITS FALSE NEIGHBOUR: 'it returns false'. Refute it at one input. -/
def fnMajorityOkWrong : ChangeSpec := { name := "fnMajorityOk", fn := fun _ => fun
  | [d1, d2] => { results := [.lit (.bool false)], args := [d1, d2] }
  | _ => none }
def FnMajorityOkWrongFalsely : Prop := fnMajorityOkRow.holds Try.pinned (OpenSpec.ofChange fnMajorityOkWrong)

/-- 'laws.FnHeadsOf': WHATEVER THE INPUT: true; the input reads as it did. -/
def fnHeadsOfSpec : ChangeSpec := { name := "fnHeadsOf", fn := fun _ => fun
  | [d] => { results := [.lit (.bool true)], args := [d] }
  | _ => none }
def fnHeadsOfRow : OpenClaim := { program := "ytcphhlkonheadaa", sum := "8e344994328233f7994dc69c5984891f8d602d05323cc40b183aa8aaac45d962", func := "loop.example/charterrules/laws.FnHeadsOf", spec := "fnHeadsOf", apart := false }
def FnHeadsOfSaid : Prop := fnHeadsOfRow.holds Try.pinned (OpenSpec.ofChange fnHeadsOfSpec)

/-- ITS FALSE NEIGHBOUR: 'it returns false'. Refute it at one input. -/
def fnHeadsOfWrong : ChangeSpec := { name := "fnHeadsOf", fn := fun _ => fun
  | [d] => { results := [.lit (.bool false)], args := [d] }
  | _ => none }
def FnHeadsOfWrongFalsely : Prop := fnHeadsOfRow.holds Try.pinned (OpenSpec.ofChange fnHeadsOfWrong)

/-- 'laws.FnBodyOk': WHATEVER THE INPUT: true; the input reads as it did. -/
def fnBodyOkSpec : ChangeSpec := { name := "fnBodyOk", fn := fun _ => fun
  | [d] => { results := [.lit (.bool true)], args := [d] }
  | _ => none }
def fnBodyOkRow : OpenClaim := { program := "ytcphhlkonheadaa", sum := "8e344994328233f7994dc69c5984891f8d602d05323cc40b183aa8aaac45d962", func := "loop.example/charterrules/laws.FnBodyOk", spec := "fnBodyOk", apart := false }
def FnBodyOkSaid : Prop := fnBodyOkRow.holds Try.pinned (OpenSpec.ofChange fnBodyOkSpec)

/-- ITS FALSE NEIGHBOUR: 'it returns false'. Refute it at one input. -/
def fnBodyOkWrong : ChangeSpec := { name := "fnBodyOk", fn := fun _ => fun
  | [d] => { results := [.lit (.bool false)], args := [d] }
  | _ => none }
def FnBodyOkWrongFalsely : Prop := fnBodyOkRow.holds Try.pinned (OpenSpec.ofChange fnBodyOkWrong)

/-- 'laws.FnDecidesOk': WHATEVER THE INPUT: true; the input reads as it did. -/
def fnDecidesOkSpec : ChangeSpec := { name := "fnDecidesOk", fn := fun _ => fun
  | [d] => { results := [.lit (.bool true)], args := [d] }
  | _ => none }
def fnDecidesOkRow : OpenClaim := { program := "ytcphhlkonheadaa", sum := "8e344994328233f7994dc69c5984891f8d602d05323cc40b183aa8aaac45d962", func := "loop.example/charterrules/laws.FnDecidesOk", spec := "fnDecidesOk", apart := false }
def FnDecidesOkSaid : Prop := fnDecidesOkRow.holds Try.pinned (OpenSpec.ofChange fnDecidesOkSpec)

/-- ITS FALSE NEIGHBOUR: 'it returns false'. Refute it at one input. -/
def fnDecidesOkWrong : ChangeSpec := { name := "fnDecidesOk", fn := fun _ => fun
  | [d] => { results := [.lit (.bool false)], args := [d] }
  | _ => none }
def FnDecidesOkWrongFalsely : Prop := fnDecidesOkRow.holds Try.pinned (OpenSpec.ofChange fnDecidesOkWrong)

/-- 'laws.FnDualBody': WHATEVER THE INPUT: true; the input reads as it did. -/
def fnDualBodySpec : ChangeSpec := { name := "fnDualBody", fn := fun _ => fun
  | [d] => { results := [.lit (.bool true)], args := [d] }
  | _ => none }
def fnDualBodyRow : OpenClaim := { program := "ytcphhlkonheadaa", sum := "8e344994328233f7994dc69c5984891f8d602d05323cc40b183aa8aaac45d962", func := "loop.example/charterrules/laws.FnDualBody", spec := "fnDualBody", apart := false }
def FnDualBodySaid : Prop := fnDualBodyRow.holds Try.pinned (OpenSpec.ofChange fnDualBodySpec)

/-- ITS FALSE NEIGHBOUR: 'it returns false'. Refute it at one input. -/
def fnDualBodyWrong : ChangeSpec := { name := "fnDualBody", fn := fun _ => fun
  | [d] => { results := [.lit (.bool false)], args := [d] }
  | _ => none }
def FnDualBodyWrongFalsely : Prop := fnDualBodyRow.holds Try.pinned (OpenSpec.ofChange fnDualBodyWrong)

/-- 'laws.FnBlocksOk': WHATEVER THE INPUT: true; the input reads as it did. -/
def fnBlocksOkSpec : ChangeSpec := { name := "fnBlocksOk", fn := fun _ => fun
  | [d] => { results := [.lit (.bool true)], args := [d] }
  | _ => none }
def fnBlocksOkRow : OpenClaim := { program := "ytcphhlkonheadaa", sum := "8e344994328233f7994dc69c5984891f8d602d05323cc40b183aa8aaac45d962", func := "loop.example/charterrules/laws.FnBlocksOk", spec := "fnBlocksOk", apart := false }
def FnBlocksOkSaid : Prop := fnBlocksOkRow.holds Try.pinned (OpenSpec.ofChange fnBlocksOkSpec)

/-- ITS FALSE NEIGHBOUR: 'it returns false'. Refute it at one input. -/
def fnBlocksOkWrong : ChangeSpec := { name := "fnBlocksOk", fn := fun _ => fun
  | [d] => { results := [.lit (.bool false)], args := [d] }
  | _ => none }
def FnBlocksOkWrongFalsely : Prop := fnBlocksOkRow.holds Try.pinned (OpenSpec.ofChange fnBlocksOkWrong)

/-- 'laws.FnExactCountDeciding': WHATEVER THE INPUT: true; the input reads as it did. -/
def fnExactCountDecidingSpec : ChangeSpec := { name := "fnExactCountDeciding", fn := fun _ => fun
  | [d1, d2] => { results := [.lit (.bool true)], args := [d1, d2] }
  | _ => none }
def fnExactCountDecidingRow : OpenClaim := { program := "ytcphhlkonheadaa", sum := "8e344994328233f7994dc69c5984891f8d602d05323cc40b183aa8aaac45d962", func := "loop.example/charterrules/laws.FnExactCountDeciding", spec := "fnExactCountDeciding", apart := false }
def FnExactCountDecidingSaid : Prop := fnExactCountDecidingRow.holds Try.pinned (OpenSpec.ofChange fnExactCountDecidingSpec)

/-- ITS FALSE NEIGHBOUR: 'it returns false'. Refute it at one input. -/
def fnExactCountDecidingWrong : ChangeSpec := { name := "fnExactCountDeciding", fn := fun _ => fun
  | [d1, d2] => { results := [.lit (.bool false)], args := [d1, d2] }
  | _ => none }
def FnExactCountDecidingWrongFalsely : Prop := fnExactCountDecidingRow.holds Try.pinned (OpenSpec.ofChange fnExactCountDecidingWrong)

/-- 'laws.FnCountDeciding': WHATEVER THE INPUT: true; the input reads as it did. -/
def fnCountDecidingSpec : ChangeSpec := { name := "fnCountDeciding", fn := fun _ => fun
  | [d] => { results := [.lit (.bool true)], args := [d] }
  | _ => none }
def fnCountDecidingRow : OpenClaim := { program := "ytcphhlkonheadaa", sum := "8e344994328233f7994dc69c5984891f8d602d05323cc40b183aa8aaac45d962", func := "loop.example/charterrules/laws.FnCountDeciding", spec := "fnCountDeciding", apart := false }
def FnCountDecidingSaid : Prop := fnCountDecidingRow.holds Try.pinned (OpenSpec.ofChange fnCountDecidingSpec)

/-- ITS FALSE NEIGHBOUR: 'it returns false'. Refute it at one input. -/
def fnCountDecidingWrong : ChangeSpec := { name := "fnCountDeciding", fn := fun _ => fun
  | [d] => { results := [.lit (.bool false)], args := [d] }
  | _ => none }
def FnCountDecidingWrongFalsely : Prop := fnCountDecidingRow.holds Try.pinned (OpenSpec.ofChange fnCountDecidingWrong)

/-- 'laws.FnExactHouseOk': WHATEVER THE INPUT: true; the input reads as it did. -/
def fnExactHouseOkSpec : ChangeSpec := { name := "fnExactHouseOk", fn := fun _ => fun
  | [d] => { results := [.lit (.bool true)], args := [d] }
  | _ => none }
def fnExactHouseOkRow : OpenClaim := { program := "ytcphhlkonheadaa", sum := "8e344994328233f7994dc69c5984891f8d602d05323cc40b183aa8aaac45d962", func := "loop.example/charterrules/laws.FnExactHouseOk", spec := "fnExactHouseOk", apart := false }
def FnExactHouseOkSaid : Prop := fnExactHouseOkRow.holds Try.pinned (OpenSpec.ofChange fnExactHouseOkSpec)

/-- ITS FALSE NEIGHBOUR: 'it returns false'. Refute it at one input. -/
def fnExactHouseOkWrong : ChangeSpec := { name := "fnExactHouseOk", fn := fun _ => fun
  | [d] => { results := [.lit (.bool false)], args := [d] }
  | _ => none }
def FnExactHouseOkWrongFalsely : Prop := fnExactHouseOkRow.holds Try.pinned (OpenSpec.ofChange fnExactHouseOkWrong)

/-- 'laws.FnHouseOk': WHATEVER THE INPUT: true; the input reads as it did. -/
def fnHouseOkSpec : ChangeSpec := { name := "fnHouseOk", fn := fun _ => fun
  | [d] => { results := [.lit (.bool true)], args := [d] }
  | _ => none }
def fnHouseOkRow : OpenClaim := { program := "ytcphhlkonheadaa", sum := "8e344994328233f7994dc69c5984891f8d602d05323cc40b183aa8aaac45d962", func := "loop.example/charterrules/laws.FnHouseOk", spec := "fnHouseOk", apart := false }
def FnHouseOkSaid : Prop := fnHouseOkRow.holds Try.pinned (OpenSpec.ofChange fnHouseOkSpec)

/-- ITS FALSE NEIGHBOUR: 'it returns false'. Refute it at one input. -/
def fnHouseOkWrong : ChangeSpec := { name := "fnHouseOk", fn := fun _ => fun
  | [d] => { results := [.lit (.bool false)], args := [d] }
  | _ => none }
def FnHouseOkWrongFalsely : Prop := fnHouseOkRow.holds Try.pinned (OpenSpec.ofChange fnHouseOkWrong)

/- THE SECOND FORM. 'bulk': how many values and letters a reading holds, each counted each time it is reached (what is shared counts as often as it is met; a slice's spare places count too). A statement '..UptoSaid' is the law's where the arguments, and the package variables that the reading takes, are together of bulk at most 1048576: NARROWER than '..Said'. Prove '..Said' where nothing that the law and all that it calls make is longer than what came in: it says more and counts as full. Else prove '..UptoSaid'. A law counts once. -/
mutual
def uptoBulk {H : Type} : DataW H → Nat
  | .lit (.string bytes) => bytes.length + 1
  | .lit _ => 1
  | .nil => 1
  | .ptr d => uptoBulk d + 1
  | .slice elems spare => uptoBulkAll elems + uptoBulkAll spare + 1
  | .agg parts => uptoBulkAll parts + 1
  | .iface _ d => uptoBulk d + 1
  | .map entries => uptoBulkEntries entries + 1
  | .held _ => 1
def uptoBulkAll {H : Type} : List (DataW H) → Nat
  | [] => 0
  | d :: r => uptoBulk d + uptoBulkAll r
def uptoBulkEntries {H : Type} : List (Lit × DataW H) → Nat
  | [] => 0
  | x :: r => uptoBulkEntry x + uptoBulkEntries r
def uptoBulkEntry {H : Type} : Lit × DataW H → Nat
  | (.string bytes, d) => bytes.length + uptoBulk d + 1
  | (_, d) => uptoBulk d + 1
 end
def uptoSmall : (H : Type) → List (DataW H) → Bool := fun _ ds => decide (uptoBulkAll ds ≤ 1048576)
def OpenSpec.upto (s : _root_.Go.ChangeSpec) : _root_.Go.OpenSpec := { _root_.Go.OpenSpec.ofChange s with cond := some uptoSmall }

/-- 'laws.FnMajorityBody', WHERE WHAT IT READS IS OF BULK AT MOST 1048576: true; the input reads as it did. -/
def fnMajorityBodyUptoRow : OpenClaim := { program := "ytcphhlkonheadaa", sum := "8e344994328233f7994dc69c5984891f8d602d05323cc40b183aa8aaac45d962", func := "loop.example/charterrules/laws.FnMajorityBody", spec := "fnMajorityBody", apart := false, narrowed := true }
def FnMajorityBodyUptoSaid : Prop := fnMajorityBodyUptoRow.holds Try.pinned (OpenSpec.upto fnMajorityBodySpec)

/-- 'laws.FnMajorityOk', WHERE WHAT IT READS IS OF BULK AT MOST 1048576: true; the input reads as it did. -/
def fnMajorityOkUptoRow : OpenClaim := { program := "ytcphhlkonheadaa", sum := "8e344994328233f7994dc69c5984891f8d602d05323cc40b183aa8aaac45d962", func := "loop.example/charterrules/laws.FnMajorityOk", spec := "fnMajorityOk", apart := false, narrowed := true }
def FnMajorityOkUptoSaid : Prop := fnMajorityOkUptoRow.holds Try.pinned (OpenSpec.upto fnMajorityOkSpec)

/-- 'laws.FnHeadsOf', WHERE WHAT IT READS IS OF BULK AT MOST 1048576: true; the input reads as it did. -/
def fnHeadsOfUptoRow : OpenClaim := { program := "ytcphhlkonheadaa", sum := "8e344994328233f7994dc69c5984891f8d602d05323cc40b183aa8aaac45d962", func := "loop.example/charterrules/laws.FnHeadsOf", spec := "fnHeadsOf", apart := false, narrowed := true }
def FnHeadsOfUptoSaid : Prop := fnHeadsOfUptoRow.holds Try.pinned (OpenSpec.upto fnHeadsOfSpec)

/-- 'laws.FnBodyOk', WHERE WHAT IT READS IS OF BULK AT MOST 1048576: true; the input reads as it did. -/
def fnBodyOkUptoRow : OpenClaim := { program := "ytcphhlkonheadaa", sum := "8e344994328233f7994dc69c5984891f8d602d05323cc40b183aa8aaac45d962", func := "loop.example/charterrules/laws.FnBodyOk", spec := "fnBodyOk", apart := false, narrowed := true }
def FnBodyOkUptoSaid : Prop := fnBodyOkUptoRow.holds Try.pinned (OpenSpec.upto fnBodyOkSpec)

/-- 'laws.FnDecidesOk', WHERE WHAT IT READS IS OF BULK AT MOST 1048576: true; the input reads as it did. -/
def fnDecidesOkUptoRow : OpenClaim := { program := "ytcphhlkonheadaa", sum := "8e344994328233f7994dc69c5984891f8d602d05323cc40b183aa8aaac45d962", func := "loop.example/charterrules/laws.FnDecidesOk", spec := "fnDecidesOk", apart := false, narrowed := true }
def FnDecidesOkUptoSaid : Prop := fnDecidesOkUptoRow.holds Try.pinned (OpenSpec.upto fnDecidesOkSpec)

/-- 'laws.FnDualBody', WHERE WHAT IT READS IS OF BULK AT MOST 1048576: true; the input reads as it did. -/
def fnDualBodyUptoRow : OpenClaim := { program := "ytcphhlkonheadaa", sum := "8e344994328233f7994dc69c5984891f8d602d05323cc40b183aa8aaac45d962", func := "loop.example/charterrules/laws.FnDualBody", spec := "fnDualBody", apart := false, narrowed := true }
def FnDualBodyUptoSaid : Prop := fnDualBodyUptoRow.holds Try.pinned (OpenSpec.upto fnDualBodySpec)

/-- 'laws.FnBlocksOk', WHERE WHAT IT READS IS OF BULK AT MOST 1048576: true; the input reads as it did. -/
def fnBlocksOkUptoRow : OpenClaim := { program := "ytcphhlkonheadaa", sum := "8e344994328233f7994dc69c5984891f8d602d05323cc40b183aa8aaac45d962", func := "loop.example/charterrules/laws.FnBlocksOk", spec := "fnBlocksOk", apart := false, narrowed := true }
def FnBlocksOkUptoSaid : Prop := fnBlocksOkUptoRow.holds Try.pinned (OpenSpec.upto fnBlocksOkSpec)

/-- 'laws.FnExactCountDeciding', WHERE WHAT IT READS IS OF BULK AT MOST 1048576: true; the input reads as it did. -/
def fnExactCountDecidingUptoRow : OpenClaim := { program := "ytcphhlkonheadaa", sum := "8e344994328233f7994dc69c5984891f8d602d05323cc40b183aa8aaac45d962", func := "loop.example/charterrules/laws.FnExactCountDeciding", spec := "fnExactCountDeciding", apart := false, narrowed := true }
def FnExactCountDecidingUptoSaid : Prop := fnExactCountDecidingUptoRow.holds Try.pinned (OpenSpec.upto fnExactCountDecidingSpec)

/-- 'laws.FnCountDeciding', WHERE WHAT IT READS IS OF BULK AT MOST 1048576: true; the input reads as it did. -/
def fnCountDecidingUptoRow : OpenClaim := { program := "ytcphhlkonheadaa", sum := "8e344994328233f7994dc69c5984891f8d602d05323cc40b183aa8aaac45d962", func := "loop.example/charterrules/laws.FnCountDeciding", spec := "fnCountDeciding", apart := false, narrowed := true }
def FnCountDecidingUptoSaid : Prop := fnCountDecidingUptoRow.holds Try.pinned (OpenSpec.upto fnCountDecidingSpec)

/-- 'laws.FnExactHouseOk', WHERE WHAT IT READS IS OF BULK AT MOST 1048576: true; the input reads as it did. -/
def fnExactHouseOkUptoRow : OpenClaim := { program := "ytcphhlkonheadaa", sum := "8e344994328233f7994dc69c5984891f8d602d05323cc40b183aa8aaac45d962", func := "loop.example/charterrules/laws.FnExactHouseOk", spec := "fnExactHouseOk", apart := false, narrowed := true }
def FnExactHouseOkUptoSaid : Prop := fnExactHouseOkUptoRow.holds Try.pinned (OpenSpec.upto fnExactHouseOkSpec)

/-- 'laws.FnHouseOk', WHERE WHAT IT READS IS OF BULK AT MOST 1048576: true; the input reads as it did. -/
def fnHouseOkUptoRow : OpenClaim := { program := "ytcphhlkonheadaa", sum := "8e344994328233f7994dc69c5984891f8d602d05323cc40b183aa8aaac45d962", func := "loop.example/charterrules/laws.FnHouseOk", spec := "fnHouseOk", apart := false, narrowed := true }
def FnHouseOkUptoSaid : Prop := fnHouseOkUptoRow.holds Try.pinned (OpenSpec.upto fnHouseOkSpec)

end Rows
end Go.Proofs.Ytcphhlkonheadaa
