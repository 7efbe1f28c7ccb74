/-
  No cell of these rows narrows 'for every input' (looked for: loops, veiled, ifaces, maps, wideKeys, modest, calm, conditions, laid).
  DERIVED. THE GIVEN ROWS OF THIS SEAT. 9 by the template 'for every input the law returns true; each argument reads behind the call as it read before'; 0 by the template 'total and deterministic' (their statements: YtfadpbgidocimaaTotals.lean).
  GIVEN WITH THE SEED: the statements are not yours to turn. If you find one false, say at which input.
  Laid BY PROGRAM, IN A SANDBOX (cutbox-rows.mjs): the forced cells as the released guide's own fill.sh prints them over the translation a93c60d456e1050f… (all of the seat's roots in one cut). By AI agents, Wed Nov 11 2026. No macro, syntax, notation, axiom, sorry.
-/
import Derived.Test.YtfadpbgidocimaaChecked
import GoSem.Claim
import GoSem.ClaimJoined
import GoSem.ClaimMapViews
import Derived.JoinedTies
import Derived.KernelRfl
namespace Go.Proofs.Ytfadpbgidocimaa
/- THE CELL 'sum', in the pinned program and in every row, IS THE sha256 OF THE DUMP (.gsa) THAT YtfadpbgidocimaaProg.lean LOADS. Nothing in Lean hashes anything: it is a label: what it is worth is what the hold of that sum in a sandbox is worth. -/
noncomputable def Try.pinned : Pinned := { name := "ytfadpbgidocimaa", sum := "a93c60d456e1050f923b8307c7aa35f4f5d065c1cc2922dbdeb946d7defd34ce", checked := Try.checked }
namespace Rows
def none {H : Type} : Left H := { results := [], args := [] }

/-- 'laws.FnTermOk': WHATEVER THE INPUT: true; the input reads as it did. -/
def fnTermOkSpec : ChangeSpec := { name := "fnTermOk", fn := fun _ => fun
  | [d] => { results := [.lit (.bool true)], args := [d] }
  | _ => none }
def fnTermOkRow : OpenClaim := { program := "ytfadpbgidocimaa", sum := "a93c60d456e1050f923b8307c7aa35f4f5d065c1cc2922dbdeb946d7defd34ce", func := "loop.example/charterrules/laws.FnTermOk", spec := "fnTermOk", apart := false }
def FnTermOkSaid : Prop := fnTermOkRow.holds Try.pinned (OpenSpec.ofChange fnTermOkSpec)

/-- ITS FALSE NEIGHBOUR: 'it returns false'. Refute it at one input. -/
def fnTermOkWrong : ChangeSpec := { name := "fnTermOk", fn := fun _ => fun
  | [d] => { results := [.lit (.bool false)], args := [d] }
  | _ => none }
def FnTermOkWrongFalsely : Prop := fnTermOkRow.holds Try.pinned (OpenSpec.ofChange fnTermOkWrong)

/-- 'laws.FnAtomsIn': WHATEVER THE INPUT: true; the input reads as it did. -/
def fnAtomsInSpec : ChangeSpec := { name := "fnAtomsIn", fn := fun _ => fun
  | [d] => { results := [.lit (.bool true)], args := [d] }
  | _ => none }
def fnAtomsInRow : OpenClaim := { program := "ytfadpbgidocimaa", sum := "a93c60d456e1050f923b8307c7aa35f4f5d065c1cc2922dbdeb946d7defd34ce", func := "loop.example/charterrules/laws.FnAtomsIn", spec := "fnAtomsIn", apart := false }
def FnAtomsInSaid : Prop := fnAtomsInRow.holds Try.pinned (OpenSpec.ofChange fnAtomsInSpec)

/-- ITS FALSE NEIGHBOUR: 'it returns false'. Refute it at one input. -/
def fnAtomsInWrong : ChangeSpec := { name := "fnAtomsIn", fn := fun _ => fun
  | [d] => { results := [.lit (.bool false)], args := [d] }
  | _ => none }
def FnAtomsInWrongFalsely : Prop := fnAtomsInRow.holds Try.pinned (OpenSpec.ofChange fnAtomsInWrong)

/-- 'laws.FnExactTermOk': WHATEVER THE INPUT: true; the input reads as it did. -/
def fnExactTermOkSpec : ChangeSpec := { name := "fnExactTermOk", fn := fun _ => fun
  | [d1, d2] => { results := [.lit (.bool true)], args := [d1, d2] }
  | _ => none }
def fnExactTermOkRow : OpenClaim := { program := "ytfadpbgidocimaa", sum := "a93c60d456e1050f923b8307c7aa35f4f5d065c1cc2922dbdeb946d7defd34ce", func := "loop.example/charterrules/laws.FnExactTermOk", spec := "fnExactTermOk", apart := false }
def FnExactTermOkSaid : Prop := fnExactTermOkRow.holds Try.pinned (OpenSpec.ofChange fnExactTermOkSpec)

/-- ITS FALSE NEIGHBOUR: 'it returns false'. Refute it at one input. -/
def fnExactTermOkWrong : ChangeSpec := { name := "fnExactTermOk", fn := fun _ => fun
  | [d1, d2] => { results := [.lit (.bool false)], args := [d1, d2] }
  | _ => none }
def FnExactTermOkWrongFalsely : Prop := fnExactTermOkRow.holds Try.pinned (OpenSpec.ofChange fnExactTermOkWrong)

/-- 'laws.FnExactAtomsIn': WHATEVER THE INPUT: true; the input reads as it did. -/
def fnExactAtomsInSpec : ChangeSpec := { name := "fnExactAtomsIn", fn := fun _ => fun
  | [d1, d2] => { results := [.lit (.bool true)], args := [d1, d2] }
  | _ => none }
def fnExactAtomsInRow : OpenClaim := { program := "ytfadpbgidocimaa", sum := "a93c60d456e1050f923b8307c7aa35f4f5d065c1cc2922dbdeb946d7defd34ce", func := "loop.example/charterrules/laws.FnExactAtomsIn", spec := "fnExactAtomsIn", apart := false }
def FnExactAtomsInSaid : Prop := fnExactAtomsInRow.holds Try.pinned (OpenSpec.ofChange fnExactAtomsInSpec)

/-- ITS FALSE NEIGHBOUR: 'it returns false'. Refute it at one input. -/
def fnExactAtomsInWrong : ChangeSpec := { name := "fnExactAtomsIn", fn := fun _ => fun
  | [d1, d2] => { results := [.lit (.bool false)], args := [d1, d2] }
  | _ => none }
def FnExactAtomsInWrongFalsely : Prop := fnExactAtomsInRow.holds Try.pinned (OpenSpec.ofChange fnExactAtomsInWrong)

/-- 'laws.FnDualTerm': WHATEVER THE INPUT: true; the input reads as it did. -/
def fnDualTermSpec : ChangeSpec := { name := "fnDualTerm", fn := fun _ => fun
  | [d] => { results := [.lit (.bool true)], args := [d] }
  | _ => none }
def fnDualTermRow : OpenClaim := { program := "ytfadpbgidocimaa", sum := "a93c60d456e1050f923b8307c7aa35f4f5d065c1cc2922dbdeb946d7defd34ce", func := "loop.example/charterrules/laws.FnDualTerm", spec := "fnDualTerm", apart := false }
def FnDualTermSaid : Prop := fnDualTermRow.holds Try.pinned (OpenSpec.ofChange fnDualTermSpec)

/-- ITS FALSE NEIGHBOUR: 'it returns false'. Refute it at one input. -/
def fnDualTermWrong : ChangeSpec := { name := "fnDualTerm", fn := fun _ => fun
  | [d] => { results := [.lit (.bool false)], args := [d] }
  | _ => none }
def FnDualTermWrongFalsely : Prop := fnDualTermRow.holds Try.pinned (OpenSpec.ofChange fnDualTermWrong)

/-- 'laws.FnExactDualTerm': WHATEVER THE INPUT: true; the input reads as it did. -/
def fnExactDualTermSpec : ChangeSpec := { name := "fnExactDualTerm", fn := fun _ => fun
  | [d1, d2] => { results := [.lit (.bool true)], args := [d1, d2] }
  | _ => none }
def fnExactDualTermRow : OpenClaim := { program := "ytfadpbgidocimaa", sum := "a93c60d456e1050f923b8307c7aa35f4f5d065c1cc2922dbdeb946d7defd34ce", func := "loop.example/charterrules/laws.FnExactDualTerm", spec := "fnExactDualTerm", apart := false }
def FnExactDualTermSaid : Prop := fnExactDualTermRow.holds Try.pinned (OpenSpec.ofChange fnExactDualTermSpec)

/-- ITS FALSE NEIGHBOUR: 'it returns false'. Refute it at one input. -/
def fnExactDualTermWrong : ChangeSpec := { name := "fnExactDualTerm", fn := fun _ => fun
  | [d1, d2] => { results := [.lit (.bool false)], args := [d1, d2] }
  | _ => none }
def FnExactDualTermWrongFalsely : Prop := fnExactDualTermRow.holds Try.pinned (OpenSpec.ofChange fnExactDualTermWrong)

/-- 'laws.FnAtomBody': WHATEVER THE INPUT: true; the input reads as it did. -/
def fnAtomBodySpec : ChangeSpec := { name := "fnAtomBody", fn := fun _ => fun
  | [d] => { results := [.lit (.bool true)], args := [d] }
  | _ => none }
def fnAtomBodyRow : OpenClaim := { program := "ytfadpbgidocimaa", sum := "a93c60d456e1050f923b8307c7aa35f4f5d065c1cc2922dbdeb946d7defd34ce", func := "loop.example/charterrules/laws.FnAtomBody", spec := "fnAtomBody", apart := false }
def FnAtomBodySaid : Prop := fnAtomBodyRow.holds Try.pinned (OpenSpec.ofChange fnAtomBodySpec)

/-- ITS FALSE NEIGHBOUR: 'it returns false'. Refute it at one input. -/
def fnAtomBodyWrong : ChangeSpec := { name := "fnAtomBody", fn := fun _ => fun
  | [d] => { results := [.lit (.bool false)], args := [d] }
  | _ => none }
def FnAtomBodyWrongFalsely : Prop := fnAtomBodyRow.holds Try.pinned (OpenSpec.ofChange fnAtomBodyWrong)

/-- 'laws.FnExactConsentOk': WHATEVER THE INPUT: true; the input reads as it did. -/
def fnExactConsentOkSpec : ChangeSpec := { name := "fnExactConsentOk", fn := fun _ => fun
  | [d1, d2, d3] => { results := [.lit (.bool true)], args := [d1, d2, d3] }
  | _ => none }
def fnExactConsentOkRow : OpenClaim := { program := "ytfadpbgidocimaa", sum := "a93c60d456e1050f923b8307c7aa35f4f5d065c1cc2922dbdeb946d7defd34ce", func := "loop.example/charterrules/laws.FnExactConsentOk", spec := "fnExactConsentOk", recurses := true, apart := false }
def FnExactConsentOkSaid : Prop := fnExactConsentOkRow.holds Try.pinned (OpenSpec.ofChange fnExactConsentOkSpec)

/-- ITS FALSE NEIGHBOUR: 'it returns false'. Refute it at one input. -/
def fnExactConsentOkWrong : ChangeSpec := { name := "fnExactConsentOk", fn := fun _ => fun
  | [d1, d2, d3] => { results := [.lit (.bool false)], args := [d1, d2, d3] }
  | _ => none }
def FnExactConsentOkWrongFalsely : Prop := fnExactConsentOkRow.holds Try.pinned (OpenSpec.ofChange fnExactConsentOkWrong)

/-- 'laws.FnConsentOk': WHATEVER THE INPUT: true; the input reads as it did. -/
def fnConsentOkSpec : ChangeSpec := { name := "fnConsentOk", fn := fun _ => fun
  | [d] => { results := [.lit (.bool true)], args := [d] }
  | _ => none }
def fnConsentOkRow : OpenClaim := { program := "ytfadpbgidocimaa", sum := "a93c60d456e1050f923b8307c7aa35f4f5d065c1cc2922dbdeb946d7defd34ce", func := "loop.example/charterrules/laws.FnConsentOk", spec := "fnConsentOk", recurses := true, apart := false }
def FnConsentOkSaid : Prop := fnConsentOkRow.holds Try.pinned (OpenSpec.ofChange fnConsentOkSpec)

/-- ITS FALSE NEIGHBOUR: 'it returns false'. Refute it at one input. -/
def fnConsentOkWrong : ChangeSpec := { name := "fnConsentOk", fn := fun _ => fun
  | [d] => { results := [.lit (.bool false)], args := [d] }
  | _ => none }
def FnConsentOkWrongFalsely : Prop := fnConsentOkRow.holds Try.pinned (OpenSpec.ofChange fnConsentOkWrong)

/- THE SECOND FORM. 'bulk': how many values and letters a reading holds, each counted each time it is reached (what is shared counts as often as it is met; a slice's spare places count too). A statement '..UptoSaid' is the law's where the arguments, and the package variables that the reading takes, are together of bulk at most 1048576: NARROWER than '..Said'. Prove '..Said' where nothing that the law and all that it calls make is longer than what came in: it says more and counts as full. Else prove '..UptoSaid'. A law counts once. -/
mutual
def uptoBulk {H : Type} : DataW H → Nat
  | .lit (.string bytes) => bytes.length + 1
  | .lit _ => 1
  | .nil => 1
  | .ptr d => uptoBulk d + 1
  | .slice elems spare => uptoBulkAll elems + uptoBulkAll spare + 1
  | .agg parts => uptoBulkAll parts + 1
  | .iface _ d => uptoBulk d + 1
  | .map entries => uptoBulkEntries entries + 1
  | .held _ => 1
def uptoBulkAll {H : Type} : List (DataW H) → Nat
  | [] => 0
  | d :: r => uptoBulk d + uptoBulkAll r
def uptoBulkEntries {H : Type} : List (Lit × DataW H) → Nat
  | [] => 0
  | x :: r => uptoBulkEntry x + uptoBulkEntries r
def uptoBulkEntry {H : Type} : Lit × DataW H → Nat
  | (.string bytes, d) => bytes.length + uptoBulk d + 1
  | (_, d) => uptoBulk d + 1
 end
def uptoSmall : (H : Type) → List (DataW H) → Bool := fun _ ds => decide (uptoBulkAll ds ≤ 1048576)
def OpenSpec.upto (s : _root_.Go.ChangeSpec) : _root_.Go.OpenSpec := { _root_.Go.OpenSpec.ofChange s with cond := some uptoSmall }

/-- 'laws.FnTermOk', WHERE WHAT IT READS IS OF BULK AT MOST 1048576: true; the input reads as it did. -/
def fnTermOkUptoRow : OpenClaim := { program := "ytfadpbgidocimaa", sum := "a93c60d456e1050f923b8307c7aa35f4f5d065c1cc2922dbdeb946d7defd34ce", func := "loop.example/charterrules/laws.FnTermOk", spec := "fnTermOk", apart := false, narrowed := true }
def FnTermOkUptoSaid : Prop := fnTermOkUptoRow.holds Try.pinned (OpenSpec.upto fnTermOkSpec)

/-- 'laws.FnAtomsIn', WHERE WHAT IT READS IS OF BULK AT MOST 1048576: true; the input reads as it did. -/
def fnAtomsInUptoRow : OpenClaim := { program := "ytfadpbgidocimaa", sum := "a93c60d456e1050f923b8307c7aa35f4f5d065c1cc2922dbdeb946d7defd34ce", func := "loop.example/charterrules/laws.FnAtomsIn", spec := "fnAtomsIn", apart := false, narrowed := true }
def FnAtomsInUptoSaid : Prop := fnAtomsInUptoRow.holds Try.pinned (OpenSpec.upto fnAtomsInSpec)

/-- 'laws.FnExactTermOk', WHERE WHAT IT READS IS OF BULK AT MOST 1048576: true; the input reads as it did. -/
def fnExactTermOkUptoRow : OpenClaim := { program := "ytfadpbgidocimaa", sum := "a93c60d456e1050f923b8307c7aa35f4f5d065c1cc2922dbdeb946d7defd34ce", func := "loop.example/charterrules/laws.FnExactTermOk", spec := "fnExactTermOk", apart := false, narrowed := true }
def FnExactTermOkUptoSaid : Prop := fnExactTermOkUptoRow.holds Try.pinned (OpenSpec.upto fnExactTermOkSpec)

/-- 'laws.FnExactAtomsIn', WHERE WHAT IT READS IS OF BULK AT MOST 1048576: true; the input reads as it did. -/
def fnExactAtomsInUptoRow : OpenClaim := { program := "ytfadpbgidocimaa", sum := "a93c60d456e1050f923b8307c7aa35f4f5d065c1cc2922dbdeb946d7defd34ce", func := "loop.example/charterrules/laws.FnExactAtomsIn", spec := "fnExactAtomsIn", apart := false, narrowed := true }
def FnExactAtomsInUptoSaid : Prop := fnExactAtomsInUptoRow.holds Try.pinned (OpenSpec.upto fnExactAtomsInSpec)

/-- 'laws.FnDualTerm', WHERE WHAT IT READS IS OF BULK AT MOST 1048576: true; the input reads as it did. -/
def fnDualTermUptoRow : OpenClaim := { program := "ytfadpbgidocimaa", sum := "a93c60d456e1050f923b8307c7aa35f4f5d065c1cc2922dbdeb946d7defd34ce", func := "loop.example/charterrules/laws.FnDualTerm", spec := "fnDualTerm", apart := false, narrowed := true }
def FnDualTermUptoSaid : Prop := fnDualTermUptoRow.holds Try.pinned (OpenSpec.upto fnDualTermSpec)

/-- 'laws.FnExactDualTerm', WHERE WHAT IT READS IS OF BULK AT MOST 1048576: true; the input reads as it did. -/
def fnExactDualTermUptoRow : OpenClaim := { program := "ytfadpbgidocimaa", sum := "a93c60d456e1050f923b8307c7aa35f4f5d065c1cc2922dbdeb946d7defd34ce", func := "loop.example/charterrules/laws.FnExactDualTerm", spec := "fnExactDualTerm", apart := false, narrowed := true }
def FnExactDualTermUptoSaid : Prop := fnExactDualTermUptoRow.holds Try.pinned (OpenSpec.upto fnExactDualTermSpec)

/-- 'laws.FnAtomBody', WHERE WHAT IT READS IS OF BULK AT MOST 1048576: true; the input reads as it did. -/
def fnAtomBodyUptoRow : OpenClaim := { program := "ytfadpbgidocimaa", sum := "a93c60d456e1050f923b8307c7aa35f4f5d065c1cc2922dbdeb946d7defd34ce", func := "loop.example/charterrules/laws.FnAtomBody", spec := "fnAtomBody", apart := false, narrowed := true }
def FnAtomBodyUptoSaid : Prop := fnAtomBodyUptoRow.holds Try.pinned (OpenSpec.upto fnAtomBodySpec)

/-- 'laws.FnExactConsentOk', WHERE WHAT IT READS IS OF BULK AT MOST 1048576: true; the input reads as it did. -/
def fnExactConsentOkUptoRow : OpenClaim := { program := "ytfadpbgidocimaa", sum := "a93c60d456e1050f923b8307c7aa35f4f5d065c1cc2922dbdeb946d7defd34ce", func := "loop.example/charterrules/laws.FnExactConsentOk", spec := "fnExactConsentOk", recurses := true, apart := false, narrowed := true }
def FnExactConsentOkUptoSaid : Prop := fnExactConsentOkUptoRow.holds Try.pinned (OpenSpec.upto fnExactConsentOkSpec)

/-- 'laws.FnConsentOk', WHERE WHAT IT READS IS OF BULK AT MOST 1048576: true; the input reads as it did. -/
def fnConsentOkUptoRow : OpenClaim := { program := "ytfadpbgidocimaa", sum := "a93c60d456e1050f923b8307c7aa35f4f5d065c1cc2922dbdeb946d7defd34ce", func := "loop.example/charterrules/laws.FnConsentOk", spec := "fnConsentOk", recurses := true, apart := false, narrowed := true }
def FnConsentOkUptoSaid : Prop := fnConsentOkUptoRow.holds Try.pinned (OpenSpec.upto fnConsentOkSpec)

end Rows
end Go.Proofs.Ytfadpbgidocimaa
