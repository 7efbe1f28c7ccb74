/-
  No cell of these rows narrows 'for every input' (looked for: loops, veiled, ifaces, maps, wideKeys, modest, calm, conditions, laid).
  DERIVED. THE GIVEN ROWS OF THIS SEAT. 6 by the template 'for every input the law returns true; each argument reads behind the call as it read before'; 0 by the template 'total and deterministic' (their statements: YtcflipknnijmdaaTotals.lean).
  GIVEN WITH THE SEED: the statements are not yours to turn. If you find one false, say at which input.
  Laid BY PROGRAM, IN A SANDBOX (cutbox-rows.mjs): the forced cells as the released guide's own fill.sh prints them over the translation b2513998d08f8dae… (all of the seat's roots in one cut). By AI agents, Wed Nov 11 2026. No macro, syntax, notation, axiom, sorry.
-/
import Derived.Test.YtcflipknnijmdaaChecked
import GoSem.Claim
import GoSem.ClaimJoined
import GoSem.ClaimMapViews
import Derived.JoinedTies
import Derived.KernelRfl
namespace Go.Proofs.Ytcflipknnijmdaa
/- THE CELL 'sum', in the pinned program and in every row, IS THE sha256 OF THE DUMP (.gsa) THAT YtcflipknnijmdaaProg.lean LOADS. Nothing in Lean hashes anything: it is a label: what it is worth is what the hold of that sum in a sandbox is worth. -/
noncomputable def Try.pinned : Pinned := { name := "ytcflipknnijmdaa", sum := "b2513998d08f8daec0b8fed52519f6ebd40fd73e75e773c4c30607a177b1444d", checked := Try.checked }
namespace Rows
def none {H : Type} : Left H := { results := [], args := [] }

/-- 'laws.FnExactLeastCrowds': WHATEVER THE INPUT: true; the input reads as it did. -/
def fnExactLeastCrowdsSpec : ChangeSpec := { name := "fnExactLeastCrowds", fn := fun _ => fun
  | [d1, d2] => { results := [.lit (.bool true)], args := [d1, d2] }
  | _ => none }
def fnExactLeastCrowdsRow : OpenClaim := { program := "ytcflipknnijmdaa", sum := "b2513998d08f8daec0b8fed52519f6ebd40fd73e75e773c4c30607a177b1444d", func := "loop.example/charterrules/laws.FnExactLeastCrowds", spec := "fnExactLeastCrowds", unfollowed := true, recurses := true, apart := false }
def FnExactLeastCrowdsSaid : Prop := fnExactLeastCrowdsRow.holds Try.pinned (OpenSpec.ofChange fnExactLeastCrowdsSpec)

/-- ITS FALSE NEIGHBOUR: 'it returns false'. Refute it at one input. -/
def fnExactLeastCrowdsWrong : ChangeSpec := { name := "fnExactLeastCrowds", fn := fun _ => fun
  | [d1, d2] => { results := [.lit (.bool false)], args := [d1, d2] }
  | _ => none }
def FnExactLeastCrowdsWrongFalsely : Prop := fnExactLeastCrowdsRow.holds Try.pinned (OpenSpec.ofChange fnExactLeastCrowdsWrong)

/-- 'laws.FnLeastCrowds': WHATEVER THE INPUT: true; the input reads as it did. -/
def fnLeastCrowdsSpec : ChangeSpec := { name := "fnLeastCrowds", fn := fun _ => fun
  | [d] => { results := [.lit (.bool true)], args := [d] }
  | _ => none }
def fnLeastCrowdsRow : OpenClaim := { program := "ytcflipknnijmdaa", sum := "b2513998d08f8daec0b8fed52519f6ebd40fd73e75e773c4c30607a177b1444d", func := "loop.example/charterrules/laws.FnLeastCrowds", spec := "fnLeastCrowds", unfollowed := true, recurses := true, apart := false }
def FnLeastCrowdsSaid : Prop := fnLeastCrowdsRow.holds Try.pinned (OpenSpec.ofChange fnLeastCrowdsSpec)

/-- ITS FALSE NEIGHBOUR: 'it returns false'. Refute it at one input. -/
def fnLeastCrowdsWrong : ChangeSpec := { name := "fnLeastCrowds", fn := fun _ => fun
  | [d] => { results := [.lit (.bool false)], args := [d] }
  | _ => none }
def FnLeastCrowdsWrongFalsely : Prop := fnLeastCrowdsRow.holds Try.pinned (OpenSpec.ofChange fnLeastCrowdsWrong)

/-- 'laws.FnExactDecidingOf': WHATEVER THE INPUT: true; the input reads as it did. -/
def fnExactDecidingOfSpec : ChangeSpec := { name := "fnExactDecidingOf", fn := fun _ => fun
  | [d1, d2] => { results := [.lit (.bool true)], args := [d1, d2] }
  | _ => none }
def fnExactDecidingOfRow : OpenClaim := { program := "ytcflipknnijmdaa", sum := "b2513998d08f8daec0b8fed52519f6ebd40fd73e75e773c4c30607a177b1444d", func := "loop.example/charterrules/laws.FnExactDecidingOf", spec := "fnExactDecidingOf", unfollowed := true, recurses := true, apart := false }
def FnExactDecidingOfSaid : Prop := fnExactDecidingOfRow.holds Try.pinned (OpenSpec.ofChange fnExactDecidingOfSpec)

/-- ITS FALSE NEIGHBOUR: 'it returns false'. Refute it at one input. -/
def fnExactDecidingOfWrong : ChangeSpec := { name := "fnExactDecidingOf", fn := fun _ => fun
  | [d1, d2] => { results := [.lit (.bool false)], args := [d1, d2] }
  | _ => none }
def FnExactDecidingOfWrongFalsely : Prop := fnExactDecidingOfRow.holds Try.pinned (OpenSpec.ofChange fnExactDecidingOfWrong)

/-- 'laws.FnDecidingOf': WHATEVER THE INPUT: true; the input reads as it did. -/
def fnDecidingOfSpec : ChangeSpec := { name := "fnDecidingOf", fn := fun _ => fun
  | [d] => { results := [.lit (.bool true)], args := [d] }
  | _ => none }
def fnDecidingOfRow : OpenClaim := { program := "ytcflipknnijmdaa", sum := "b2513998d08f8daec0b8fed52519f6ebd40fd73e75e773c4c30607a177b1444d", func := "loop.example/charterrules/laws.FnDecidingOf", spec := "fnDecidingOf", unfollowed := true, recurses := true, apart := false }
def FnDecidingOfSaid : Prop := fnDecidingOfRow.holds Try.pinned (OpenSpec.ofChange fnDecidingOfSpec)

/-- ITS FALSE NEIGHBOUR: 'it returns false'. Refute it at one input. -/
def fnDecidingOfWrong : ChangeSpec := { name := "fnDecidingOf", fn := fun _ => fun
  | [d] => { results := [.lit (.bool false)], args := [d] }
  | _ => none }
def FnDecidingOfWrongFalsely : Prop := fnDecidingOfRow.holds Try.pinned (OpenSpec.ofChange fnDecidingOfWrong)

/-- 'laws.FnSplitOk': WHATEVER THE INPUT: true; the input reads as it did. -/
def fnSplitOkSpec : ChangeSpec := { name := "fnSplitOk", fn := fun _ => fun
  | [d] => { results := [.lit (.bool true)], args := [d] }
  | _ => none }
def fnSplitOkRow : OpenClaim := { program := "ytcflipknnijmdaa", sum := "b2513998d08f8daec0b8fed52519f6ebd40fd73e75e773c4c30607a177b1444d", func := "loop.example/charterrules/laws.FnSplitOk", spec := "fnSplitOk", unfollowed := true, recurses := true, apart := false }
def FnSplitOkSaid : Prop := fnSplitOkRow.holds Try.pinned (OpenSpec.ofChange fnSplitOkSpec)

/-- ITS FALSE NEIGHBOUR: 'it returns false'. Refute it at one input. -/
def fnSplitOkWrong : ChangeSpec := { name := "fnSplitOk", fn := fun _ => fun
  | [d] => { results := [.lit (.bool false)], args := [d] }
  | _ => none }
def FnSplitOkWrongFalsely : Prop := fnSplitOkRow.holds Try.pinned (OpenSpec.ofChange fnSplitOkWrong)

/-- 'laws.FnQuotaCount': WHATEVER THE INPUT: true; the input reads as it did. -/
def fnQuotaCountSpec : ChangeSpec := { name := "fnQuotaCount", fn := fun _ => fun
  | [d] => { results := [.lit (.bool true)], args := [d] }
  | _ => none }
def fnQuotaCountRow : OpenClaim := { program := "ytcflipknnijmdaa", sum := "b2513998d08f8daec0b8fed52519f6ebd40fd73e75e773c4c30607a177b1444d", func := "loop.example/charterrules/laws.FnQuotaCount", spec := "fnQuotaCount", unfollowed := true, recurses := true, apart := false }
def FnQuotaCountSaid : Prop := fnQuotaCountRow.holds Try.pinned (OpenSpec.ofChange fnQuotaCountSpec)

/-- ITS FALSE NEIGHBOUR: 'it returns false'. Refute it at one input. -/
def fnQuotaCountWrong : ChangeSpec := { name := "fnQuotaCount", fn := fun _ => fun
  | [d] => { results := [.lit (.bool false)], args := [d] }
  | _ => none }
def FnQuotaCountWrongFalsely : Prop := fnQuotaCountRow.holds Try.pinned (OpenSpec.ofChange fnQuotaCountWrong)

/- THE SECOND FORM. 'bulk': how many values and letters a reading holds, each counted each time it is reached (what is shared counts as often as it is met; a slice's spare places count too). A statement '..UptoSaid' is the law's where the arguments, and the package variables that the reading takes, are together of bulk at most 1048576: NARROWER than '..Said'. Prove '..Said' where nothing that the law and all that it calls make is longer than what came in: it says more and counts as full. Else prove '..UptoSaid'. A law counts once. -/
mutual
def uptoBulk {H : Type} : DataW H → Nat
  | .lit (.string bytes) => bytes.length + 1
  | .lit _ => 1
  | .nil => 1
  | .ptr d => uptoBulk d + 1
  | .slice elems spare => uptoBulkAll elems + uptoBulkAll spare + 1
  | .agg parts => uptoBulkAll parts + 1
  | .iface _ d => uptoBulk d + 1
  | .map entries => uptoBulkEntries entries + 1
  | .held _ => 1
def uptoBulkAll {H : Type} : List (DataW H) → Nat
  | [] => 0
  | d :: r => uptoBulk d + uptoBulkAll r
def uptoBulkEntries {H : Type} : List (Lit × DataW H) → Nat
  | [] => 0
  | x :: r => uptoBulkEntry x + uptoBulkEntries r
def uptoBulkEntry {H : Type} : Lit × DataW H → Nat
  | (.string bytes, d) => bytes.length + uptoBulk d + 1
  | (_, d) => uptoBulk d + 1
 end
def uptoSmall : (H : Type) → List (DataW H) → Bool := fun _ ds => decide (uptoBulkAll ds ≤ 1048576)
def OpenSpec.upto (s : _root_.Go.ChangeSpec) : _root_.Go.OpenSpec := { _root_.Go.OpenSpec.ofChange s with cond := some uptoSmall }

/-- 'laws.FnExactLeastCrowds', WHERE WHAT IT READS IS OF BULK AT MOST 1048576: true; the input reads as it did. -/
def fnExactLeastCrowdsUptoRow : OpenClaim := { program := "ytcflipknnijmdaa", sum := "b2513998d08f8daec0b8fed52519f6ebd40fd73e75e773c4c30607a177b1444d", func := "loop.example/charterrules/laws.FnExactLeastCrowds", spec := "fnExactLeastCrowds", unfollowed := true, recurses := true, apart := false, narrowed := true }
def FnExactLeastCrowdsUptoSaid : Prop := fnExactLeastCrowdsUptoRow.holds Try.pinned (OpenSpec.upto fnExactLeastCrowdsSpec)

/-- 'laws.FnLeastCrowds', WHERE WHAT IT READS IS OF BULK AT MOST 1048576: true; the input reads as it did. -/
def fnLeastCrowdsUptoRow : OpenClaim := { program := "ytcflipknnijmdaa", sum := "b2513998d08f8daec0b8fed52519f6ebd40fd73e75e773c4c30607a177b1444d", func := "loop.example/charterrules/laws.FnLeastCrowds", spec := "fnLeastCrowds", unfollowed := true, recurses := true, apart := false, narrowed := true }
def FnLeastCrowdsUptoSaid : Prop := fnLeastCrowdsUptoRow.holds Try.pinned (OpenSpec.upto fnLeastCrowdsSpec)

/-- 'laws.FnExactDecidingOf', WHERE WHAT IT READS IS OF BULK AT MOST 1048576: true; the input reads as it did. -/
def fnExactDecidingOfUptoRow : OpenClaim := { program := "ytcflipknnijmdaa", sum := "b2513998d08f8daec0b8fed52519f6ebd40fd73e75e773c4c30607a177b1444d", func := "loop.example/charterrules/laws.FnExactDecidingOf", spec := "fnExactDecidingOf", unfollowed := true, recurses := true, apart := false, narrowed := true }
def FnExactDecidingOfUptoSaid : Prop := fnExactDecidingOfUptoRow.holds Try.pinned (OpenSpec.upto fnExactDecidingOfSpec)

/-- 'laws.FnDecidingOf', WHERE WHAT IT READS IS OF BULK AT MOST 1048576: true; the input reads as it did. -/
def fnDecidingOfUptoRow : OpenClaim := { program := "ytcflipknnijmdaa", sum := "b2513998d08f8daec0b8fed52519f6ebd40fd73e75e773c4c30607a177b1444d", func := "loop.example/charterrules/laws.FnDecidingOf", spec := "fnDecidingOf", unfollowed := true, recurses := true, apart := false, narrowed := true }
def FnDecidingOfUptoSaid : Prop := fnDecidingOfUptoRow.holds Try.pinned (OpenSpec.upto fnDecidingOfSpec)

/-- 'laws.FnSplitOk', WHERE WHAT IT READS IS OF BULK AT MOST 1048576: true; the input reads as it did. -/
def fnSplitOkUptoRow : OpenClaim := { program := "ytcflipknnijmdaa", sum := "b2513998d08f8daec0b8fed52519f6ebd40fd73e75e773c4c30607a177b1444d", func := "loop.example/charterrules/laws.FnSplitOk", spec := "fnSplitOk", unfollowed := true, recurses := true, apart := false, narrowed := true }
def FnSplitOkUptoSaid : Prop := fnSplitOkUptoRow.holds Try.pinned (OpenSpec.upto fnSplitOkSpec)

/-- 'laws.FnQuotaCount', WHERE WHAT IT READS IS OF BULK AT MOST 1048576: true; the input reads as it did. -/
def fnQuotaCountUptoRow : OpenClaim := { program := "ytcflipknnijmdaa", sum := "b2513998d08f8daec0b8fed52519f6ebd40fd73e75e773c4c30607a177b1444d", func := "loop.example/charterrules/laws.FnQuotaCount", spec := "fnQuotaCount", unfollowed := true, recurses := true, apart := false, narrowed := true }
def FnQuotaCountUptoSaid : Prop := fnQuotaCountUptoRow.holds Try.pinned (OpenSpec.upto fnQuotaCountSpec)

end Rows
end Go.Proofs.Ytcflipknnijmdaa
