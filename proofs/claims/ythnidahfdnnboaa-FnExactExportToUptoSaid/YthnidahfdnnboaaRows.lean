/-
  No cell of these rows narrows 'for every input' (looked for: loops, veiled, ifaces, maps, wideKeys, modest, calm, conditions, laid).
  DERIVED. THE GIVEN ROWS OF THIS SEAT. 8 by the template 'for every input the law returns true; each argument reads behind the call as it read before'; 0 by the template 'total and deterministic' (their statements: YthnidahfdnnboaaTotals.lean).
  GIVEN WITH THE SEED: the statements are not yours to turn. If you find one false, say at which input.
  Laid BY PROGRAM, IN A SANDBOX (cutbox-rows.mjs): the forced cells as the released guide's own fill.sh prints them over the translation bd98114110027d2d… (all of the seat's roots in one cut). By AI agents, Wed Nov 11 2026. No macro, syntax, notation, axiom, sorry.
-/
import Derived.Test.YthnidahfdnnboaaChecked
import GoSem.Claim
import GoSem.ClaimJoined
import GoSem.ClaimMapViews
import Derived.JoinedTies
import Derived.KernelRfl
namespace Go.Proofs.Ythnidahfdnnboaa
/- THE CELL 'sum', in the pinned program and in every row, IS THE sha256 OF THE DUMP (.gsa) THAT YthnidahfdnnboaaProg.lean LOADS. Nothing in Lean hashes anything: it is a label: what it is worth is what the hold of that sum in a sandbox is worth. -/
noncomputable def Try.pinned : Pinned := { name := "ythnidahfdnnboaa", sum := "bd98114110027d2d3f27368840cdbe93f913794c147fc955898fadb09c05a58f", checked := Try.checked }
namespace Rows
def none {H : Type} : Left H := { results := [], args := [] }

/-- 'laws.FnDeltas': WHATEVER THE INPUT: true; the input reads as it did. -/
def fnDeltasSpec : ChangeSpec := { name := "fnDeltas", fn := fun _ => fun
  | [d] => { results := [.lit (.bool true)], args := [d] }
  | _ => none }
def fnDeltasRow : OpenClaim := { program := "ythnidahfdnnboaa", sum := "bd98114110027d2d3f27368840cdbe93f913794c147fc955898fadb09c05a58f", func := "loop.example/g00263/laws.FnDeltas", spec := "fnDeltas", inPlace := ["slices.overlaps[loop.example/g00263/impl.Told]"], unfollowed := true, recurses := true, apart := false }
def FnDeltasSaid : Prop := fnDeltasRow.holds Try.pinned (OpenSpec.ofChange fnDeltasSpec)

/-- ITS FALSE NEIGHBOUR: 'it returns false'. Refute it at one input. -/
def fnDeltasWrong : ChangeSpec := { name := "fnDeltas", fn := fun _ => fun
  | [d] => { results := [.lit (.bool false)], args := [d] }
  | _ => none }
def FnDeltasWrongFalsely : Prop := fnDeltasRow.holds Try.pinned (OpenSpec.ofChange fnDeltasWrong)

/-- 'laws.FnNodes': WHATEVER THE INPUT: true; the input reads as it did. -/
def fnNodesSpec : ChangeSpec := { name := "fnNodes", fn := fun _ => fun
  | [d] => { results := [.lit (.bool true)], args := [d] }
  | _ => none }
def fnNodesRow : OpenClaim := { program := "ythnidahfdnnboaa", sum := "bd98114110027d2d3f27368840cdbe93f913794c147fc955898fadb09c05a58f", func := "loop.example/g00263/laws.FnNodes", spec := "fnNodes", apart := false }
def FnNodesSaid : Prop := fnNodesRow.holds Try.pinned (OpenSpec.ofChange fnNodesSpec)

/-- ITS FALSE NEIGHBOUR: 'it returns false'. Refute it at one input. -/
def fnNodesWrong : ChangeSpec := { name := "fnNodes", fn := fun _ => fun
  | [d] => { results := [.lit (.bool false)], args := [d] }
  | _ => none }
def FnNodesWrongFalsely : Prop := fnNodesRow.holds Try.pinned (OpenSpec.ofChange fnNodesWrong)

/-- 'laws.FnTolds': WHATEVER THE INPUT: true; the input reads as it did. -/
def fnToldsSpec : ChangeSpec := { name := "fnTolds", fn := fun _ => fun
  | [d] => { results := [.lit (.bool true)], args := [d] }
  | _ => none }
def fnToldsRow : OpenClaim := { program := "ythnidahfdnnboaa", sum := "bd98114110027d2d3f27368840cdbe93f913794c147fc955898fadb09c05a58f", func := "loop.example/g00263/laws.FnTolds", spec := "fnTolds", unfollowed := true, recurses := true, apart := false }
def FnToldsSaid : Prop := fnToldsRow.holds Try.pinned (OpenSpec.ofChange fnToldsSpec)

/-- ITS FALSE NEIGHBOUR: 'it returns false'. Refute it at one input. -/
def fnToldsWrong : ChangeSpec := { name := "fnTolds", fn := fun _ => fun
  | [d] => { results := [.lit (.bool false)], args := [d] }
  | _ => none }
def FnToldsWrongFalsely : Prop := fnToldsRow.holds Try.pinned (OpenSpec.ofChange fnToldsWrong)

/-- 'laws.FnExactHearMail': WHATEVER THE INPUT: true; the input reads as it did. -/
def fnExactHearMailSpec : ChangeSpec := { name := "fnExactHearMail", fn := fun _ => fun
  | [d1, d2] => { results := [.lit (.bool true)], args := [d1, d2] }
  | _ => none }
def fnExactHearMailRow : OpenClaim := { program := "ythnidahfdnnboaa", sum := "bd98114110027d2d3f27368840cdbe93f913794c147fc955898fadb09c05a58f", func := "loop.example/g00263/laws.FnExactHearMail", spec := "fnExactHearMail", apart := false }
def FnExactHearMailSaid : Prop := fnExactHearMailRow.holds Try.pinned (OpenSpec.ofChange fnExactHearMailSpec)

/-- ITS FALSE NEIGHBOUR: 'it returns false'. Refute it at one input. -/
def fnExactHearMailWrong : ChangeSpec := { name := "fnExactHearMail", fn := fun _ => fun
  | [d1, d2] => { results := [.lit (.bool false)], args := [d1, d2] }
  | _ => none }
def FnExactHearMailWrongFalsely : Prop := fnExactHearMailRow.holds Try.pinned (OpenSpec.ofChange fnExactHearMailWrong)

/-- 'laws.FnExactTakeUpdates': WHATEVER THE INPUT: true; the input reads as it did. -/
def fnExactTakeUpdatesSpec : ChangeSpec := { name := "fnExactTakeUpdates", fn := fun _ => fun
  | [d1, d2] => { results := [.lit (.bool true)], args := [d1, d2] }
  | _ => none }
def fnExactTakeUpdatesRow : OpenClaim := { program := "ythnidahfdnnboaa", sum := "bd98114110027d2d3f27368840cdbe93f913794c147fc955898fadb09c05a58f", func := "loop.example/g00263/laws.FnExactTakeUpdates", spec := "fnExactTakeUpdates", inPlace := ["slices.overlaps[loop.example/g00263/impl.Told]"], unfollowed := true, recurses := true, apart := false }
def FnExactTakeUpdatesSaid : Prop := fnExactTakeUpdatesRow.holds Try.pinned (OpenSpec.ofChange fnExactTakeUpdatesSpec)

/-- ITS FALSE NEIGHBOUR: 'it returns false'. Refute it at one input. -/
def fnExactTakeUpdatesWrong : ChangeSpec := { name := "fnExactTakeUpdates", fn := fun _ => fun
  | [d1, d2] => { results := [.lit (.bool false)], args := [d1, d2] }
  | _ => none }
def FnExactTakeUpdatesWrongFalsely : Prop := fnExactTakeUpdatesRow.holds Try.pinned (OpenSpec.ofChange fnExactTakeUpdatesWrong)

/-- 'laws.FnExactNewPair': WHATEVER THE INPUT: true; the input reads as it did. -/
def fnExactNewPairSpec : ChangeSpec := { name := "fnExactNewPair", fn := fun _ => fun
  | [d] => { results := [.lit (.bool true)], args := [d] }
  | _ => none }
def fnExactNewPairRow : OpenClaim := { program := "ythnidahfdnnboaa", sum := "bd98114110027d2d3f27368840cdbe93f913794c147fc955898fadb09c05a58f", func := "loop.example/g00263/laws.FnExactNewPair", spec := "fnExactNewPair", apart := false }
def FnExactNewPairSaid : Prop := fnExactNewPairRow.holds Try.pinned (OpenSpec.ofChange fnExactNewPairSpec)

/-- ITS FALSE NEIGHBOUR: 'it returns false'. Refute it at one input. -/
def fnExactNewPairWrong : ChangeSpec := { name := "fnExactNewPair", fn := fun _ => fun
  | [d] => { results := [.lit (.bool false)], args := [d] }
  | _ => none }
def FnExactNewPairWrongFalsely : Prop := fnExactNewPairRow.holds Try.pinned (OpenSpec.ofChange fnExactNewPairWrong)

/-- 'laws.FnExactExportTo': WHATEVER THE INPUT: true; the input reads as it did. -/
def fnExactExportToSpec : ChangeSpec := { name := "fnExactExportTo", fn := fun _ => fun
  | [d1, d2, d3, d4, d5] => { results := [.lit (.bool true)], args := [d1, d2, d3, d4, d5] }
  | _ => none }
def fnExactExportToRow : OpenClaim := { program := "ythnidahfdnnboaa", sum := "bd98114110027d2d3f27368840cdbe93f913794c147fc955898fadb09c05a58f", func := "loop.example/g00263/laws.FnExactExportTo", spec := "fnExactExportTo", unfollowed := true, recurses := true, apart := false }
def FnExactExportToSaid : Prop := fnExactExportToRow.holds Try.pinned (OpenSpec.ofChange fnExactExportToSpec)

/-- ITS FALSE NEIGHBOUR: 'it returns false'. Refute it at one input. -/
def fnExactExportToWrong : ChangeSpec := { name := "fnExactExportTo", fn := fun _ => fun
  | [d1, d2, d3, d4, d5] => { results := [.lit (.bool false)], args := [d1, d2, d3, d4, d5] }
  | _ => none }
def FnExactExportToWrongFalsely : Prop := fnExactExportToRow.holds Try.pinned (OpenSpec.ofChange fnExactExportToWrong)

/-- 'laws.FnExactPairFault': WHATEVER THE INPUT: true; the input reads as it did. -/
def fnExactPairFaultSpec : ChangeSpec := { name := "fnExactPairFault", fn := fun _ => fun
  | [d] => { results := [.lit (.bool true)], args := [d] }
  | _ => none }
def fnExactPairFaultRow : OpenClaim := { program := "ythnidahfdnnboaa", sum := "bd98114110027d2d3f27368840cdbe93f913794c147fc955898fadb09c05a58f", func := "loop.example/g00263/laws.FnExactPairFault", spec := "fnExactPairFault", apart := false }
def FnExactPairFaultSaid : Prop := fnExactPairFaultRow.holds Try.pinned (OpenSpec.ofChange fnExactPairFaultSpec)

/-- ITS FALSE NEIGHBOUR: 'it returns false'. Refute it at one input. -/
def fnExactPairFaultWrong : ChangeSpec := { name := "fnExactPairFault", fn := fun _ => fun
  | [d] => { results := [.lit (.bool false)], args := [d] }
  | _ => none }
def FnExactPairFaultWrongFalsely : Prop := fnExactPairFaultRow.holds Try.pinned (OpenSpec.ofChange fnExactPairFaultWrong)

/- THE SECOND FORM. 'bulk': how many values and letters a reading holds, each counted each time it is reached (what is shared counts as often as it is met; a slice's spare places count too). A statement '..UptoSaid' is the law's where the arguments, and the package variables that the reading takes, are together of bulk at most 1048576: NARROWER than '..Said'. Prove '..Said' where nothing that the law and all that it calls make is longer than what came in: it says more and counts as full. Else prove '..UptoSaid'. A law counts once. -/
mutual
def uptoBulk {H : Type} : DataW H → Nat
  | .lit (.string bytes) => bytes.length + 1
  | .lit _ => 1
  | .nil => 1
  | .ptr d => uptoBulk d + 1
  | .slice elems spare => uptoBulkAll elems + uptoBulkAll spare + 1
  | .agg parts => uptoBulkAll parts + 1
  | .iface _ d => uptoBulk d + 1
  | .map entries => uptoBulkEntries entries + 1
  | .held _ => 1
def uptoBulkAll {H : Type} : List (DataW H) → Nat
  | [] => 0
  | d :: r => uptoBulk d + uptoBulkAll r
def uptoBulkEntries {H : Type} : List (Lit × DataW H) → Nat
  | [] => 0
  | x :: r => uptoBulkEntry x + uptoBulkEntries r
def uptoBulkEntry {H : Type} : Lit × DataW H → Nat
  | (.string bytes, d) => bytes.length + uptoBulk d + 1
  | (_, d) => uptoBulk d + 1
 end
def uptoSmall : (H : Type) → List (DataW H) → Bool := fun _ ds => decide (uptoBulkAll ds ≤ 1048576)
def OpenSpec.upto (s : _root_.Go.ChangeSpec) : _root_.Go.OpenSpec := { _root_.Go.OpenSpec.ofChange s with cond := some uptoSmall }

/-- 'laws.FnDeltas', WHERE WHAT IT READS IS OF BULK AT MOST 1048576: true; the input reads as it did. -/
def fnDeltasUptoRow : OpenClaim := { program := "ythnidahfdnnboaa", sum := "bd98114110027d2d3f27368840cdbe93f913794c147fc955898fadb09c05a58f", func := "loop.example/g00263/laws.FnDeltas", spec := "fnDeltas", inPlace := ["slices.overlaps[loop.example/g00263/impl.Told]"], unfollowed := true, recurses := true, apart := false, narrowed := true }
def FnDeltasUptoSaid : Prop := fnDeltasUptoRow.holds Try.pinned (OpenSpec.upto fnDeltasSpec)

/-- 'laws.FnNodes', WHERE WHAT IT READS IS OF BULK AT MOST 1048576: true; the input reads as it did. -/
def fnNodesUptoRow : OpenClaim := { program := "ythnidahfdnnboaa", sum := "bd98114110027d2d3f27368840cdbe93f913794c147fc955898fadb09c05a58f", func := "loop.example/g00263/laws.FnNodes", spec := "fnNodes", apart := false, narrowed := true }
def FnNodesUptoSaid : Prop := fnNodesUptoRow.holds Try.pinned (OpenSpec.upto fnNodesSpec)

/-- 'laws.FnTolds', WHERE WHAT IT READS IS OF BULK AT MOST 1048576: true; the input reads as it did. -/
def fnToldsUptoRow : OpenClaim := { program := "ythnidahfdnnboaa", sum := "bd98114110027d2d3f27368840cdbe93f913794c147fc955898fadb09c05a58f", func := "loop.example/g00263/laws.FnTolds", spec := "fnTolds", unfollowed := true, recurses := true, apart := false, narrowed := true }
def FnToldsUptoSaid : Prop := fnToldsUptoRow.holds Try.pinned (OpenSpec.upto fnToldsSpec)

/-- 'laws.FnExactHearMail', WHERE WHAT IT READS IS OF BULK AT MOST 1048576: true; the input reads as it did. -/
def fnExactHearMailUptoRow : OpenClaim := { program := "ythnidahfdnnboaa", sum := "bd98114110027d2d3f27368840cdbe93f913794c147fc955898fadb09c05a58f", func := "loop.example/g00263/laws.FnExactHearMail", spec := "fnExactHearMail", apart := false, narrowed := true }
def FnExactHearMailUptoSaid : Prop := fnExactHearMailUptoRow.holds Try.pinned (OpenSpec.upto fnExactHearMailSpec)

/-- 'laws.FnExactTakeUpdates', WHERE WHAT IT READS IS OF BULK AT MOST 1048576: true; the input reads as it did. -/
def fnExactTakeUpdatesUptoRow : OpenClaim := { program := "ythnidahfdnnboaa", sum := "bd98114110027d2d3f27368840cdbe93f913794c147fc955898fadb09c05a58f", func := "loop.example/g00263/laws.FnExactTakeUpdates", spec := "fnExactTakeUpdates", inPlace := ["slices.overlaps[loop.example/g00263/impl.Told]"], unfollowed := true, recurses := true, apart := false, narrowed := true }
def FnExactTakeUpdatesUptoSaid : Prop := fnExactTakeUpdatesUptoRow.holds Try.pinned (OpenSpec.upto fnExactTakeUpdatesSpec)

/-- 'laws.FnExactNewPair', WHERE WHAT IT READS IS OF BULK AT MOST 1048576: true; the input reads as it did. -/
def fnExactNewPairUptoRow : OpenClaim := { program := "ythnidahfdnnboaa", sum := "bd98114110027d2d3f27368840cdbe93f913794c147fc955898fadb09c05a58f", func := "loop.example/g00263/laws.FnExactNewPair", spec := "fnExactNewPair", apart := false, narrowed := true }
def FnExactNewPairUptoSaid : Prop := fnExactNewPairUptoRow.holds Try.pinned (OpenSpec.upto fnExactNewPairSpec)

/-- 'laws.FnExactExportTo', WHERE WHAT IT READS IS OF BULK AT MOST 1048576: true; the input reads as it did. -/
def fnExactExportToUptoRow : OpenClaim := { program := "ythnidahfdnnboaa", sum := "bd98114110027d2d3f27368840cdbe93f913794c147fc955898fadb09c05a58f", func := "loop.example/g00263/laws.FnExactExportTo", spec := "fnExactExportTo", unfollowed := true, recurses := true, apart := false, narrowed := true }
def FnExactExportToUptoSaid : Prop := fnExactExportToUptoRow.holds Try.pinned (OpenSpec.upto fnExactExportToSpec)

/-- 'laws.FnExactPairFault', WHERE WHAT IT READS IS OF BULK AT MOST 1048576: true; the input reads as it did. -/
def fnExactPairFaultUptoRow : OpenClaim := { program := "ythnidahfdnnboaa", sum := "bd98114110027d2d3f27368840cdbe93f913794c147fc955898fadb09c05a58f", func := "loop.example/g00263/laws.FnExactPairFault", spec := "fnExactPairFault", apart := false, narrowed := true }
def FnExactPairFaultUptoSaid : Prop := fnExactPairFaultUptoRow.holds Try.pinned (OpenSpec.upto fnExactPairFaultSpec)

end Rows
end Go.Proofs.Ythnidahfdnnboaa
