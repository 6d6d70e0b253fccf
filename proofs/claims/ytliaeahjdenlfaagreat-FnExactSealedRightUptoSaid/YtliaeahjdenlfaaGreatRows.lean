/-
  No cell of these rows narrows 'for every input' (looked for: loops, veiled, ifaces, maps, wideKeys, modest, calm, conditions, laid).
  DERIVED. THE GIVEN ROWS OF THIS SEAT. 4 by the template 'for every input the law returns true; each argument reads behind the call as it read before'; 0 by the template 'total and deterministic' (their statements: YtliaeahjdenlfaaGreatTotals.lean).
  GIVEN WITH THE SEED: the statements are not yours to turn. If you find one false, say at which input.
  Laid BY PROGRAM, IN A SANDBOX (cutbox-rows.mjs): the forced cells as the released guide's own fill.sh prints them over the translation 4c9376e7a216a390… (all of the seat's roots in one cut). By AI agents, Wed Nov 11 2026. No macro, syntax, notation, axiom, sorry.
-/
import Derived.Test.YtliaeahjdenlfaaGreatChecked
import GoSem.Claim
import GoSem.ClaimJoined
import GoSem.ClaimMapViews
import Derived.JoinedTies
import Derived.KernelRfl
namespace Go.Proofs.YtliaeahjdenlfaaGreat
/- THE CELL 'sum', in the pinned program and in every row, IS THE sha256 OF THE DUMP (.gsa) THAT YtliaeahjdenlfaaGreatProg.lean LOADS. Nothing in Lean hashes anything: it is a label: what it is worth is what the hold of that sum in a sandbox is worth. -/
noncomputable def Tryz.pinned : Pinned := { name := "ytliaeahjdenlfaagreat", sum := "4c9376e7a216a390e5b3fa8d78dae455b904a0763aeda7acfc636fd61de61267", checked := Tryz.checked }
namespace Rows
def none {H : Type} : Left H := { results := [], args := [] }

/-- 'laws.FnExactOneActive': WHATEVER THE INPUT: true; the input reads as it did. -/
def fnExactOneActiveSpec : ChangeSpec := { name := "fnExactOneActive", fn := fun _ => fun
  | [d] => { results := [.lit (.bool true)], args := [d] }
  | _ => none }
def fnExactOneActiveRow : OpenClaim := { program := "ytliaeahjdenlfaagreat", sum := "4c9376e7a216a390e5b3fa8d78dae455b904a0763aeda7acfc636fd61de61267", func := "loop.example/g00263/laws.FnExactOneActive", spec := "fnExactOneActive", unfollowed := true, recurses := true, apart := false }
def FnExactOneActiveSaid : Prop := fnExactOneActiveRow.holds Tryz.pinned (OpenSpec.ofChange fnExactOneActiveSpec)

/-- ITS FALSE NEIGHBOUR: 'it returns false'. Refute it at one input. -/
def fnExactOneActiveWrong : ChangeSpec := { name := "fnExactOneActive", fn := fun _ => fun
  | [d] => { results := [.lit (.bool false)], args := [d] }
  | _ => none }
def FnExactOneActiveWrongFalsely : Prop := fnExactOneActiveRow.holds Tryz.pinned (OpenSpec.ofChange fnExactOneActiveWrong)

/-- 'laws.FnExactLogsMatch': WHATEVER THE INPUT: true; the input reads as it did. -/
def fnExactLogsMatchSpec : ChangeSpec := { name := "fnExactLogsMatch", fn := fun _ => fun
  | [d] => { results := [.lit (.bool true)], args := [d] }
  | _ => none }
def fnExactLogsMatchRow : OpenClaim := { program := "ytliaeahjdenlfaagreat", sum := "4c9376e7a216a390e5b3fa8d78dae455b904a0763aeda7acfc636fd61de61267", func := "loop.example/g00263/laws.FnExactLogsMatch", spec := "fnExactLogsMatch", unfollowed := true, recurses := true, apart := false }
def FnExactLogsMatchSaid : Prop := fnExactLogsMatchRow.holds Tryz.pinned (OpenSpec.ofChange fnExactLogsMatchSpec)

/-- ITS FALSE NEIGHBOUR: 'it returns false'. Refute it at one input. -/
def fnExactLogsMatchWrong : ChangeSpec := { name := "fnExactLogsMatch", fn := fun _ => fun
  | [d] => { results := [.lit (.bool false)], args := [d] }
  | _ => none }
def FnExactLogsMatchWrongFalsely : Prop := fnExactLogsMatchRow.holds Tryz.pinned (OpenSpec.ofChange fnExactLogsMatchWrong)

/-- 'laws.FnExactSealedRight': WHATEVER THE INPUT: true; the input reads as it did. -/
def fnExactSealedRightSpec : ChangeSpec := { name := "fnExactSealedRight", fn := fun _ => fun
  | [d] => { results := [.lit (.bool true)], args := [d] }
  | _ => none }
def fnExactSealedRightRow : OpenClaim := { program := "ytliaeahjdenlfaagreat", sum := "4c9376e7a216a390e5b3fa8d78dae455b904a0763aeda7acfc636fd61de61267", func := "loop.example/g00263/laws.FnExactSealedRight", spec := "fnExactSealedRight", unfollowed := true, recurses := true, apart := false }
def FnExactSealedRightSaid : Prop := fnExactSealedRightRow.holds Tryz.pinned (OpenSpec.ofChange fnExactSealedRightSpec)

/-- ITS FALSE NEIGHBOUR: 'it returns false'. Refute it at one input. -/
def fnExactSealedRightWrong : ChangeSpec := { name := "fnExactSealedRight", fn := fun _ => fun
  | [d] => { results := [.lit (.bool false)], args := [d] }
  | _ => none }
def FnExactSealedRightWrongFalsely : Prop := fnExactSealedRightRow.holds Tryz.pinned (OpenSpec.ofChange fnExactSealedRightWrong)

/-- 'laws.FnExactTakenRight': WHATEVER THE INPUT: true; the input reads as it did. -/
def fnExactTakenRightSpec : ChangeSpec := { name := "fnExactTakenRight", fn := fun _ => fun
  | [d1, d2] => { results := [.lit (.bool true)], args := [d1, d2] }
  | _ => none }
def fnExactTakenRightRow : OpenClaim := { program := "ytliaeahjdenlfaagreat", sum := "4c9376e7a216a390e5b3fa8d78dae455b904a0763aeda7acfc636fd61de61267", func := "loop.example/g00263/laws.FnExactTakenRight", spec := "fnExactTakenRight", apart := false }
def FnExactTakenRightSaid : Prop := fnExactTakenRightRow.holds Tryz.pinned (OpenSpec.ofChange fnExactTakenRightSpec)

/-- ITS FALSE NEIGHBOUR: 'it returns false'. Refute it at one input. -/
def fnExactTakenRightWrong : ChangeSpec := { name := "fnExactTakenRight", fn := fun _ => fun
  | [d1, d2] => { results := [.lit (.bool false)], args := [d1, d2] }
  | _ => none }
def FnExactTakenRightWrongFalsely : Prop := fnExactTakenRightRow.holds Tryz.pinned (OpenSpec.ofChange fnExactTakenRightWrong)

/- THE SECOND FORM. 'bulk': how many values and letters a reading holds, each counted each time it is reached (what is shared counts as often as it is met; a slice's spare places count too). A statement '..UptoSaid' is the law's where the arguments, and the package variables that the reading takes, are together of bulk at most 1048576: NARROWER than '..Said'. Prove '..Said' where nothing that the law and all that it calls make is longer than what came in: it says more and counts as full. Else prove '..UptoSaid'. A law counts once. -/
mutual
def uptoBulk {H : Type} : DataW H → Nat
  | .lit (.string bytes) => bytes.length + 1
  | .lit _ => 1
  | .nil => 1
  | .ptr d => uptoBulk d + 1
  | .slice elems spare => uptoBulkAll elems + uptoBulkAll spare + 1
  | .agg parts => uptoBulkAll parts + 1
  | .iface _ d => uptoBulk d + 1
  | .map entries => uptoBulkEntries entries + 1
  | .held _ => 1
def uptoBulkAll {H : Type} : List (DataW H) → Nat
  | [] => 0
  | d :: r => uptoBulk d + uptoBulkAll r
def uptoBulkEntries {H : Type} : List (Lit × DataW H) → Nat
  | [] => 0
  | x :: r => uptoBulkEntry x + uptoBulkEntries r
def uptoBulkEntry {H : Type} : Lit × DataW H → Nat
  | (.string bytes, d) => bytes.length + uptoBulk d + 1
  | (_, d) => uptoBulk d + 1
 end
def uptoSmall : (H : Type) → List (DataW H) → Bool := fun _ ds => decide (uptoBulkAll ds ≤ 1048576)
def OpenSpec.upto (s : _root_.Go.ChangeSpec) : _root_.Go.OpenSpec := { _root_.Go.OpenSpec.ofChange s with cond := some uptoSmall }

/-- 'laws.FnExactOneActive', WHERE WHAT IT READS IS OF BULK AT MOST 1048576: true; the input reads as it did. -/
def fnExactOneActiveUptoRow : OpenClaim := { program := "ytliaeahjdenlfaagreat", sum := "4c9376e7a216a390e5b3fa8d78dae455b904a0763aeda7acfc636fd61de61267", func := "loop.example/g00263/laws.FnExactOneActive", spec := "fnExactOneActive", unfollowed := true, recurses := true, apart := false, narrowed := true }
def FnExactOneActiveUptoSaid : Prop := fnExactOneActiveUptoRow.holds Tryz.pinned (OpenSpec.upto fnExactOneActiveSpec)

/-- 'laws.FnExactLogsMatch', WHERE WHAT IT READS IS OF BULK AT MOST 1048576: true; the input reads as it did. -/
def fnExactLogsMatchUptoRow : OpenClaim := { program := "ytliaeahjdenlfaagreat", sum := "4c9376e7a216a390e5b3fa8d78dae455b904a0763aeda7acfc636fd61de61267", func := "loop.example/g00263/laws.FnExactLogsMatch", spec := "fnExactLogsMatch", unfollowed := true, recurses := true, apart := false, narrowed := true }
def FnExactLogsMatchUptoSaid : Prop := fnExactLogsMatchUptoRow.holds Tryz.pinned (OpenSpec.upto fnExactLogsMatchSpec)

/-- 'laws.FnExactSealedRight', WHERE WHAT IT READS IS OF BULK AT MOST 1048576: true; the input reads as it did. -/
def fnExactSealedRightUptoRow : OpenClaim := { program := "ytliaeahjdenlfaagreat", sum := "4c9376e7a216a390e5b3fa8d78dae455b904a0763aeda7acfc636fd61de61267", func := "loop.example/g00263/laws.FnExactSealedRight", spec := "fnExactSealedRight", unfollowed := true, recurses := true, apart := false, narrowed := true }
def FnExactSealedRightUptoSaid : Prop := fnExactSealedRightUptoRow.holds Tryz.pinned (OpenSpec.upto fnExactSealedRightSpec)

/-- 'laws.FnExactTakenRight', WHERE WHAT IT READS IS OF BULK AT MOST 1048576: true; the input reads as it did. -/
def fnExactTakenRightUptoRow : OpenClaim := { program := "ytliaeahjdenlfaagreat", sum := "4c9376e7a216a390e5b3fa8d78dae455b904a0763aeda7acfc636fd61de61267", func := "loop.example/g00263/laws.FnExactTakenRight", spec := "fnExactTakenRight", apart := false, narrowed := true }
def FnExactTakenRightUptoSaid : Prop := fnExactTakenRightUptoRow.holds Tryz.pinned (OpenSpec.upto fnExactTakenRightSpec)

end Rows
end Go.Proofs.YtliaeahjdenlfaaGreat
