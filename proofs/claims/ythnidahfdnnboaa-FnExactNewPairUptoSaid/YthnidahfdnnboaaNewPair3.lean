/- FnExactNewPair: for every settings of bulk at most 1048576 the law returns true and its argument reads as before; no further condition. -/
import Derived.Test.YthnidahfdnnboaaProg
import Derived.KernelRfl
import Derived.Test.YthnidahfdnnboaaRows
import Derived.WalkKit
import Derived.ProofKit
import Derived.OpenShut
import Derived.JoinedCond
import Derived.Carry
import Derived.ChangeOld
import Derived.Test.YthnidahfdnnboaaNewPair0
import Derived.Test.YthnidahfdnnboaaNewPair1
import Derived.Test.YthnidahfdnnboaaNewPair2
set_option linter.unusedVariables false
set_option maxRecDepth 100000
namespace Go.Proofs.Ythnidahfdnnboaa
open Go Go.Dn
noncomputable section

def slices_Clone_impl_Rule_impl_Rule.sg : Sig := ⟨[.b (.sl kRule)], [((.sl kRule), .dp)]⟩
def slices_Clone_impl_Rule_impl_Rule.E : Env := ⟨tys, bys, [], eqs⟩
def slices_Clone_impl_Rule_impl_Rule.F (k : Nat) (x : ((List ((Int × (Int × Unit)) × (Int × (Int × (Int × (Bool × (Int × (Int × Unit)))))))) × Unit)) : Option (((List ((Int × (Int × Unit)) × (Int × (Int × (Int × (Bool × (Int × (Int × Unit)))))))) × Unit) × Unit) :=
  bif (Nat.beq (List.length x.1) 0) then
  (Go.Dn.agree
    (some ((([] : List ((Int × (Int × Unit)) × (Int × (Int × (Int × (Bool × (Int × (Int × Unit)))))))), ()), ()))
    (bif (Go.Dn.roomy ((List.length ([] : List ((Int × (Int × Unit)) × (Int × (Int × (Int × (Bool × (Int × (Int × Unit))))))))) + (List.length x.1)) 64) then
      (Go.Dn.share (([] : List ((Int × (Int × Unit)) × (Int × (Int × (Int × (Bool × (Int × (Int × Unit)))))))) ++ x.1) fun s0 =>
        some ((s0, ()), ()))
      else none))
  else bif (Go.Dn.roomy ((List.length ([] : List ((Int × (Int × Unit)) × (Int × (Int × (Int × (Bool × (Int × (Int × Unit))))))))) + (List.length x.1)) 64) then
    (Go.Dn.share (([] : List ((Int × (Int × Unit)) × (Int × (Int × (Int × (Bool × (Int × (Int × Unit)))))))) ++ x.1) fun s1 =>
      some ((s1, ()), ()))
    else none
def slices_Clone_impl_Rule_impl_Rule.hd : Hints := ⟨[], [], [2], [0], []⟩
def slices_Clone_impl_Rule_impl_Rule.lps (k : Nat) : List (Nat × Lp slices_Clone_impl_Rule_impl_Rule.sg.Out) := []
theorem slices_Clone_impl_Rule_impl_Rule.loops (k : Nat) : LoopsOk slices_Clone_impl_Rule_impl_Rule.E k slices_Clone_impl_Rule_impl_Rule.hd (slices_Clone_impl_Rule_impl_Rule.lps k) (loopsOf (Go.Proofs.Try.f254.body.getD .skip)) := trivial
theorem slices_Clone_impl_Rule_impl_Rule.den (k : Nat) (x : Sig.In slices_Clone_impl_Rule_impl_Rule.sg.ps) : denFn slices_Clone_impl_Rule_impl_Rule.E k Go.Proofs.Try.f254 slices_Clone_impl_Rule_impl_Rule.sg slices_Clone_impl_Rule_impl_Rule.hd (runL k slices_Clone_impl_Rule_impl_Rule.hd (slices_Clone_impl_Rule_impl_Rule.lps k)) x = slices_Clone_impl_Rule_impl_Rule.F k x := by kernel_rfl
theorem slices_Clone_impl_Rule_impl_Rule.ok (k : Nat) : Contract Try.prog 254 slices_Clone_impl_Rule_impl_Rule.sg (slices_Clone_impl_Rule_impl_Rule.F k) := ok_of (E := slices_Clone_impl_Rule_impl_Rule.E) (tysOk _ _) (eqsOk _) trivial Try.func254 rfl (by kernel_rfl) (slices_Clone_impl_Rule_impl_Rule.loops k) (slices_Clone_impl_Rule_impl_Rule.den k)
def impl_NewRouter.sg : Sig := ⟨[.b kSettings], [(kRouterResult, .dp)]⟩
def impl_NewRouter.E : Env := ⟨tys, bys, [(174, ⟨impl_SettingsFault.sg, impl_SettingsFault.F⟩), (254, ⟨slices_Clone_impl_Rule_impl_Rule.sg, slices_Clone_impl_Rule_impl_Rule.F⟩)], eqs⟩
def impl_NewRouter.F (k : Nat) (x : (((Int × (Int × (Int × Unit))) × (Int × ((List ((Int × (Int × Unit)) × (Int × (Int × (Int × (Bool × (Int × (Int × Unit)))))))) × ((List ((Int × (Int × Unit)) × (Int × (Int × (Int × (Bool × (Int × (Int × Unit)))))))) × Unit)))) × Unit)) : Option (((Int × ((((Int × (Int × (Int × Unit))) × (Int × ((List ((Int × (Int × Unit)) × (Int × (Int × (Int × (Bool × (Int × (Int × Unit)))))))) × ((List ((Int × (Int × Unit)) × (Int × (Int × (Int × (Bool × (Int × (Int × Unit)))))))) × Unit)))) × ((List ((Int × (Int × (Int × (Int × (Int × Unit))))) × ((List Int) × ((List ((Int × (Int × Unit)) × ((Int × ((List Int) × (Int × (Int × (Int × Unit))))) × Unit))) × Unit)))) × ((List (Int × ((Int × (Int × Unit)) × ((Int × ((List Int) × (Int × (Int × (Int × Unit))))) × Unit)))) × Unit))) × ((List (List Int)) × Unit))) × Unit) × Unit) :=
  (impl_SettingsFault.F k x).bind fun y0 =>
  bif (y0.1.1 != (0 : Int)) then
  (some (((y0.1.1, ((((0 : Int), (0 : Int), (0 : Int), ()), (0 : Int), ([] : List ((Int × (Int × Unit)) × (Int × (Int × (Int × (Bool × (Int × (Int × Unit)))))))), ([] : List ((Int × (Int × Unit)) × (Int × (Int × (Int × (Bool × (Int × (Int × Unit)))))))), ()), ([] : List ((Int × (Int × (Int × (Int × (Int × Unit))))) × ((List Int) × ((List ((Int × (Int × Unit)) × ((Int × ((List Int) × (Int × (Int × (Int × Unit))))) × Unit))) × Unit)))), ([] : List (Int × ((Int × (Int × Unit)) × ((Int × ((List Int) × (Int × (Int × (Int × Unit))))) × Unit)))), ()), ([] : List (List Int)), ()), ()), ()))
  else (slices_Clone_impl_Rule_impl_Rule.F k (x.1.2.2.1, ())).bind fun y1 =>
    (slices_Clone_impl_Rule_impl_Rule.F k x.1.2.2.2).bind fun y2 =>
    some ((((0 : Int), ((x.1.1, x.1.2.1, y1.1.1, y2.1), (List.replicate (Int.toNat (3 : Int)) (((0 : Int), ((0 : Int), ((0 : Int), ((0 : Int), ((0 : Int), ()))))), (([] : List Int), (([] : List ((Int × (Int × Unit)) × ((Int × ((List Int) × (Int × (Int × (Int × Unit))))) × Unit))), ())))), ([] : List (Int × ((Int × (Int × Unit)) × ((Int × ((List Int) × (Int × (Int × (Int × Unit))))) × Unit)))), ()), (List.replicate (Int.toNat (3 : Int)) ([] : List Int)), ()), ()), ())
def impl_NewRouter.hd : Hints := ⟨[], [], [2], [0, 1, 2, 3], [(4, [0, 1, 3, 0, 8, 31, 31, 127, 255, 511]), (5, [0, 0, 3, 0, 15, 31])]⟩
def impl_NewRouter.lps (k : Nat) : List (Nat × Lp impl_NewRouter.sg.Out) := []
theorem impl_NewRouter.loops (k : Nat) : LoopsOk impl_NewRouter.E k impl_NewRouter.hd (impl_NewRouter.lps k) (loopsOf (Go.Proofs.Try.f154.body.getD .skip)) := trivial
theorem impl_NewRouter.den (k : Nat) (x : Sig.In impl_NewRouter.sg.ps) : denFn impl_NewRouter.E k Go.Proofs.Try.f154 impl_NewRouter.sg impl_NewRouter.hd (runL k impl_NewRouter.hd (impl_NewRouter.lps k)) x = impl_NewRouter.F k x := by kernel_rfl
theorem impl_NewRouter.ok (k : Nat) : Contract Try.prog 154 impl_NewRouter.sg (impl_NewRouter.F k) := ok_of (E := impl_NewRouter.E) (tysOk _ _) (eqsOk _) ⟨impl_SettingsFault.ok k, slices_Clone_impl_Rule_impl_Rule.ok k, trivial⟩ Try.func154 rfl (by kernel_rfl) (impl_NewRouter.loops k) (impl_NewRouter.den k)
def impl_NewNode.sg : Sig := ⟨[.b (.int .i64)], [(kNodeResult, .dp)]⟩
def impl_NewNode.E : Env := ⟨tys, bys, [(101, ⟨impl_isNode.sg, impl_isNode.F⟩)], eqs⟩
def impl_NewNode.F (k : Nat) (x : (Int × Unit)) : Option (((Int × ((Int × (Bool × (Int × (Int × ((List (Int × ((Int × (Int × ((List Int) × Unit))) × Unit))) × (Int × (Int × (Int × (Int × Unit))))))))) × ((List (Int × (Int × (Int × (Int × (Int × (Bool × ((Int × ((Int × (Int × ((List Int) × Unit))) × Unit)) × Unit)))))))) × Unit))) × Unit) × Unit) :=
  (impl_isNode.F k x).bind fun y0 =>
  bif (!y0.1.1) then
  (some ((((3 : Int), ((0 : Int), false, (0 : Int), (0 : Int), ([] : List (Int × ((Int × (Int × ((List Int) × Unit))) × Unit))), (0 : Int), (0 : Int), (0 : Int), (0 : Int), ()), ([] : List (Int × (Int × (Int × (Int × (Int × (Bool × ((Int × ((Int × (Int × ((List Int) × Unit))) × Unit)) × Unit)))))))), ()), ()), ()))
  else some ((((0 : Int), (x.1, true, (0 : Int), (0 : Int), ([] : List (Int × ((Int × (Int × ((List Int) × Unit))) × Unit))), (0 : Int), (0 : Int), (0 : Int), (0 : Int), ()), ([] : List (Int × (Int × (Int × (Int × (Int × (Bool × ((Int × ((Int × (Int × ((List Int) × Unit))) × Unit)) × Unit)))))))), ()), ()), ())
def impl_NewNode.hd : Hints := ⟨[], [], [2], [0, 2], []⟩
def impl_NewNode.lps (k : Nat) : List (Nat × Lp impl_NewNode.sg.Out) := []
theorem impl_NewNode.loops (k : Nat) : LoopsOk impl_NewNode.E k impl_NewNode.hd (impl_NewNode.lps k) (loopsOf (Go.Proofs.Try.f155.body.getD .skip)) := trivial
theorem impl_NewNode.den (k : Nat) (x : Sig.In impl_NewNode.sg.ps) : denFn impl_NewNode.E k Go.Proofs.Try.f155 impl_NewNode.sg impl_NewNode.hd (runL k impl_NewNode.hd (impl_NewNode.lps k)) x = impl_NewNode.F k x := by kernel_rfl
theorem impl_NewNode.ok (k : Nat) : Contract Try.prog 155 impl_NewNode.sg (impl_NewNode.F k) := ok_of (E := impl_NewNode.E) (tysOk _ _) (eqsOk _) ⟨impl_isNode.ok k, trivial⟩ Try.func155 rfl (by kernel_rfl) (impl_NewNode.loops k) (impl_NewNode.den k)
def impl_NewPair.sg : Sig := ⟨[.b kSettings], [(kPairResult, .dp)]⟩
def impl_NewPair.E : Env := ⟨tys, bys, [(154, ⟨impl_NewRouter.sg, impl_NewRouter.F⟩), (155, ⟨impl_NewNode.sg, impl_NewNode.F⟩)], eqs⟩
def impl_NewPair.l6 {ρ : Type} (k : Nat) (c0 : (Int × (Int × (Int × (Int × (Int × (Int × (Int × (Int × (Int × (List ((Int × (Int × Unit)) × (Int × (Int × (Int × (Bool × (Int × (Int × Unit))))))) × (List ((Int × (Int × Unit)) × (Int × (Int × (Int × (Bool × (Int × (Int × Unit))))))) × (List (Int × (Bool × (Int × (Int × ((List (Int × ((Int × (Int × ((List Int) × Unit))) × Unit))) × (Int × (Int × (Int × (Int × Unit))))))))) × (List (Int × ((List Int) × (Int × ((List Int) × Unit)))) × Unit))))))))))))) → Option ρ) : Nat → Int → Int → Int → Int → Int → Int → Int → Int → Int → Int → List ((Int × (Int × Unit)) × (Int × (Int × (Int × (Bool × (Int × (Int × Unit))))))) → List ((Int × (Int × Unit)) × (Int × (Int × (Int × (Bool × (Int × (Int × Unit))))))) → List (Int × (Bool × (Int × (Int × ((List (Int × ((Int × (Int × ((List Int) × Unit))) × Unit))) × (Int × (Int × (Int × (Int × Unit))))))))) → List (Int × ((List Int) × (Int × ((List Int) × Unit)))) → Option ρ
  | 0 => fun _ _ _ _ _ _ _ _ _ _ _ _ _ _ => none
  | n + 1 => fun x0 x1 x2 x3 x4 x5 x6 x7 x8 x9 x10 x11 x12 x13 => 
    bif (decide ((x0 < (2 : Int)))) then
    ((impl_NewNode.F k (x0, ())).bind fun y1 =>
      bif (Go.Dn.roomy ((List.length x12) + (List.length [y1.1.1.2.1])) 88) then
      (Go.Dn.share (x12 ++ [y1.1.1.2.1]) fun s2 =>
        impl_NewPair.l6 k c0 n (IntKind.wrap .i64 (x0 + (1 : Int))) x1 x2 x3 x4 x5 x6 x7 x8 x9 x10 x11 s2 x13)
      else none)
    else c0 (x1, x2, x3, x4, x5, x6, x7, x8, x9, x10, x11, x12, x13, ())
def impl_NewPair.F (k : Nat) (x : (((Int × (Int × (Int × Unit))) × (Int × ((List ((Int × (Int × Unit)) × (Int × (Int × (Int × (Bool × (Int × (Int × Unit)))))))) × ((List ((Int × (Int × Unit)) × (Int × (Int × (Int × (Bool × (Int × (Int × Unit)))))))) × Unit)))) × Unit)) : Option (((Int × ((List Int) × ((((Int × (Int × (Int × Unit))) × (Int × ((List ((Int × (Int × Unit)) × (Int × (Int × (Int × (Bool × (Int × (Int × Unit)))))))) × ((List ((Int × (Int × Unit)) × (Int × (Int × (Int × (Bool × (Int × (Int × Unit)))))))) × Unit)))) × ((List (Int × (Bool × (Int × (Int × ((List (Int × ((Int × (Int × ((List Int) × Unit))) × Unit))) × (Int × (Int × (Int × (Int × Unit)))))))))) × ((List (Int × ((List Int) × (Int × ((List Int) × Unit))))) × ((List (Int × (Int × (Int × (Int × (Int × (Bool × ((Int × ((Int × (Int × ((List Int) × Unit))) × Unit)) × Unit)))))))) × ((List (Int × ((Int × (Int × ((List Int) × Unit))) × Unit))) × Unit))))) × Unit))) × Unit) × Unit) :=
  (impl_NewRouter.F k x).bind fun y0 =>
  bif (y0.1.1.1 != (0 : Int)) then
  (some (((y0.1.1.1, ([] : List Int), ((((0 : Int), (0 : Int), (0 : Int), ()), (0 : Int), ([] : List ((Int × (Int × Unit)) × (Int × (Int × (Int × (Bool × (Int × (Int × Unit)))))))), ([] : List ((Int × (Int × Unit)) × (Int × (Int × (Int × (Bool × (Int × (Int × Unit)))))))), ()), ([] : List (Int × (Bool × (Int × (Int × ((List (Int × ((Int × (Int × ((List Int) × Unit))) × Unit))) × (Int × (Int × (Int × (Int × Unit)))))))))), ([] : List (Int × ((List Int) × (Int × ((List Int) × Unit))))), ([] : List (Int × (Int × (Int × (Int × (Int × (Bool × ((Int × ((Int × (Int × ((List Int) × Unit))) × Unit)) × Unit)))))))), ([] : List (Int × ((Int × (Int × ((List Int) × Unit))) × Unit))), ()), ()), ()), ()))
  else impl_NewPair.l6 k (fun e3 =>
      some ((((0 : Int), ([] : List Int), (((e3.2.2.2.2.2.1, e3.2.2.2.2.2.2.1, e3.2.2.2.2.2.2.2.1, ()), e3.2.2.2.2.2.2.2.2.1, e3.2.2.2.2.2.2.2.2.2.1, e3.2.2.2.2.2.2.2.2.2.2.1, ()), e3.2.2.2.2.2.2.2.2.2.2.2.1, e3.2.2.2.2.2.2.2.2.2.2.2.2.1, ([] : List (Int × (Int × (Int × (Int × (Int × (Bool × ((Int × ((Int × (Int × ((List Int) × Unit))) × Unit)) × Unit)))))))), ([] : List (Int × ((Int × (Int × ((List Int) × Unit))) × Unit))), ()), ()), ()), ())) k (0 : Int) (0 : Int) (0 : Int) (0 : Int) (0 : Int) (0 : Int) y0.1.1.2.1.1.1.1 y0.1.1.2.1.1.1.2.1 y0.1.1.2.1.1.1.2.2.1 y0.1.1.2.1.1.2.1 y0.1.1.2.1.1.2.2.1 y0.1.1.2.1.1.2.2.2.1 ([] : List (Int × (Bool × (Int × (Int × ((List (Int × ((Int × (Int × ((List Int) × Unit))) × Unit))) × (Int × (Int × (Int × (Int × Unit)))))))))) (List.replicate (Int.toNat (3 : Int)) ((0 : Int), (([] : List Int), ((0 : Int), (([] : List Int), ())))))
def impl_NewPair.hd : Hints := ⟨[(6, ⟨[2, 4, 19], [⟨4, (some 6), .own kNode⟩]⟩)], [(0, [2, 4]), (1, [2, 4, 19])], [2], [0, 1, 2, 3, 4, 5, 19], [(4, [0, 1, 3, 0, 15, 0, 63]), (8, [0, 1, 0, 4, 12, 28, 63, 127, 255])]⟩
def impl_NewPair.lps (k : Nat) : List (Nat × Lp impl_NewPair.sg.Out) := [(6, ⟨[.i, .i, .i, .i, .i, .i, .i, .i, .i, .i, .l kRule, .l kRule, .l kNode, .l kWire], fun x => (fun x0 x1 x2 x3 x4 x5 x6 x7 x8 x9 x10 x11 x12 x13 => ⟨[(2, .v false [.box 0 0]), (4, .v false [.box 2 0]), (19, .v false [.int .i64 x0])], [(0, .box [.int .i64 x1, .nil, .int .i64 x2, .int .i64 x3, .int .i64 x4, .int .i64 x5, .nil, .nil, .nil, .nil, .nil, .nil]), (2, .box [.int .i64 x6, .int .i64 x7, .int .i64 x8, .int .i64 x9, .arr 4, .arr 6, .arr 8, .arr 10, .nil, .nil]), (4, .arr kRule true false x10), (6, .arr kRule true false x11), (8, .arr kNode true false x12), (10, .arr kWire true false x13)], []⟩) x.1 x.2.1 x.2.2.1 x.2.2.2.1 x.2.2.2.2.1 x.2.2.2.2.2.1 x.2.2.2.2.2.2.1 x.2.2.2.2.2.2.2.1 x.2.2.2.2.2.2.2.2.1 x.2.2.2.2.2.2.2.2.2.1 x.2.2.2.2.2.2.2.2.2.2.1 x.2.2.2.2.2.2.2.2.2.2.2.1 x.2.2.2.2.2.2.2.2.2.2.2.2.1 x.2.2.2.2.2.2.2.2.2.2.2.2.2.1, fun C n x => impl_NewPair.l6 k (fun y => C (.exit 0) ((fun y0 y1 y2 y3 y4 y5 y6 y7 y8 y9 y10 y11 y12 => ⟨[(2, .v false [.box 0 0]), (4, .v false [.box 2 0])], [(0, .box [.int .i64 y0, .nil, .int .i64 y1, .int .i64 y2, .int .i64 y3, .int .i64 y4, .nil, .nil, .nil, .nil, .nil, .nil]), (2, .box [.int .i64 y5, .int .i64 y6, .int .i64 y7, .int .i64 y8, .arr 4, .arr 6, .arr 8, .arr 10, .nil, .nil]), (4, .arr kRule true false y9), (6, .arr kRule true false y10), (8, .arr kNode true false y11), (10, .arr kWire true false y12)], []⟩) y.1 y.2.1 y.2.2.1 y.2.2.2.1 y.2.2.2.2.1 y.2.2.2.2.2.1 y.2.2.2.2.2.2.1 y.2.2.2.2.2.2.2.1 y.2.2.2.2.2.2.2.2.1 y.2.2.2.2.2.2.2.2.2.1 y.2.2.2.2.2.2.2.2.2.2.1 y.2.2.2.2.2.2.2.2.2.2.2.1 y.2.2.2.2.2.2.2.2.2.2.2.2.1)) n x.1 x.2.1 x.2.2.1 x.2.2.2.1 x.2.2.2.2.1 x.2.2.2.2.2.1 x.2.2.2.2.2.2.1 x.2.2.2.2.2.2.2.1 x.2.2.2.2.2.2.2.2.1 x.2.2.2.2.2.2.2.2.2.1 x.2.2.2.2.2.2.2.2.2.2.1 x.2.2.2.2.2.2.2.2.2.2.2.1 x.2.2.2.2.2.2.2.2.2.2.2.2.1 x.2.2.2.2.2.2.2.2.2.2.2.2.2.1⟩)]
theorem impl_NewPair.loops (k : Nat) : LoopsOk impl_NewPair.E k impl_NewPair.hd (impl_NewPair.lps k) (loopsOf (Go.Proofs.Try.f56.body.getD .skip)) := ⟨⟨fun _ _ => rfl, fun _ _ _ => by kernel_rfl, fun _ => ⟨rfl, rfl⟩⟩, trivial⟩
theorem impl_NewPair.den (k : Nat) (x : Sig.In impl_NewPair.sg.ps) : denFn impl_NewPair.E k Go.Proofs.Try.f56 impl_NewPair.sg impl_NewPair.hd (runL k impl_NewPair.hd (impl_NewPair.lps k)) x = impl_NewPair.F k x := by kernel_rfl
theorem impl_NewPair.ok (k : Nat) : Contract Try.prog 56 impl_NewPair.sg (impl_NewPair.F k) := ok_of (E := impl_NewPair.E) (tysOk _ _) (eqsOk _) ⟨impl_NewRouter.ok k, impl_NewNode.ok k, trivial⟩ Try.func56 rfl (by kernel_rfl) (impl_NewPair.loops k) (impl_NewPair.den k)
def laws_eqRule.sg : Sig := ⟨[.b kRule, .b kRule], [(.bool, .rd)]⟩
def laws_eqRule.E : Env := ⟨tys, bys, [(249, ⟨laws_eqPrefix.sg, laws_eqPrefix.F⟩)], eqs⟩
def laws_eqRule.F (k : Nat) (x : (((Int × (Int × Unit)) × (Int × (Int × (Int × (Bool × (Int × (Int × Unit))))))) × (((Int × (Int × Unit)) × (Int × (Int × (Int × (Bool × (Int × (Int × Unit))))))) × Unit))) : Option ((Bool × Unit) × Unit) :=
  (laws_eqPrefix.F k (x.1.1, x.2.1.1, ())).bind fun y0 =>
  bif (!y0.1.1) then
  (some ((false, ()), ()))
  else bif (x.1.2.1 != x.2.1.2.1) then
    (some ((false, ()), ()))
    else bif (x.1.2.2.1 != x.2.1.2.2.1) then
      (some ((false, ()), ()))
      else bif (x.1.2.2.2.1 != x.2.1.2.2.2.1) then
        (some ((false, ()), ()))
        else bif (!(x.1.2.2.2.2.1 == x.2.1.2.2.2.2.1)) then
          (some ((false, ()), ()))
          else bif (x.1.2.2.2.2.2.1 != x.2.1.2.2.2.2.2.1) then
            (some ((false, ()), ()))
            else bif (x.1.2.2.2.2.2.2.1 != x.2.1.2.2.2.2.2.2.1) then
              (some ((false, ()), ()))
              else some ((true, ()), ())
def laws_eqRule.hd : Hints := ⟨[], [], [4], [0, 1, 2, 3], []⟩
def laws_eqRule.lps (k : Nat) : List (Nat × Lp laws_eqRule.sg.Out) := []
theorem laws_eqRule.loops (k : Nat) : LoopsOk laws_eqRule.E k laws_eqRule.hd (laws_eqRule.lps k) (loopsOf (Go.Proofs.Try.f166.body.getD .skip)) := trivial
theorem laws_eqRule.den (k : Nat) (x : Sig.In laws_eqRule.sg.ps) : denFn laws_eqRule.E k Go.Proofs.Try.f166 laws_eqRule.sg laws_eqRule.hd (runL k laws_eqRule.hd (laws_eqRule.lps k)) x = laws_eqRule.F k x := by kernel_rfl
theorem laws_eqRule.ok (k : Nat) : Contract Try.prog 166 laws_eqRule.sg (laws_eqRule.F k) := ok_of (E := laws_eqRule.E) (tysOk _ _) (eqsOk _) ⟨laws_eqPrefix.ok k, trivial⟩ Try.func166 rfl (by kernel_rfl) (laws_eqRule.loops k) (laws_eqRule.den k)
def laws_eqRuleS.sg : Sig := ⟨[.b (.sl kRule), .b (.sl kRule)], [(.bool, .rd)]⟩
def laws_eqRuleS.E : Env := ⟨tys, bys, [(166, ⟨laws_eqRule.sg, laws_eqRule.F⟩)], eqs⟩
def laws_eqRuleS.l4 {ρ : Type} (k : Nat) (c0 : (Bool × Unit) → Option ρ) (c1 : Unit → Option ρ) : Nat → List ((Int × (Int × Unit)) × (Int × (Int × (Int × (Bool × (Int × (Int × Unit))))))) → List ((Int × (Int × Unit)) × (Int × (Int × (Int × (Bool × (Int × (Int × Unit))))))) → Int → Option ρ
  | 0 => fun _ _ _ => none
  | n + 1 => fun x0 x1 x2 => 
    bif (decide ((x2 < (((List.length x0) : Nat) : Int)))) then
    (bif (Go.Dn.inB x2 (((List.length x0) : Nat) : Int)) then
      (Go.Dn.share (List.getD x0 (Int.toNat x2) (((0 : Int), ((0 : Int), ())), ((0 : Int), ((0 : Int), ((0 : Int), (false, ((0 : Int), ((0 : Int), ())))))))) fun s0 =>
        bif (Go.Dn.inB x2 (((List.length x1) : Nat) : Int)) then
        (Go.Dn.share (List.getD x1 (Int.toNat x2) (((0 : Int), ((0 : Int), ())), ((0 : Int), ((0 : Int), ((0 : Int), (false, ((0 : Int), ((0 : Int), ())))))))) fun s1 =>
          (laws_eqRule.F k (s0, s1, ())).bind fun y2 =>
          bif (!y2.1.1) then
          (c0 (false, ()))
          else laws_eqRuleS.l4 k c0 c1 n x0 x1 (IntKind.wrap .i64 (x2 + (1 : Int))))
        else none)
      else none)
    else c1 (())
def laws_eqRuleS.F (k : Nat) (x : ((List ((Int × (Int × Unit)) × (Int × (Int × (Int × (Bool × (Int × (Int × Unit)))))))) × ((List ((Int × (Int × Unit)) × (Int × (Int × (Int × (Bool × (Int × (Int × Unit)))))))) × Unit))) : Option ((Bool × Unit) × Unit) :=
  bif ((((List.length x.1) : Nat) : Int) != (((List.length x.2.1) : Nat) : Int)) then
  (some ((false, ()), ()))
  else laws_eqRuleS.l4 k (fun e3 =>
      some (e3, ())) (fun e4 =>
      some ((true, ()), ())) k x.1 x.2.1 (0 : Int)
def laws_eqRuleS.hd : Hints := ⟨[(4, ⟨[0, 1, 5], []⟩)], [(0, []), (1, [0, 1, 5])], [4], [0, 1, 5], [(6, [0, 0, 3, 7, 0, 0, 48, 112, 255, 511])]⟩
def laws_eqRuleS.lps (k : Nat) : List (Nat × Lp laws_eqRuleS.sg.Out) := [(4, ⟨[.l kRule, .l kRule, .i], fun x => (fun x0 x1 x2 => ⟨[(0, .v false [.fz kRule x0]), (1, .v false [.fz kRule x1]), (5, .v false [.int .i64 x2])], [], []⟩) x.1 x.2.1 x.2.2.1, fun C n x => laws_eqRuleS.l4 k (fun y => C .ret ((fun y0 => ⟨[(4, .v false [.bool y0])], [], []⟩) y.1)) (fun _ => C (.exit 0) ⟨[], [], []⟩) n x.1 x.2.1 x.2.2.1⟩)]
theorem laws_eqRuleS.loops (k : Nat) : LoopsOk laws_eqRuleS.E k laws_eqRuleS.hd (laws_eqRuleS.lps k) (loopsOf (Go.Proofs.Try.f67.body.getD .skip)) := ⟨⟨fun _ _ => rfl, fun _ _ _ => by kernel_rfl, fun _ => ⟨rfl, rfl⟩⟩, trivial⟩
theorem laws_eqRuleS.den (k : Nat) (x : Sig.In laws_eqRuleS.sg.ps) : denFn laws_eqRuleS.E k Go.Proofs.Try.f67 laws_eqRuleS.sg laws_eqRuleS.hd (runL k laws_eqRuleS.hd (laws_eqRuleS.lps k)) x = laws_eqRuleS.F k x := by kernel_rfl
theorem laws_eqRuleS.ok (k : Nat) : Contract Try.prog 67 laws_eqRuleS.sg (laws_eqRuleS.F k) := ok_of (E := laws_eqRuleS.E) (tysOk _ _) (eqsOk _) ⟨laws_eqRule.ok k, trivial⟩ Try.func67 rfl (by kernel_rfl) (laws_eqRuleS.loops k) (laws_eqRuleS.den k)
def laws_eqConfig.sg : Sig := ⟨[.b kConfig, .b kConfig], [(.bool, .rd)]⟩
def laws_eqConfig.E : Env := ⟨tys, bys, [], eqs⟩
def laws_eqConfig.F (k : Nat) (x : ((Int × (Int × (Int × Unit))) × ((Int × (Int × (Int × Unit))) × Unit))) : Option ((Bool × Unit) × Unit) :=
  bif (x.1.1 != x.2.1.1) then
  (some ((false, ()), ()))
  else bif (x.1.2.1 != x.2.1.2.1) then
    (some ((false, ()), ()))
    else bif (x.1.2.2.1 != x.2.1.2.2.1) then
      (some ((false, ()), ()))
      else some ((true, ()), ())
def laws_eqConfig.hd : Hints := ⟨[], [], [4], [0, 1, 2, 3], []⟩
def laws_eqConfig.lps (k : Nat) : List (Nat × Lp laws_eqConfig.sg.Out) := []
theorem laws_eqConfig.loops (k : Nat) : LoopsOk laws_eqConfig.E k laws_eqConfig.hd (laws_eqConfig.lps k) (loopsOf (Go.Proofs.Try.f157.body.getD .skip)) := trivial
theorem laws_eqConfig.den (k : Nat) (x : Sig.In laws_eqConfig.sg.ps) : denFn laws_eqConfig.E k Go.Proofs.Try.f157 laws_eqConfig.sg laws_eqConfig.hd (runL k laws_eqConfig.hd (laws_eqConfig.lps k)) x = laws_eqConfig.F k x := by kernel_rfl
theorem laws_eqConfig.ok (k : Nat) : Contract Try.prog 157 laws_eqConfig.sg (laws_eqConfig.F k) := ok_of (E := laws_eqConfig.E) (tysOk _ _) (eqsOk _) trivial Try.func157 rfl (by kernel_rfl) (laws_eqConfig.loops k) (laws_eqConfig.den k)
def laws_eqSettings.sg : Sig := ⟨[.b kSettings, .b kSettings], [(.bool, .rd)]⟩
def laws_eqSettings.E : Env := ⟨tys, bys, [(67, ⟨laws_eqRuleS.sg, laws_eqRuleS.F⟩), (157, ⟨laws_eqConfig.sg, laws_eqConfig.F⟩)], eqs⟩
def laws_eqSettings.F (k : Nat) (x : (((Int × (Int × (Int × Unit))) × (Int × ((List ((Int × (Int × Unit)) × (Int × (Int × (Int × (Bool × (Int × (Int × Unit)))))))) × ((List ((Int × (Int × Unit)) × (Int × (Int × (Int × (Bool × (Int × (Int × Unit)))))))) × Unit)))) × (((Int × (Int × (Int × Unit))) × (Int × ((List ((Int × (Int × Unit)) × (Int × (Int × (Int × (Bool × (Int × (Int × Unit)))))))) × ((List ((Int × (Int × Unit)) × (Int × (Int × (Int × (Bool × (Int × (Int × Unit)))))))) × Unit)))) × Unit))) : Option ((Bool × Unit) × Unit) :=
  (laws_eqConfig.F k (x.1.1, x.2.1.1, ())).bind fun y0 =>
  bif (!y0.1.1) then
  (some ((false, ()), ()))
  else bif (x.1.2.1 != x.2.1.2.1) then
    (some ((false, ()), ()))
    else (laws_eqRuleS.F k (x.1.2.2.1, x.2.1.2.2.1, ())).bind fun y1 =>
      bif (!y1.1.1) then
      (some ((false, ()), ()))
      else (laws_eqRuleS.F k (x.1.2.2.2.1, x.2.1.2.2.2)).bind fun y2 =>
        bif (!y2.1.1) then
        (some ((false, ()), ()))
        else some ((true, ()), ())
def laws_eqSettings.hd : Hints := ⟨[], [], [4], [0, 1, 2, 3], []⟩
def laws_eqSettings.lps (k : Nat) : List (Nat × Lp laws_eqSettings.sg.Out) := []
theorem laws_eqSettings.loops (k : Nat) : LoopsOk laws_eqSettings.E k laws_eqSettings.hd (laws_eqSettings.lps k) (loopsOf (Go.Proofs.Try.f58.body.getD .skip)) := trivial
theorem laws_eqSettings.den (k : Nat) (x : Sig.In laws_eqSettings.sg.ps) : denFn laws_eqSettings.E k Go.Proofs.Try.f58 laws_eqSettings.sg laws_eqSettings.hd (runL k laws_eqSettings.hd (laws_eqSettings.lps k)) x = laws_eqSettings.F k x := by kernel_rfl
theorem laws_eqSettings.ok (k : Nat) : Contract Try.prog 58 laws_eqSettings.sg (laws_eqSettings.F k) := ok_of (E := laws_eqSettings.E) (tysOk _ _) (eqsOk _) ⟨laws_eqRuleS.ok k, laws_eqConfig.ok k, trivial⟩ Try.func58 rfl (by kernel_rfl) (laws_eqSettings.loops k) (laws_eqSettings.den k)
def laws_eqNodeS.sg : Sig := ⟨[.b (.sl kNode), .b (.sl kNode)], [(.bool, .rd)]⟩
def laws_eqNodeS.E : Env := ⟨tys, bys, [(35, ⟨laws_eqNode.sg, laws_eqNode.F⟩)], eqs⟩
def laws_eqNodeS.l4 {ρ : Type} (k : Nat) (c0 : (Bool × Unit) → Option ρ) (c1 : Unit → Option ρ) : Nat → List (Int × (Bool × (Int × (Int × ((List (Int × ((Int × (Int × ((List Int) × Unit))) × Unit))) × (Int × (Int × (Int × (Int × Unit))))))))) → List (Int × (Bool × (Int × (Int × ((List (Int × ((Int × (Int × ((List Int) × Unit))) × Unit))) × (Int × (Int × (Int × (Int × Unit))))))))) → Int → Option ρ
  | 0 => fun _ _ _ => none
  | n + 1 => fun x0 x1 x2 => 
    bif (decide ((x2 < (((List.length x0) : Nat) : Int)))) then
    (bif (Go.Dn.inB x2 (((List.length x0) : Nat) : Int)) then
      (Go.Dn.share (List.getD x0 (Int.toNat x2) ((0 : Int), (false, ((0 : Int), ((0 : Int), (([] : List (Int × ((Int × (Int × ((List Int) × Unit))) × Unit))), ((0 : Int), ((0 : Int), ((0 : Int), ((0 : Int), ())))))))))) fun s0 =>
        bif (Go.Dn.inB x2 (((List.length x1) : Nat) : Int)) then
        (Go.Dn.share (List.getD x1 (Int.toNat x2) ((0 : Int), (false, ((0 : Int), ((0 : Int), (([] : List (Int × ((Int × (Int × ((List Int) × Unit))) × Unit))), ((0 : Int), ((0 : Int), ((0 : Int), ((0 : Int), ())))))))))) fun s1 =>
          (laws_eqNode.F k (s0, s1, ())).bind fun y2 =>
          bif (!y2.1.1) then
          (c0 (false, ()))
          else laws_eqNodeS.l4 k c0 c1 n x0 x1 (IntKind.wrap .i64 (x2 + (1 : Int))))
        else none)
      else none)
    else c1 (())
def laws_eqNodeS.F (k : Nat) (x : ((List (Int × (Bool × (Int × (Int × ((List (Int × ((Int × (Int × ((List Int) × Unit))) × Unit))) × (Int × (Int × (Int × (Int × Unit)))))))))) × ((List (Int × (Bool × (Int × (Int × ((List (Int × ((Int × (Int × ((List Int) × Unit))) × Unit))) × (Int × (Int × (Int × (Int × Unit)))))))))) × Unit))) : Option ((Bool × Unit) × Unit) :=
  bif ((((List.length x.1) : Nat) : Int) != (((List.length x.2.1) : Nat) : Int)) then
  (some ((false, ()), ()))
  else laws_eqNodeS.l4 k (fun e3 =>
      some (e3, ())) (fun e4 =>
      some ((true, ()), ())) k x.1 x.2.1 (0 : Int)
def laws_eqNodeS.hd : Hints := ⟨[(4, ⟨[0, 1, 5], []⟩)], [(0, []), (1, [0, 1, 5])], [4], [0, 1, 5], [(6, [0, 0, 3, 7, 0, 0, 48, 112, 255, 511])]⟩
def laws_eqNodeS.lps (k : Nat) : List (Nat × Lp laws_eqNodeS.sg.Out) := [(4, ⟨[.l kNode, .l kNode, .i], fun x => (fun x0 x1 x2 => ⟨[(0, .v false [.fz kNode x0]), (1, .v false [.fz kNode x1]), (5, .v false [.int .i64 x2])], [], []⟩) x.1 x.2.1 x.2.2.1, fun C n x => laws_eqNodeS.l4 k (fun y => C .ret ((fun y0 => ⟨[(4, .v false [.bool y0])], [], []⟩) y.1)) (fun _ => C (.exit 0) ⟨[], [], []⟩) n x.1 x.2.1 x.2.2.1⟩)]
theorem laws_eqNodeS.loops (k : Nat) : LoopsOk laws_eqNodeS.E k laws_eqNodeS.hd (laws_eqNodeS.lps k) (loopsOf (Go.Proofs.Try.f176.body.getD .skip)) := ⟨⟨fun _ _ => rfl, fun _ _ _ => by kernel_rfl, fun _ => ⟨rfl, rfl⟩⟩, trivial⟩
theorem laws_eqNodeS.den (k : Nat) (x : Sig.In laws_eqNodeS.sg.ps) : denFn laws_eqNodeS.E k Go.Proofs.Try.f176 laws_eqNodeS.sg laws_eqNodeS.hd (runL k laws_eqNodeS.hd (laws_eqNodeS.lps k)) x = laws_eqNodeS.F k x := by kernel_rfl
theorem laws_eqNodeS.ok (k : Nat) : Contract Try.prog 176 laws_eqNodeS.sg (laws_eqNodeS.F k) := ok_of (E := laws_eqNodeS.E) (tysOk _ _) (eqsOk _) ⟨laws_eqNode.ok k, trivial⟩ Try.func176 rfl (by kernel_rfl) (laws_eqNodeS.loops k) (laws_eqNodeS.den k)
def laws_eqWire.sg : Sig := ⟨[.b kWire, .b kWire], [(.bool, .rd)]⟩
def laws_eqWire.E : Env := ⟨tys, bys, [(156, ⟨laws_eqByteS.sg, laws_eqByteS.F⟩)], eqs⟩
def laws_eqWire.F (k : Nat) (x : ((Int × ((List Int) × (Int × ((List Int) × Unit)))) × ((Int × ((List Int) × (Int × ((List Int) × Unit)))) × Unit))) : Option ((Bool × Unit) × Unit) :=
  bif (x.1.1 != x.2.1.1) then
  (some ((false, ()), ()))
  else (laws_eqByteS.F k (x.1.2.1, x.2.1.2.1, ())).bind fun y0 =>
    bif (!y0.1.1) then
    (some ((false, ()), ()))
    else bif (x.1.2.2.1 != x.2.1.2.2.1) then
      (some ((false, ()), ()))
      else (laws_eqByteS.F k (x.1.2.2.2.1, x.2.1.2.2.2)).bind fun y1 =>
        bif (!y1.1.1) then
        (some ((false, ()), ()))
        else some ((true, ()), ())
def laws_eqWire.hd : Hints := ⟨[], [], [4], [0, 1, 2, 3], []⟩
def laws_eqWire.lps (k : Nat) : List (Nat × Lp laws_eqWire.sg.Out) := []
theorem laws_eqWire.loops (k : Nat) : LoopsOk laws_eqWire.E k laws_eqWire.hd (laws_eqWire.lps k) (loopsOf (Go.Proofs.Try.f267.body.getD .skip)) := trivial
theorem laws_eqWire.den (k : Nat) (x : Sig.In laws_eqWire.sg.ps) : denFn laws_eqWire.E k Go.Proofs.Try.f267 laws_eqWire.sg laws_eqWire.hd (runL k laws_eqWire.hd (laws_eqWire.lps k)) x = laws_eqWire.F k x := by kernel_rfl
theorem laws_eqWire.ok (k : Nat) : Contract Try.prog 267 laws_eqWire.sg (laws_eqWire.F k) := ok_of (E := laws_eqWire.E) (tysOk _ _) (eqsOk _) ⟨laws_eqByteS.ok k, trivial⟩ Try.func267 rfl (by kernel_rfl) (laws_eqWire.loops k) (laws_eqWire.den k)
def laws_eqWireS.sg : Sig := ⟨[.b (.sl kWire), .b (.sl kWire)], [(.bool, .rd)]⟩
def laws_eqWireS.E : Env := ⟨tys, bys, [(267, ⟨laws_eqWire.sg, laws_eqWire.F⟩)], eqs⟩
def laws_eqWireS.l4 {ρ : Type} (k : Nat) (c0 : (Bool × Unit) → Option ρ) (c1 : Unit → Option ρ) : Nat → List (Int × ((List Int) × (Int × ((List Int) × Unit)))) → List (Int × ((List Int) × (Int × ((List Int) × Unit)))) → Int → Option ρ
  | 0 => fun _ _ _ => none
  | n + 1 => fun x0 x1 x2 => 
    bif (decide ((x2 < (((List.length x0) : Nat) : Int)))) then
    (bif (Go.Dn.inB x2 (((List.length x0) : Nat) : Int)) then
      (Go.Dn.share (List.getD x0 (Int.toNat x2) ((0 : Int), (([] : List Int), ((0 : Int), (([] : List Int), ()))))) fun s0 =>
        bif (Go.Dn.inB x2 (((List.length x1) : Nat) : Int)) then
        (Go.Dn.share (List.getD x1 (Int.toNat x2) ((0 : Int), (([] : List Int), ((0 : Int), (([] : List Int), ()))))) fun s1 =>
          (laws_eqWire.F k (s0, s1, ())).bind fun y2 =>
          bif (!y2.1.1) then
          (c0 (false, ()))
          else laws_eqWireS.l4 k c0 c1 n x0 x1 (IntKind.wrap .i64 (x2 + (1 : Int))))
        else none)
      else none)
    else c1 (())
def laws_eqWireS.F (k : Nat) (x : ((List (Int × ((List Int) × (Int × ((List Int) × Unit))))) × ((List (Int × ((List Int) × (Int × ((List Int) × Unit))))) × Unit))) : Option ((Bool × Unit) × Unit) :=
  bif ((((List.length x.1) : Nat) : Int) != (((List.length x.2.1) : Nat) : Int)) then
  (some ((false, ()), ()))
  else laws_eqWireS.l4 k (fun e3 =>
      some (e3, ())) (fun e4 =>
      some ((true, ()), ())) k x.1 x.2.1 (0 : Int)
def laws_eqWireS.hd : Hints := ⟨[(4, ⟨[0, 1, 5], []⟩)], [(0, []), (1, [0, 1, 5])], [4], [0, 1, 5], [(6, [0, 0, 3, 7, 0, 0, 48, 112, 255, 511])]⟩
def laws_eqWireS.lps (k : Nat) : List (Nat × Lp laws_eqWireS.sg.Out) := [(4, ⟨[.l kWire, .l kWire, .i], fun x => (fun x0 x1 x2 => ⟨[(0, .v false [.fz kWire x0]), (1, .v false [.fz kWire x1]), (5, .v false [.int .i64 x2])], [], []⟩) x.1 x.2.1 x.2.2.1, fun C n x => laws_eqWireS.l4 k (fun y => C .ret ((fun y0 => ⟨[(4, .v false [.bool y0])], [], []⟩) y.1)) (fun _ => C (.exit 0) ⟨[], [], []⟩) n x.1 x.2.1 x.2.2.1⟩)]
theorem laws_eqWireS.loops (k : Nat) : LoopsOk laws_eqWireS.E k laws_eqWireS.hd (laws_eqWireS.lps k) (loopsOf (Go.Proofs.Try.f177.body.getD .skip)) := ⟨⟨fun _ _ => rfl, fun _ _ _ => by kernel_rfl, fun _ => ⟨rfl, rfl⟩⟩, trivial⟩
theorem laws_eqWireS.den (k : Nat) (x : Sig.In laws_eqWireS.sg.ps) : denFn laws_eqWireS.E k Go.Proofs.Try.f177 laws_eqWireS.sg laws_eqWireS.hd (runL k laws_eqWireS.hd (laws_eqWireS.lps k)) x = laws_eqWireS.F k x := by kernel_rfl
theorem laws_eqWireS.ok (k : Nat) : Contract Try.prog 177 laws_eqWireS.sg (laws_eqWireS.F k) := ok_of (E := laws_eqWireS.E) (tysOk _ _) (eqsOk _) ⟨laws_eqWire.ok k, trivial⟩ Try.func177 rfl (by kernel_rfl) (laws_eqWireS.loops k) (laws_eqWireS.den k)
def laws_eqPair.sg : Sig := ⟨[.b kPair, .b kPair], [(.bool, .rd)]⟩
def laws_eqPair.E : Env := ⟨tys, bys, [(58, ⟨laws_eqSettings.sg, laws_eqSettings.F⟩), (130, ⟨laws_eqMailS.sg, laws_eqMailS.F⟩), (131, ⟨laws_eqEntryS.sg, laws_eqEntryS.F⟩), (176, ⟨laws_eqNodeS.sg, laws_eqNodeS.F⟩), (177, ⟨laws_eqWireS.sg, laws_eqWireS.F⟩)], eqs⟩
def laws_eqPair.F (k : Nat) (x : ((((Int × (Int × (Int × Unit))) × (Int × ((List ((Int × (Int × Unit)) × (Int × (Int × (Int × (Bool × (Int × (Int × Unit)))))))) × ((List ((Int × (Int × Unit)) × (Int × (Int × (Int × (Bool × (Int × (Int × Unit)))))))) × Unit)))) × ((List (Int × (Bool × (Int × (Int × ((List (Int × ((Int × (Int × ((List Int) × Unit))) × Unit))) × (Int × (Int × (Int × (Int × Unit)))))))))) × ((List (Int × ((List Int) × (Int × ((List Int) × Unit))))) × ((List (Int × (Int × (Int × (Int × (Int × (Bool × ((Int × ((Int × (Int × ((List Int) × Unit))) × Unit)) × Unit)))))))) × ((List (Int × ((Int × (Int × ((List Int) × Unit))) × Unit))) × Unit))))) × ((((Int × (Int × (Int × Unit))) × (Int × ((List ((Int × (Int × Unit)) × (Int × (Int × (Int × (Bool × (Int × (Int × Unit)))))))) × ((List ((Int × (Int × Unit)) × (Int × (Int × (Int × (Bool × (Int × (Int × Unit)))))))) × Unit)))) × ((List (Int × (Bool × (Int × (Int × ((List (Int × ((Int × (Int × ((List Int) × Unit))) × Unit))) × (Int × (Int × (Int × (Int × Unit)))))))))) × ((List (Int × ((List Int) × (Int × ((List Int) × Unit))))) × ((List (Int × (Int × (Int × (Int × (Int × (Bool × ((Int × ((Int × (Int × ((List Int) × Unit))) × Unit)) × Unit)))))))) × ((List (Int × ((Int × (Int × ((List Int) × Unit))) × Unit))) × Unit))))) × Unit))) : Option ((Bool × Unit) × Unit) :=
  (laws_eqSettings.F k (x.1.1, x.2.1.1, ())).bind fun y0 =>
  bif (!y0.1.1) then
  (some ((false, ()), ()))
  else (laws_eqNodeS.F k (x.1.2.1, x.2.1.2.1, ())).bind fun y1 =>
    bif (!y1.1.1) then
    (some ((false, ()), ()))
    else (laws_eqWireS.F k (x.1.2.2.1, x.2.1.2.2.1, ())).bind fun y2 =>
      bif (!y2.1.1) then
      (some ((false, ()), ()))
      else (laws_eqMailS.F k (x.1.2.2.2.1, x.2.1.2.2.2.1, ())).bind fun y3 =>
        bif (!y3.1.1) then
        (some ((false, ()), ()))
        else (laws_eqEntryS.F k (x.1.2.2.2.2.1, x.2.1.2.2.2.2)).bind fun y4 =>
          bif (!y4.1.1) then
          (some ((false, ()), ()))
          else some ((true, ()), ())
def laws_eqPair.hd : Hints := ⟨[], [], [4], [0, 1, 2, 3], []⟩
def laws_eqPair.lps (k : Nat) : List (Nat × Lp laws_eqPair.sg.Out) := []
theorem laws_eqPair.loops (k : Nat) : LoopsOk laws_eqPair.E k laws_eqPair.hd (laws_eqPair.lps k) (loopsOf (Go.Proofs.Try.f74.body.getD .skip)) := trivial
theorem laws_eqPair.den (k : Nat) (x : Sig.In laws_eqPair.sg.ps) : denFn laws_eqPair.E k Go.Proofs.Try.f74 laws_eqPair.sg laws_eqPair.hd (runL k laws_eqPair.hd (laws_eqPair.lps k)) x = laws_eqPair.F k x := by kernel_rfl
theorem laws_eqPair.ok (k : Nat) : Contract Try.prog 74 laws_eqPair.sg (laws_eqPair.F k) := ok_of (E := laws_eqPair.E) (tysOk _ _) (eqsOk _) ⟨laws_eqSettings.ok k, laws_eqMailS.ok k, laws_eqEntryS.ok k, laws_eqNodeS.ok k, laws_eqWireS.ok k, trivial⟩ Try.func74 rfl (by kernel_rfl) (laws_eqPair.loops k) (laws_eqPair.den k)
def laws_eqPairResult.sg : Sig := ⟨[.b kPairResult, .b kPairResult], [(.bool, .rd)]⟩
def laws_eqPairResult.E : Env := ⟨tys, bys, [(74, ⟨laws_eqPair.sg, laws_eqPair.F⟩), (156, ⟨laws_eqByteS.sg, laws_eqByteS.F⟩)], eqs⟩
def laws_eqPairResult.F (k : Nat) (x : ((Int × ((List Int) × ((((Int × (Int × (Int × Unit))) × (Int × ((List ((Int × (Int × Unit)) × (Int × (Int × (Int × (Bool × (Int × (Int × Unit)))))))) × ((List ((Int × (Int × Unit)) × (Int × (Int × (Int × (Bool × (Int × (Int × Unit)))))))) × Unit)))) × ((List (Int × (Bool × (Int × (Int × ((List (Int × ((Int × (Int × ((List Int) × Unit))) × Unit))) × (Int × (Int × (Int × (Int × Unit)))))))))) × ((List (Int × ((List Int) × (Int × ((List Int) × Unit))))) × ((List (Int × (Int × (Int × (Int × (Int × (Bool × ((Int × ((Int × (Int × ((List Int) × Unit))) × Unit)) × Unit)))))))) × ((List (Int × ((Int × (Int × ((List Int) × Unit))) × Unit))) × Unit))))) × Unit))) × ((Int × ((List Int) × ((((Int × (Int × (Int × Unit))) × (Int × ((List ((Int × (Int × Unit)) × (Int × (Int × (Int × (Bool × (Int × (Int × Unit)))))))) × ((List ((Int × (Int × Unit)) × (Int × (Int × (Int × (Bool × (Int × (Int × Unit)))))))) × Unit)))) × ((List (Int × (Bool × (Int × (Int × ((List (Int × ((Int × (Int × ((List Int) × Unit))) × Unit))) × (Int × (Int × (Int × (Int × Unit)))))))))) × ((List (Int × ((List Int) × (Int × ((List Int) × Unit))))) × ((List (Int × (Int × (Int × (Int × (Int × (Bool × ((Int × ((Int × (Int × ((List Int) × Unit))) × Unit)) × Unit)))))))) × ((List (Int × ((Int × (Int × ((List Int) × Unit))) × Unit))) × Unit))))) × Unit))) × Unit))) : Option ((Bool × Unit) × Unit) :=
  bif (x.1.1 != x.2.1.1) then
  (some ((false, ()), ()))
  else (laws_eqByteS.F k (x.1.2.1, x.2.1.2.1, ())).bind fun y0 =>
    bif (!y0.1.1) then
    (some ((false, ()), ()))
    else (laws_eqPair.F k (x.1.2.2.1, x.2.1.2.2)).bind fun y1 =>
      bif (!y1.1.1) then
      (some ((false, ()), ()))
      else some ((true, ()), ())
def laws_eqPairResult.hd : Hints := ⟨[], [], [4], [0, 1, 2, 3], []⟩
def laws_eqPairResult.lps (k : Nat) : List (Nat × Lp laws_eqPairResult.sg.Out) := []
theorem laws_eqPairResult.loops (k : Nat) : LoopsOk laws_eqPairResult.E k laws_eqPairResult.hd (laws_eqPairResult.lps k) (loopsOf (Go.Proofs.Try.f57.body.getD .skip)) := trivial
theorem laws_eqPairResult.den (k : Nat) (x : Sig.In laws_eqPairResult.sg.ps) : denFn laws_eqPairResult.E k Go.Proofs.Try.f57 laws_eqPairResult.sg laws_eqPairResult.hd (runL k laws_eqPairResult.hd (laws_eqPairResult.lps k)) x = laws_eqPairResult.F k x := by kernel_rfl
theorem laws_eqPairResult.ok (k : Nat) : Contract Try.prog 57 laws_eqPairResult.sg (laws_eqPairResult.F k) := ok_of (E := laws_eqPairResult.E) (tysOk _ _) (eqsOk _) ⟨laws_eqPair.ok k, laws_eqByteS.ok k, trivial⟩ Try.func57 rfl (by kernel_rfl) (laws_eqPairResult.loops k) (laws_eqPairResult.den k)
def laws_markRuleS.sg : Sig := ⟨[.m (.sl kRule), .b (.int .i64)], [((.int .i64), .rd)]⟩
def laws_markRuleS.E : Env := ⟨tys, bys, [], eqs⟩
def laws_markRuleS.l2 {ρ : Type} (k : Nat) (c0 : (Int × (List ((Int × (Int × Unit)) × (Int × (Int × (Int × (Bool × (Int × (Int × Unit))))))) × Unit)) → Option ρ) : Nat → Int → Int → List ((Int × (Int × Unit)) × (Int × (Int × (Int × (Bool × (Int × (Int × Unit))))))) → Option ρ
  | 0 => fun _ _ _ => none
  | n + 1 => fun x0 x1 x2 => 
    bif (decide ((x1 < (((List.length x2) : Nat) : Int)))) then
    (bif (Go.Dn.inB x1 (((List.length x2) : Nat) : Int)) then
      (Go.Dn.share (List.set x2 (Int.toNat x1) ((x0, (List.getD x2 (Int.toNat x1) (((0 : Int), ((0 : Int), ())), ((0 : Int), ((0 : Int), ((0 : Int), (false, ((0 : Int), ((0 : Int), ())))))))).1.2), (List.getD x2 (Int.toNat x1) (((0 : Int), ((0 : Int), ())), ((0 : Int), ((0 : Int), ((0 : Int), (false, ((0 : Int), ((0 : Int), ())))))))).2)) fun s0 =>
        bif (Go.Dn.inB x1 (((List.length s0) : Nat) : Int)) then
        (Go.Dn.share (List.set s0 (Int.toNat x1) (((List.getD s0 (Int.toNat x1) (((0 : Int), ((0 : Int), ())), ((0 : Int), ((0 : Int), ((0 : Int), (false, ((0 : Int), ((0 : Int), ())))))))).1.1, (IntKind.wrap .i64 (x0 + (1 : Int))), (List.getD s0 (Int.toNat x1) (((0 : Int), ((0 : Int), ())), ((0 : Int), ((0 : Int), ((0 : Int), (false, ((0 : Int), ((0 : Int), ())))))))).1.2.2), (List.getD s0 (Int.toNat x1) (((0 : Int), ((0 : Int), ())), ((0 : Int), ((0 : Int), ((0 : Int), (false, ((0 : Int), ((0 : Int), ())))))))).2)) fun s1 =>
          bif (Go.Dn.inB x1 (((List.length s1) : Nat) : Int)) then
          (Go.Dn.share (List.set s1 (Int.toNat x1) ((List.getD s1 (Int.toNat x1) (((0 : Int), ((0 : Int), ())), ((0 : Int), ((0 : Int), ((0 : Int), (false, ((0 : Int), ((0 : Int), ())))))))).1, (IntKind.wrap .i64 ((IntKind.wrap .i64 (x0 + (1 : Int))) + (1 : Int))), (List.getD s1 (Int.toNat x1) (((0 : Int), ((0 : Int), ())), ((0 : Int), ((0 : Int), ((0 : Int), (false, ((0 : Int), ((0 : Int), ())))))))).2.2)) fun s2 =>
            bif (Go.Dn.inB x1 (((List.length s2) : Nat) : Int)) then
            (Go.Dn.share (List.set s2 (Int.toNat x1) ((List.getD s2 (Int.toNat x1) (((0 : Int), ((0 : Int), ())), ((0 : Int), ((0 : Int), ((0 : Int), (false, ((0 : Int), ((0 : Int), ())))))))).1, (List.getD s2 (Int.toNat x1) (((0 : Int), ((0 : Int), ())), ((0 : Int), ((0 : Int), ((0 : Int), (false, ((0 : Int), ((0 : Int), ())))))))).2.1, (IntKind.wrap .i64 ((IntKind.wrap .i64 ((IntKind.wrap .i64 (x0 + (1 : Int))) + (1 : Int))) + (1 : Int))), (List.getD s2 (Int.toNat x1) (((0 : Int), ((0 : Int), ())), ((0 : Int), ((0 : Int), ((0 : Int), (false, ((0 : Int), ((0 : Int), ())))))))).2.2.2)) fun s3 =>
              bif (Go.Dn.inB x1 (((List.length s3) : Nat) : Int)) then
              (Go.Dn.share (List.set s3 (Int.toNat x1) ((List.getD s3 (Int.toNat x1) (((0 : Int), ((0 : Int), ())), ((0 : Int), ((0 : Int), ((0 : Int), (false, ((0 : Int), ((0 : Int), ())))))))).1, (List.getD s3 (Int.toNat x1) (((0 : Int), ((0 : Int), ())), ((0 : Int), ((0 : Int), ((0 : Int), (false, ((0 : Int), ((0 : Int), ())))))))).2.1, (List.getD s3 (Int.toNat x1) (((0 : Int), ((0 : Int), ())), ((0 : Int), ((0 : Int), ((0 : Int), (false, ((0 : Int), ((0 : Int), ())))))))).2.2.1, (IntKind.wrap .i64 ((IntKind.wrap .i64 ((IntKind.wrap .i64 ((IntKind.wrap .i64 (x0 + (1 : Int))) + (1 : Int))) + (1 : Int))) + (1 : Int))), (List.getD s3 (Int.toNat x1) (((0 : Int), ((0 : Int), ())), ((0 : Int), ((0 : Int), ((0 : Int), (false, ((0 : Int), ((0 : Int), ())))))))).2.2.2.2)) fun s4 =>
                bif (Go.Dn.inB x1 (((List.length s4) : Nat) : Int)) then
                (Go.Dn.share (List.set s4 (Int.toNat x1) ((List.getD s4 (Int.toNat x1) (((0 : Int), ((0 : Int), ())), ((0 : Int), ((0 : Int), ((0 : Int), (false, ((0 : Int), ((0 : Int), ())))))))).1, (List.getD s4 (Int.toNat x1) (((0 : Int), ((0 : Int), ())), ((0 : Int), ((0 : Int), ((0 : Int), (false, ((0 : Int), ((0 : Int), ())))))))).2.1, (List.getD s4 (Int.toNat x1) (((0 : Int), ((0 : Int), ())), ((0 : Int), ((0 : Int), ((0 : Int), (false, ((0 : Int), ((0 : Int), ())))))))).2.2.1, (List.getD s4 (Int.toNat x1) (((0 : Int), ((0 : Int), ())), ((0 : Int), ((0 : Int), ((0 : Int), (false, ((0 : Int), ((0 : Int), ())))))))).2.2.2.1, ((Int.tmod (IntKind.wrap .i64 ((IntKind.wrap .i64 ((IntKind.wrap .i64 ((IntKind.wrap .i64 ((IntKind.wrap .i64 (x0 + (1 : Int))) + (1 : Int))) + (1 : Int))) + (1 : Int))) + (1 : Int))) (3 : Int)) == (0 : Int)), (List.getD s4 (Int.toNat x1) (((0 : Int), ((0 : Int), ())), ((0 : Int), ((0 : Int), ((0 : Int), (false, ((0 : Int), ((0 : Int), ())))))))).2.2.2.2.2)) fun s5 =>
                  bif (Go.Dn.inB x1 (((List.length s5) : Nat) : Int)) then
                  (Go.Dn.share (List.set s5 (Int.toNat x1) ((List.getD s5 (Int.toNat x1) (((0 : Int), ((0 : Int), ())), ((0 : Int), ((0 : Int), ((0 : Int), (false, ((0 : Int), ((0 : Int), ())))))))).1, (List.getD s5 (Int.toNat x1) (((0 : Int), ((0 : Int), ())), ((0 : Int), ((0 : Int), ((0 : Int), (false, ((0 : Int), ((0 : Int), ())))))))).2.1, (List.getD s5 (Int.toNat x1) (((0 : Int), ((0 : Int), ())), ((0 : Int), ((0 : Int), ((0 : Int), (false, ((0 : Int), ((0 : Int), ())))))))).2.2.1, (List.getD s5 (Int.toNat x1) (((0 : Int), ((0 : Int), ())), ((0 : Int), ((0 : Int), ((0 : Int), (false, ((0 : Int), ((0 : Int), ())))))))).2.2.2.1, (List.getD s5 (Int.toNat x1) (((0 : Int), ((0 : Int), ())), ((0 : Int), ((0 : Int), ((0 : Int), (false, ((0 : Int), ((0 : Int), ())))))))).2.2.2.2.1, (IntKind.wrap .i64 ((IntKind.wrap .i64 ((IntKind.wrap .i64 ((IntKind.wrap .i64 ((IntKind.wrap .i64 ((IntKind.wrap .i64 (x0 + (1 : Int))) + (1 : Int))) + (1 : Int))) + (1 : Int))) + (1 : Int))) + (1 : Int))), (List.getD s5 (Int.toNat x1) (((0 : Int), ((0 : Int), ())), ((0 : Int), ((0 : Int), ((0 : Int), (false, ((0 : Int), ((0 : Int), ())))))))).2.2.2.2.2.2)) fun s6 =>
                    bif (Go.Dn.inB x1 (((List.length s6) : Nat) : Int)) then
                    (Go.Dn.share (List.set s6 (Int.toNat x1) ((List.getD s6 (Int.toNat x1) (((0 : Int), ((0 : Int), ())), ((0 : Int), ((0 : Int), ((0 : Int), (false, ((0 : Int), ((0 : Int), ())))))))).1, (List.getD s6 (Int.toNat x1) (((0 : Int), ((0 : Int), ())), ((0 : Int), ((0 : Int), ((0 : Int), (false, ((0 : Int), ((0 : Int), ())))))))).2.1, (List.getD s6 (Int.toNat x1) (((0 : Int), ((0 : Int), ())), ((0 : Int), ((0 : Int), ((0 : Int), (false, ((0 : Int), ((0 : Int), ())))))))).2.2.1, (List.getD s6 (Int.toNat x1) (((0 : Int), ((0 : Int), ())), ((0 : Int), ((0 : Int), ((0 : Int), (false, ((0 : Int), ((0 : Int), ())))))))).2.2.2.1, (List.getD s6 (Int.toNat x1) (((0 : Int), ((0 : Int), ())), ((0 : Int), ((0 : Int), ((0 : Int), (false, ((0 : Int), ((0 : Int), ())))))))).2.2.2.2.1, (List.getD s6 (Int.toNat x1) (((0 : Int), ((0 : Int), ())), ((0 : Int), ((0 : Int), ((0 : Int), (false, ((0 : Int), ((0 : Int), ())))))))).2.2.2.2.2.1, (IntKind.wrap .i64 ((IntKind.wrap .i64 ((IntKind.wrap .i64 ((IntKind.wrap .i64 ((IntKind.wrap .i64 ((IntKind.wrap .i64 ((IntKind.wrap .i64 (x0 + (1 : Int))) + (1 : Int))) + (1 : Int))) + (1 : Int))) + (1 : Int))) + (1 : Int))) + (1 : Int))), (List.getD s6 (Int.toNat x1) (((0 : Int), ((0 : Int), ())), ((0 : Int), ((0 : Int), ((0 : Int), (false, ((0 : Int), ((0 : Int), ())))))))).2.2.2.2.2.2.2)) fun s7 =>
                      laws_markRuleS.l2 k c0 n (IntKind.wrap .i64 ((IntKind.wrap .i64 ((IntKind.wrap .i64 ((IntKind.wrap .i64 ((IntKind.wrap .i64 ((IntKind.wrap .i64 ((IntKind.wrap .i64 ((IntKind.wrap .i64 (x0 + (1 : Int))) + (1 : Int))) + (1 : Int))) + (1 : Int))) + (1 : Int))) + (1 : Int))) + (1 : Int))) + (1 : Int))) (IntKind.wrap .i64 (x1 + (1 : Int))) s7)
                    else none)
                  else none)
                else none)
              else none)
            else none)
          else none)
        else none)
      else none)
    else c0 (x0, x2, ())
def laws_markRuleS.F (k : Nat) (x : ((List ((Int × (Int × Unit)) × (Int × (Int × (Int × (Bool × (Int × (Int × Unit)))))))) × (Int × Unit))) : Option ((Int × Unit) × ((List ((Int × (Int × Unit)) × (Int × (Int × (Int × (Bool × (Int × (Int × Unit)))))))) × Unit)) :=
  laws_markRuleS.l2 k (fun e8 =>
    some ((e8.1, ()), e8.2)) k x.2.1 (0 : Int) x.1
def laws_markRuleS.hd : Hints := ⟨[(2, ⟨[0, 1, 5], []⟩)], [(0, [1]), (1, [0, 1, 5])], [4], [0, 1, 5], []⟩
def laws_markRuleS.lps (k : Nat) : List (Nat × Lp laws_markRuleS.sg.Out) := [(2, ⟨[.i, .i, .l kRule], fun x => (fun x0 x1 x2 => ⟨[(0, .v false [.arr 0]), (1, .v false [.int .i64 x0]), (5, .v false [.int .i64 x1])], [(0, .arr kRule true false x2)], [.arr 0]⟩) x.1 x.2.1 x.2.2.1, fun C n x => laws_markRuleS.l2 k (fun y => C (.exit 0) ((fun y0 y1 => ⟨[(1, .v false [.int .i64 y0])], [(0, .arr kRule true false y1)], [.arr 0]⟩) y.1 y.2.1)) n x.1 x.2.1 x.2.2.1⟩)]
theorem laws_markRuleS.loops (k : Nat) : LoopsOk laws_markRuleS.E k laws_markRuleS.hd (laws_markRuleS.lps k) (loopsOf (Go.Proofs.Try.f69.body.getD .skip)) := ⟨⟨fun _ _ => rfl, fun _ _ _ => by kernel_rfl, fun _ => ⟨rfl, rfl⟩⟩, trivial⟩
theorem laws_markRuleS.den (k : Nat) (x : Sig.In laws_markRuleS.sg.ps) : denFn laws_markRuleS.E k Go.Proofs.Try.f69 laws_markRuleS.sg laws_markRuleS.hd (runL k laws_markRuleS.hd (laws_markRuleS.lps k)) x = laws_markRuleS.F k x := by kernel_rfl
theorem laws_markRuleS.ok (k : Nat) : Contract Try.prog 69 laws_markRuleS.sg (laws_markRuleS.F k) := ok_of (E := laws_markRuleS.E) (tysOk _ _) (eqsOk _) trivial Try.func69 rfl (by kernel_rfl) (laws_markRuleS.loops k) (laws_markRuleS.den k)
def laws_markSettings.sg : Sig := ⟨[.m kSettings, .b (.int .i64)], [((.int .i64), .rd)]⟩
def laws_markSettings.E : Env := ⟨tys, bys, [(69, ⟨laws_markRuleS.sg, laws_markRuleS.F⟩)], eqs⟩
def laws_markSettings.F (k : Nat) (x : (((Int × (Int × (Int × Unit))) × (Int × ((List ((Int × (Int × Unit)) × (Int × (Int × (Int × (Bool × (Int × (Int × Unit)))))))) × ((List ((Int × (Int × Unit)) × (Int × (Int × (Int × (Bool × (Int × (Int × Unit)))))))) × Unit)))) × (Int × Unit))) : Option ((Int × Unit) × (((Int × (Int × (Int × Unit))) × (Int × ((List ((Int × (Int × Unit)) × (Int × (Int × (Int × (Bool × (Int × (Int × Unit)))))))) × ((List ((Int × (Int × Unit)) × (Int × (Int × (Int × (Bool × (Int × (Int × Unit)))))))) × Unit)))) × Unit)) :=
  (laws_markRuleS.F k (x.1.2.2.1, x.2)).bind fun y0 =>
  (laws_markRuleS.F k (x.1.2.2.2.1, y0.1)).bind fun y1 =>
  some (y1.1, (x.1.1, x.1.2.1, y0.2.1, y1.2), ())
def laws_markSettings.hd : Hints := ⟨[], [], [4], [0, 1, 2], []⟩
def laws_markSettings.lps (k : Nat) : List (Nat × Lp laws_markSettings.sg.Out) := []
theorem laws_markSettings.loops (k : Nat) : LoopsOk laws_markSettings.E k laws_markSettings.hd (laws_markSettings.lps k) (loopsOf (Go.Proofs.Try.f59.body.getD .skip)) := trivial
theorem laws_markSettings.den (k : Nat) (x : Sig.In laws_markSettings.sg.ps) : denFn laws_markSettings.E k Go.Proofs.Try.f59 laws_markSettings.sg laws_markSettings.hd (runL k laws_markSettings.hd (laws_markSettings.lps k)) x = laws_markSettings.F k x := by kernel_rfl
theorem laws_markSettings.ok (k : Nat) : Contract Try.prog 59 laws_markSettings.sg (laws_markSettings.F k) := ok_of (E := laws_markSettings.E) (tysOk _ _) (eqsOk _) ⟨laws_markRuleS.ok k, trivial⟩ Try.func59 rfl (by kernel_rfl) (laws_markSettings.loops k) (laws_markSettings.den k)
def laws_markNodeS.sg : Sig := ⟨[.m (.sl kNode), .b (.int .i64)], [((.int .i64), .rd)]⟩
def laws_markNodeS.E : Env := ⟨tys, bys, [(133, ⟨laws_markEntryS.sg, laws_markEntryS.F⟩)], eqs⟩
def laws_markNodeS.l2 {ρ : Type} (k : Nat) (c0 : (Int × (List (Int × (Bool × (Int × (Int × ((List (Int × ((Int × (Int × ((List Int) × Unit))) × Unit))) × (Int × (Int × (Int × (Int × Unit))))))))) × Unit)) → Option ρ) : Nat → Int → Int → List (Int × (Bool × (Int × (Int × ((List (Int × ((Int × (Int × ((List Int) × Unit))) × Unit))) × (Int × (Int × (Int × (Int × Unit))))))))) → Option ρ
  | 0 => fun _ _ _ => none
  | n + 1 => fun x0 x1 x2 => 
    bif (decide ((x1 < (((List.length x2) : Nat) : Int)))) then
    (bif (Go.Dn.inB x1 (((List.length x2) : Nat) : Int)) then
      (Go.Dn.share (List.set x2 (Int.toNat x1) (x0, (List.getD x2 (Int.toNat x1) ((0 : Int), (false, ((0 : Int), ((0 : Int), (([] : List (Int × ((Int × (Int × ((List Int) × Unit))) × Unit))), ((0 : Int), ((0 : Int), ((0 : Int), ((0 : Int), ())))))))))).2)) fun s0 =>
        bif (Go.Dn.inB x1 (((List.length s0) : Nat) : Int)) then
        (Go.Dn.share (List.set s0 (Int.toNat x1) ((List.getD s0 (Int.toNat x1) ((0 : Int), (false, ((0 : Int), ((0 : Int), (([] : List (Int × ((Int × (Int × ((List Int) × Unit))) × Unit))), ((0 : Int), ((0 : Int), ((0 : Int), ((0 : Int), ())))))))))).1, ((Int.tmod (IntKind.wrap .i64 (x0 + (1 : Int))) (3 : Int)) == (0 : Int)), (List.getD s0 (Int.toNat x1) ((0 : Int), (false, ((0 : Int), ((0 : Int), (([] : List (Int × ((Int × (Int × ((List Int) × Unit))) × Unit))), ((0 : Int), ((0 : Int), ((0 : Int), ((0 : Int), ())))))))))).2.2)) fun s1 =>
          bif (Go.Dn.inB x1 (((List.length s1) : Nat) : Int)) then
          (Go.Dn.share (List.set s1 (Int.toNat x1) ((List.getD s1 (Int.toNat x1) ((0 : Int), (false, ((0 : Int), ((0 : Int), (([] : List (Int × ((Int × (Int × ((List Int) × Unit))) × Unit))), ((0 : Int), ((0 : Int), ((0 : Int), ((0 : Int), ())))))))))).1, (List.getD s1 (Int.toNat x1) ((0 : Int), (false, ((0 : Int), ((0 : Int), (([] : List (Int × ((Int × (Int × ((List Int) × Unit))) × Unit))), ((0 : Int), ((0 : Int), ((0 : Int), ((0 : Int), ())))))))))).2.1, (IntKind.wrap .i64 ((IntKind.wrap .i64 (x0 + (1 : Int))) + (1 : Int))), (List.getD s1 (Int.toNat x1) ((0 : Int), (false, ((0 : Int), ((0 : Int), (([] : List (Int × ((Int × (Int × ((List Int) × Unit))) × Unit))), ((0 : Int), ((0 : Int), ((0 : Int), ((0 : Int), ())))))))))).2.2.2)) fun s2 =>
            bif (Go.Dn.inB x1 (((List.length s2) : Nat) : Int)) then
            (Go.Dn.share (List.set s2 (Int.toNat x1) ((List.getD s2 (Int.toNat x1) ((0 : Int), (false, ((0 : Int), ((0 : Int), (([] : List (Int × ((Int × (Int × ((List Int) × Unit))) × Unit))), ((0 : Int), ((0 : Int), ((0 : Int), ((0 : Int), ())))))))))).1, (List.getD s2 (Int.toNat x1) ((0 : Int), (false, ((0 : Int), ((0 : Int), (([] : List (Int × ((Int × (Int × ((List Int) × Unit))) × Unit))), ((0 : Int), ((0 : Int), ((0 : Int), ((0 : Int), ())))))))))).2.1, (List.getD s2 (Int.toNat x1) ((0 : Int), (false, ((0 : Int), ((0 : Int), (([] : List (Int × ((Int × (Int × ((List Int) × Unit))) × Unit))), ((0 : Int), ((0 : Int), ((0 : Int), ((0 : Int), ())))))))))).2.2.1, (IntKind.wrap .i64 ((IntKind.wrap .i64 ((IntKind.wrap .i64 (x0 + (1 : Int))) + (1 : Int))) + (1 : Int))), (List.getD s2 (Int.toNat x1) ((0 : Int), (false, ((0 : Int), ((0 : Int), (([] : List (Int × ((Int × (Int × ((List Int) × Unit))) × Unit))), ((0 : Int), ((0 : Int), ((0 : Int), ((0 : Int), ())))))))))).2.2.2.2)) fun s3 =>
              bif (Go.Dn.inB x1 (((List.length s3) : Nat) : Int)) then
              ((laws_markEntryS.F k ((List.getD s3 (Int.toNat x1) ((0 : Int), (false, ((0 : Int), ((0 : Int), (([] : List (Int × ((Int × (Int × ((List Int) × Unit))) × Unit))), ((0 : Int), ((0 : Int), ((0 : Int), ((0 : Int), ())))))))))).2.2.2.2.1, (IntKind.wrap .i64 ((IntKind.wrap .i64 ((IntKind.wrap .i64 ((IntKind.wrap .i64 (x0 + (1 : Int))) + (1 : Int))) + (1 : Int))) + (1 : Int))), ())).bind fun y4 =>
                Go.Dn.share (List.set s3 (Int.toNat x1) ((List.getD s3 (Int.toNat x1) ((0 : Int), (false, ((0 : Int), ((0 : Int), (([] : List (Int × ((Int × (Int × ((List Int) × Unit))) × Unit))), ((0 : Int), ((0 : Int), ((0 : Int), ((0 : Int), ())))))))))).1, (List.getD s3 (Int.toNat x1) ((0 : Int), (false, ((0 : Int), ((0 : Int), (([] : List (Int × ((Int × (Int × ((List Int) × Unit))) × Unit))), ((0 : Int), ((0 : Int), ((0 : Int), ((0 : Int), ())))))))))).2.1, (List.getD s3 (Int.toNat x1) ((0 : Int), (false, ((0 : Int), ((0 : Int), (([] : List (Int × ((Int × (Int × ((List Int) × Unit))) × Unit))), ((0 : Int), ((0 : Int), ((0 : Int), ((0 : Int), ())))))))))).2.2.1, (List.getD s3 (Int.toNat x1) ((0 : Int), (false, ((0 : Int), ((0 : Int), (([] : List (Int × ((Int × (Int × ((List Int) × Unit))) × Unit))), ((0 : Int), ((0 : Int), ((0 : Int), ((0 : Int), ())))))))))).2.2.2.1, y4.2.1, (List.getD s3 (Int.toNat x1) ((0 : Int), (false, ((0 : Int), ((0 : Int), (([] : List (Int × ((Int × (Int × ((List Int) × Unit))) × Unit))), ((0 : Int), ((0 : Int), ((0 : Int), ((0 : Int), ())))))))))).2.2.2.2.2)) fun s5 =>
                bif (Go.Dn.inB x1 (((List.length s5) : Nat) : Int)) then
                (Go.Dn.share (List.set s5 (Int.toNat x1) ((List.getD s5 (Int.toNat x1) ((0 : Int), (false, ((0 : Int), ((0 : Int), (([] : List (Int × ((Int × (Int × ((List Int) × Unit))) × Unit))), ((0 : Int), ((0 : Int), ((0 : Int), ((0 : Int), ())))))))))).1, (List.getD s5 (Int.toNat x1) ((0 : Int), (false, ((0 : Int), ((0 : Int), (([] : List (Int × ((Int × (Int × ((List Int) × Unit))) × Unit))), ((0 : Int), ((0 : Int), ((0 : Int), ((0 : Int), ())))))))))).2.1, (List.getD s5 (Int.toNat x1) ((0 : Int), (false, ((0 : Int), ((0 : Int), (([] : List (Int × ((Int × (Int × ((List Int) × Unit))) × Unit))), ((0 : Int), ((0 : Int), ((0 : Int), ((0 : Int), ())))))))))).2.2.1, (List.getD s5 (Int.toNat x1) ((0 : Int), (false, ((0 : Int), ((0 : Int), (([] : List (Int × ((Int × (Int × ((List Int) × Unit))) × Unit))), ((0 : Int), ((0 : Int), ((0 : Int), ((0 : Int), ())))))))))).2.2.2.1, (List.getD s5 (Int.toNat x1) ((0 : Int), (false, ((0 : Int), ((0 : Int), (([] : List (Int × ((Int × (Int × ((List Int) × Unit))) × Unit))), ((0 : Int), ((0 : Int), ((0 : Int), ((0 : Int), ())))))))))).2.2.2.2.1, y4.1.1, (List.getD s5 (Int.toNat x1) ((0 : Int), (false, ((0 : Int), ((0 : Int), (([] : List (Int × ((Int × (Int × ((List Int) × Unit))) × Unit))), ((0 : Int), ((0 : Int), ((0 : Int), ((0 : Int), ())))))))))).2.2.2.2.2.2)) fun s6 =>
                  bif (Go.Dn.inB x1 (((List.length s6) : Nat) : Int)) then
                  (Go.Dn.share (List.set s6 (Int.toNat x1) ((List.getD s6 (Int.toNat x1) ((0 : Int), (false, ((0 : Int), ((0 : Int), (([] : List (Int × ((Int × (Int × ((List Int) × Unit))) × Unit))), ((0 : Int), ((0 : Int), ((0 : Int), ((0 : Int), ())))))))))).1, (List.getD s6 (Int.toNat x1) ((0 : Int), (false, ((0 : Int), ((0 : Int), (([] : List (Int × ((Int × (Int × ((List Int) × Unit))) × Unit))), ((0 : Int), ((0 : Int), ((0 : Int), ((0 : Int), ())))))))))).2.1, (List.getD s6 (Int.toNat x1) ((0 : Int), (false, ((0 : Int), ((0 : Int), (([] : List (Int × ((Int × (Int × ((List Int) × Unit))) × Unit))), ((0 : Int), ((0 : Int), ((0 : Int), ((0 : Int), ())))))))))).2.2.1, (List.getD s6 (Int.toNat x1) ((0 : Int), (false, ((0 : Int), ((0 : Int), (([] : List (Int × ((Int × (Int × ((List Int) × Unit))) × Unit))), ((0 : Int), ((0 : Int), ((0 : Int), ((0 : Int), ())))))))))).2.2.2.1, (List.getD s6 (Int.toNat x1) ((0 : Int), (false, ((0 : Int), ((0 : Int), (([] : List (Int × ((Int × (Int × ((List Int) × Unit))) × Unit))), ((0 : Int), ((0 : Int), ((0 : Int), ((0 : Int), ())))))))))).2.2.2.2.1, (List.getD s6 (Int.toNat x1) ((0 : Int), (false, ((0 : Int), ((0 : Int), (([] : List (Int × ((Int × (Int × ((List Int) × Unit))) × Unit))), ((0 : Int), ((0 : Int), ((0 : Int), ((0 : Int), ())))))))))).2.2.2.2.2.1, (IntKind.wrap .i64 (y4.1.1 + (1 : Int))), (List.getD s6 (Int.toNat x1) ((0 : Int), (false, ((0 : Int), ((0 : Int), (([] : List (Int × ((Int × (Int × ((List Int) × Unit))) × Unit))), ((0 : Int), ((0 : Int), ((0 : Int), ((0 : Int), ())))))))))).2.2.2.2.2.2.2)) fun s7 =>
                    bif (Go.Dn.inB x1 (((List.length s7) : Nat) : Int)) then
                    (Go.Dn.share (List.set s7 (Int.toNat x1) ((List.getD s7 (Int.toNat x1) ((0 : Int), (false, ((0 : Int), ((0 : Int), (([] : List (Int × ((Int × (Int × ((List Int) × Unit))) × Unit))), ((0 : Int), ((0 : Int), ((0 : Int), ((0 : Int), ())))))))))).1, (List.getD s7 (Int.toNat x1) ((0 : Int), (false, ((0 : Int), ((0 : Int), (([] : List (Int × ((Int × (Int × ((List Int) × Unit))) × Unit))), ((0 : Int), ((0 : Int), ((0 : Int), ((0 : Int), ())))))))))).2.1, (List.getD s7 (Int.toNat x1) ((0 : Int), (false, ((0 : Int), ((0 : Int), (([] : List (Int × ((Int × (Int × ((List Int) × Unit))) × Unit))), ((0 : Int), ((0 : Int), ((0 : Int), ((0 : Int), ())))))))))).2.2.1, (List.getD s7 (Int.toNat x1) ((0 : Int), (false, ((0 : Int), ((0 : Int), (([] : List (Int × ((Int × (Int × ((List Int) × Unit))) × Unit))), ((0 : Int), ((0 : Int), ((0 : Int), ((0 : Int), ())))))))))).2.2.2.1, (List.getD s7 (Int.toNat x1) ((0 : Int), (false, ((0 : Int), ((0 : Int), (([] : List (Int × ((Int × (Int × ((List Int) × Unit))) × Unit))), ((0 : Int), ((0 : Int), ((0 : Int), ((0 : Int), ())))))))))).2.2.2.2.1, (List.getD s7 (Int.toNat x1) ((0 : Int), (false, ((0 : Int), ((0 : Int), (([] : List (Int × ((Int × (Int × ((List Int) × Unit))) × Unit))), ((0 : Int), ((0 : Int), ((0 : Int), ((0 : Int), ())))))))))).2.2.2.2.2.1, (List.getD s7 (Int.toNat x1) ((0 : Int), (false, ((0 : Int), ((0 : Int), (([] : List (Int × ((Int × (Int × ((List Int) × Unit))) × Unit))), ((0 : Int), ((0 : Int), ((0 : Int), ((0 : Int), ())))))))))).2.2.2.2.2.2.1, (IntKind.wrap .i64 ((IntKind.wrap .i64 (y4.1.1 + (1 : Int))) + (1 : Int))), (List.getD s7 (Int.toNat x1) ((0 : Int), (false, ((0 : Int), ((0 : Int), (([] : List (Int × ((Int × (Int × ((List Int) × Unit))) × Unit))), ((0 : Int), ((0 : Int), ((0 : Int), ((0 : Int), ())))))))))).2.2.2.2.2.2.2.2)) fun s8 =>
                      bif (Go.Dn.inB x1 (((List.length s8) : Nat) : Int)) then
                      (Go.Dn.share (List.set s8 (Int.toNat x1) ((List.getD s8 (Int.toNat x1) ((0 : Int), (false, ((0 : Int), ((0 : Int), (([] : List (Int × ((Int × (Int × ((List Int) × Unit))) × Unit))), ((0 : Int), ((0 : Int), ((0 : Int), ((0 : Int), ())))))))))).1, (List.getD s8 (Int.toNat x1) ((0 : Int), (false, ((0 : Int), ((0 : Int), (([] : List (Int × ((Int × (Int × ((List Int) × Unit))) × Unit))), ((0 : Int), ((0 : Int), ((0 : Int), ((0 : Int), ())))))))))).2.1, (List.getD s8 (Int.toNat x1) ((0 : Int), (false, ((0 : Int), ((0 : Int), (([] : List (Int × ((Int × (Int × ((List Int) × Unit))) × Unit))), ((0 : Int), ((0 : Int), ((0 : Int), ((0 : Int), ())))))))))).2.2.1, (List.getD s8 (Int.toNat x1) ((0 : Int), (false, ((0 : Int), ((0 : Int), (([] : List (Int × ((Int × (Int × ((List Int) × Unit))) × Unit))), ((0 : Int), ((0 : Int), ((0 : Int), ((0 : Int), ())))))))))).2.2.2.1, (List.getD s8 (Int.toNat x1) ((0 : Int), (false, ((0 : Int), ((0 : Int), (([] : List (Int × ((Int × (Int × ((List Int) × Unit))) × Unit))), ((0 : Int), ((0 : Int), ((0 : Int), ((0 : Int), ())))))))))).2.2.2.2.1, (List.getD s8 (Int.toNat x1) ((0 : Int), (false, ((0 : Int), ((0 : Int), (([] : List (Int × ((Int × (Int × ((List Int) × Unit))) × Unit))), ((0 : Int), ((0 : Int), ((0 : Int), ((0 : Int), ())))))))))).2.2.2.2.2.1, (List.getD s8 (Int.toNat x1) ((0 : Int), (false, ((0 : Int), ((0 : Int), (([] : List (Int × ((Int × (Int × ((List Int) × Unit))) × Unit))), ((0 : Int), ((0 : Int), ((0 : Int), ((0 : Int), ())))))))))).2.2.2.2.2.2.1, (List.getD s8 (Int.toNat x1) ((0 : Int), (false, ((0 : Int), ((0 : Int), (([] : List (Int × ((Int × (Int × ((List Int) × Unit))) × Unit))), ((0 : Int), ((0 : Int), ((0 : Int), ((0 : Int), ())))))))))).2.2.2.2.2.2.2.1, (IntKind.wrap .i64 ((IntKind.wrap .i64 ((IntKind.wrap .i64 (y4.1.1 + (1 : Int))) + (1 : Int))) + (1 : Int))), (List.getD s8 (Int.toNat x1) ((0 : Int), (false, ((0 : Int), ((0 : Int), (([] : List (Int × ((Int × (Int × ((List Int) × Unit))) × Unit))), ((0 : Int), ((0 : Int), ((0 : Int), ((0 : Int), ())))))))))).2.2.2.2.2.2.2.2.2)) fun s9 =>
                        laws_markNodeS.l2 k c0 n (IntKind.wrap .i64 ((IntKind.wrap .i64 ((IntKind.wrap .i64 ((IntKind.wrap .i64 (y4.1.1 + (1 : Int))) + (1 : Int))) + (1 : Int))) + (1 : Int))) (IntKind.wrap .i64 (x1 + (1 : Int))) s9)
                      else none)
                    else none)
                  else none)
                else none)
              else none)
            else none)
          else none)
        else none)
      else none)
    else c0 (x0, x2, ())
def laws_markNodeS.F (k : Nat) (x : ((List (Int × (Bool × (Int × (Int × ((List (Int × ((Int × (Int × ((List Int) × Unit))) × Unit))) × (Int × (Int × (Int × (Int × Unit)))))))))) × (Int × Unit))) : Option ((Int × Unit) × ((List (Int × (Bool × (Int × (Int × ((List (Int × ((Int × (Int × ((List Int) × Unit))) × Unit))) × (Int × (Int × (Int × (Int × Unit)))))))))) × Unit)) :=
  laws_markNodeS.l2 k (fun e10 =>
    some ((e10.1, ()), e10.2)) k x.2.1 (0 : Int) x.1
def laws_markNodeS.hd : Hints := ⟨[(2, ⟨[0, 1, 5], []⟩)], [(0, [1]), (1, [0, 1, 5])], [4], [0, 1, 5], []⟩
def laws_markNodeS.lps (k : Nat) : List (Nat × Lp laws_markNodeS.sg.Out) := [(2, ⟨[.i, .i, .l kNode], fun x => (fun x0 x1 x2 => ⟨[(0, .v false [.arr 0]), (1, .v false [.int .i64 x0]), (5, .v false [.int .i64 x1])], [(0, .arr kNode true false x2)], [.arr 0]⟩) x.1 x.2.1 x.2.2.1, fun C n x => laws_markNodeS.l2 k (fun y => C (.exit 0) ((fun y0 y1 => ⟨[(1, .v false [.int .i64 y0])], [(0, .arr kNode true false y1)], [.arr 0]⟩) y.1 y.2.1)) n x.1 x.2.1 x.2.2.1⟩)]
theorem laws_markNodeS.loops (k : Nat) : LoopsOk laws_markNodeS.E k laws_markNodeS.hd (laws_markNodeS.lps k) (loopsOf (Go.Proofs.Try.f255.body.getD .skip)) := ⟨⟨fun _ _ => rfl, fun _ _ _ => by kernel_rfl, fun _ => ⟨rfl, rfl⟩⟩, trivial⟩
theorem laws_markNodeS.den (k : Nat) (x : Sig.In laws_markNodeS.sg.ps) : denFn laws_markNodeS.E k Go.Proofs.Try.f255 laws_markNodeS.sg laws_markNodeS.hd (runL k laws_markNodeS.hd (laws_markNodeS.lps k)) x = laws_markNodeS.F k x := by kernel_rfl
theorem laws_markNodeS.ok (k : Nat) : Contract Try.prog 255 laws_markNodeS.sg (laws_markNodeS.F k) := ok_of (E := laws_markNodeS.E) (tysOk _ _) (eqsOk _) ⟨laws_markEntryS.ok k, trivial⟩ Try.func255 rfl (by kernel_rfl) (laws_markNodeS.loops k) (laws_markNodeS.den k)
def laws_markWireS.sg : Sig := ⟨[.m (.sl kWire), .b (.int .i64)], [((.int .i64), .rd)]⟩
def laws_markWireS.E : Env := ⟨tys, bys, [(158, ⟨laws_markByteS.sg, laws_markByteS.F⟩)], eqs⟩
def laws_markWireS.l2 {ρ : Type} (k : Nat) (c0 : (Int × (List (Int × ((List Int) × (Int × ((List Int) × Unit)))) × Unit)) → Option ρ) : Nat → Int → Int → List (Int × ((List Int) × (Int × ((List Int) × Unit)))) → Option ρ
  | 0 => fun _ _ _ => none
  | n + 1 => fun x0 x1 x2 => 
    bif (decide ((x1 < (((List.length x2) : Nat) : Int)))) then
    (bif (Go.Dn.inB x1 (((List.length x2) : Nat) : Int)) then
      (Go.Dn.share (List.set x2 (Int.toNat x1) (x0, (List.getD x2 (Int.toNat x1) ((0 : Int), (([] : List Int), ((0 : Int), (([] : List Int), ()))))).2)) fun s0 =>
        bif (Go.Dn.inB x1 (((List.length s0) : Nat) : Int)) then
        ((laws_markByteS.F k ((List.getD s0 (Int.toNat x1) ((0 : Int), (([] : List Int), ((0 : Int), (([] : List Int), ()))))).2.1, (IntKind.wrap .i64 (x0 + (1 : Int))), ())).bind fun y1 =>
          Go.Dn.share (List.set s0 (Int.toNat x1) ((List.getD s0 (Int.toNat x1) ((0 : Int), (([] : List Int), ((0 : Int), (([] : List Int), ()))))).1, y1.2.1, (List.getD s0 (Int.toNat x1) ((0 : Int), (([] : List Int), ((0 : Int), (([] : List Int), ()))))).2.2)) fun s2 =>
          bif (Go.Dn.inB x1 (((List.length s2) : Nat) : Int)) then
          (Go.Dn.share (List.set s2 (Int.toNat x1) ((List.getD s2 (Int.toNat x1) ((0 : Int), (([] : List Int), ((0 : Int), (([] : List Int), ()))))).1, (List.getD s2 (Int.toNat x1) ((0 : Int), (([] : List Int), ((0 : Int), (([] : List Int), ()))))).2.1, y1.1.1, (List.getD s2 (Int.toNat x1) ((0 : Int), (([] : List Int), ((0 : Int), (([] : List Int), ()))))).2.2.2)) fun s3 =>
            bif (Go.Dn.inB x1 (((List.length s3) : Nat) : Int)) then
            ((laws_markByteS.F k ((List.getD s3 (Int.toNat x1) ((0 : Int), (([] : List Int), ((0 : Int), (([] : List Int), ()))))).2.2.2.1, (IntKind.wrap .i64 (y1.1.1 + (1 : Int))), ())).bind fun y4 =>
              Go.Dn.share (List.set s3 (Int.toNat x1) ((List.getD s3 (Int.toNat x1) ((0 : Int), (([] : List Int), ((0 : Int), (([] : List Int), ()))))).1, (List.getD s3 (Int.toNat x1) ((0 : Int), (([] : List Int), ((0 : Int), (([] : List Int), ()))))).2.1, (List.getD s3 (Int.toNat x1) ((0 : Int), (([] : List Int), ((0 : Int), (([] : List Int), ()))))).2.2.1, y4.2.1, (List.getD s3 (Int.toNat x1) ((0 : Int), (([] : List Int), ((0 : Int), (([] : List Int), ()))))).2.2.2.2)) fun s5 =>
              laws_markWireS.l2 k c0 n y4.1.1 (IntKind.wrap .i64 (x1 + (1 : Int))) s5)
            else none)
          else none)
        else none)
      else none)
    else c0 (x0, x2, ())
def laws_markWireS.F (k : Nat) (x : ((List (Int × ((List Int) × (Int × ((List Int) × Unit))))) × (Int × Unit))) : Option ((Int × Unit) × ((List (Int × ((List Int) × (Int × ((List Int) × Unit))))) × Unit)) :=
  laws_markWireS.l2 k (fun e6 =>
    some ((e6.1, ()), e6.2)) k x.2.1 (0 : Int) x.1
def laws_markWireS.hd : Hints := ⟨[(2, ⟨[0, 1, 5], []⟩)], [(0, [1]), (1, [0, 1, 5])], [4], [0, 1, 5], []⟩
def laws_markWireS.lps (k : Nat) : List (Nat × Lp laws_markWireS.sg.Out) := [(2, ⟨[.i, .i, .l kWire], fun x => (fun x0 x1 x2 => ⟨[(0, .v false [.arr 0]), (1, .v false [.int .i64 x0]), (5, .v false [.int .i64 x1])], [(0, .arr kWire true false x2)], [.arr 0]⟩) x.1 x.2.1 x.2.2.1, fun C n x => laws_markWireS.l2 k (fun y => C (.exit 0) ((fun y0 y1 => ⟨[(1, .v false [.int .i64 y0])], [(0, .arr kWire true false y1)], [.arr 0]⟩) y.1 y.2.1)) n x.1 x.2.1 x.2.2.1⟩)]
theorem laws_markWireS.loops (k : Nat) : LoopsOk laws_markWireS.E k laws_markWireS.hd (laws_markWireS.lps k) (loopsOf (Go.Proofs.Try.f256.body.getD .skip)) := ⟨⟨fun _ _ => rfl, fun _ _ _ => by kernel_rfl, fun _ => ⟨rfl, rfl⟩⟩, trivial⟩
theorem laws_markWireS.den (k : Nat) (x : Sig.In laws_markWireS.sg.ps) : denFn laws_markWireS.E k Go.Proofs.Try.f256 laws_markWireS.sg laws_markWireS.hd (runL k laws_markWireS.hd (laws_markWireS.lps k)) x = laws_markWireS.F k x := by kernel_rfl
theorem laws_markWireS.ok (k : Nat) : Contract Try.prog 256 laws_markWireS.sg (laws_markWireS.F k) := ok_of (E := laws_markWireS.E) (tysOk _ _) (eqsOk _) ⟨laws_markByteS.ok k, trivial⟩ Try.func256 rfl (by kernel_rfl) (laws_markWireS.loops k) (laws_markWireS.den k)
def laws_markPair.sg : Sig := ⟨[.m kPair, .b (.int .i64)], [((.int .i64), .rd)]⟩
def laws_markPair.E : Env := ⟨tys, bys, [(59, ⟨laws_markSettings.sg, laws_markSettings.F⟩), (133, ⟨laws_markEntryS.sg, laws_markEntryS.F⟩), (135, ⟨laws_markMailS.sg, laws_markMailS.F⟩), (255, ⟨laws_markNodeS.sg, laws_markNodeS.F⟩), (256, ⟨laws_markWireS.sg, laws_markWireS.F⟩)], eqs⟩
def laws_markPair.F (k : Nat) (x : ((((Int × (Int × (Int × Unit))) × (Int × ((List ((Int × (Int × Unit)) × (Int × (Int × (Int × (Bool × (Int × (Int × Unit)))))))) × ((List ((Int × (Int × Unit)) × (Int × (Int × (Int × (Bool × (Int × (Int × Unit)))))))) × Unit)))) × ((List (Int × (Bool × (Int × (Int × ((List (Int × ((Int × (Int × ((List Int) × Unit))) × Unit))) × (Int × (Int × (Int × (Int × Unit)))))))))) × ((List (Int × ((List Int) × (Int × ((List Int) × Unit))))) × ((List (Int × (Int × (Int × (Int × (Int × (Bool × ((Int × ((Int × (Int × ((List Int) × Unit))) × Unit)) × Unit)))))))) × ((List (Int × ((Int × (Int × ((List Int) × Unit))) × Unit))) × Unit))))) × (Int × Unit))) : Option ((Int × Unit) × ((((Int × (Int × (Int × Unit))) × (Int × ((List ((Int × (Int × Unit)) × (Int × (Int × (Int × (Bool × (Int × (Int × Unit)))))))) × ((List ((Int × (Int × Unit)) × (Int × (Int × (Int × (Bool × (Int × (Int × Unit)))))))) × Unit)))) × ((List (Int × (Bool × (Int × (Int × ((List (Int × ((Int × (Int × ((List Int) × Unit))) × Unit))) × (Int × (Int × (Int × (Int × Unit)))))))))) × ((List (Int × ((List Int) × (Int × ((List Int) × Unit))))) × ((List (Int × (Int × (Int × (Int × (Int × (Bool × ((Int × ((Int × (Int × ((List Int) × Unit))) × Unit)) × Unit)))))))) × ((List (Int × ((Int × (Int × ((List Int) × Unit))) × Unit))) × Unit))))) × Unit)) :=
  (laws_markSettings.F k (x.1.1, x.2)).bind fun y0 =>
  (laws_markNodeS.F k (x.1.2.1, y0.1)).bind fun y1 =>
  (laws_markWireS.F k (x.1.2.2.1, y1.1)).bind fun y2 =>
  (laws_markMailS.F k (x.1.2.2.2.1, y2.1)).bind fun y3 =>
  (laws_markEntryS.F k (x.1.2.2.2.2.1, y3.1)).bind fun y4 =>
  some (y4.1, ((x.1.1.1, x.1.1.2.1, y0.2.1.2.2), y1.2.1, y2.2.1, y3.2.1, y4.2), ())
def laws_markPair.hd : Hints := ⟨[], [], [4], [0, 1, 2], []⟩
def laws_markPair.lps (k : Nat) : List (Nat × Lp laws_markPair.sg.Out) := []
theorem laws_markPair.loops (k : Nat) : LoopsOk laws_markPair.E k laws_markPair.hd (laws_markPair.lps k) (loopsOf (Go.Proofs.Try.f159.body.getD .skip)) := trivial
theorem laws_markPair.den (k : Nat) (x : Sig.In laws_markPair.sg.ps) : denFn laws_markPair.E k Go.Proofs.Try.f159 laws_markPair.sg laws_markPair.hd (runL k laws_markPair.hd (laws_markPair.lps k)) x = laws_markPair.F k x := by kernel_rfl
theorem laws_markPair.ok (k : Nat) : Contract Try.prog 159 laws_markPair.sg (laws_markPair.F k) := ok_of (E := laws_markPair.E) (tysOk _ _) (eqsOk _) ⟨laws_markSettings.ok k, laws_markEntryS.ok k, laws_markMailS.ok k, laws_markNodeS.ok k, laws_markWireS.ok k, trivial⟩ Try.func159 rfl (by kernel_rfl) (laws_markPair.loops k) (laws_markPair.den k)
def laws_markPairResult.sg : Sig := ⟨[.m kPairResult, .b (.int .i64)], [((.int .i64), .rd)]⟩
def laws_markPairResult.E : Env := ⟨tys, bys, [(158, ⟨laws_markByteS.sg, laws_markByteS.F⟩), (159, ⟨laws_markPair.sg, laws_markPair.F⟩)], eqs⟩
def laws_markPairResult.F (k : Nat) (x : ((Int × ((List Int) × ((((Int × (Int × (Int × Unit))) × (Int × ((List ((Int × (Int × Unit)) × (Int × (Int × (Int × (Bool × (Int × (Int × Unit)))))))) × ((List ((Int × (Int × Unit)) × (Int × (Int × (Int × (Bool × (Int × (Int × Unit)))))))) × Unit)))) × ((List (Int × (Bool × (Int × (Int × ((List (Int × ((Int × (Int × ((List Int) × Unit))) × Unit))) × (Int × (Int × (Int × (Int × Unit)))))))))) × ((List (Int × ((List Int) × (Int × ((List Int) × Unit))))) × ((List (Int × (Int × (Int × (Int × (Int × (Bool × ((Int × ((Int × (Int × ((List Int) × Unit))) × Unit)) × Unit)))))))) × ((List (Int × ((Int × (Int × ((List Int) × Unit))) × Unit))) × Unit))))) × Unit))) × (Int × Unit))) : Option ((Int × Unit) × ((Int × ((List Int) × ((((Int × (Int × (Int × Unit))) × (Int × ((List ((Int × (Int × Unit)) × (Int × (Int × (Int × (Bool × (Int × (Int × Unit)))))))) × ((List ((Int × (Int × Unit)) × (Int × (Int × (Int × (Bool × (Int × (Int × Unit)))))))) × Unit)))) × ((List (Int × (Bool × (Int × (Int × ((List (Int × ((Int × (Int × ((List Int) × Unit))) × Unit))) × (Int × (Int × (Int × (Int × Unit)))))))))) × ((List (Int × ((List Int) × (Int × ((List Int) × Unit))))) × ((List (Int × (Int × (Int × (Int × (Int × (Bool × ((Int × ((Int × (Int × ((List Int) × Unit))) × Unit)) × Unit)))))))) × ((List (Int × ((Int × (Int × ((List Int) × Unit))) × Unit))) × Unit))))) × Unit))) × Unit)) :=
  (laws_markByteS.F k (x.1.2.1, x.2)).bind fun y0 =>
  (laws_markPair.F k (x.1.2.2.1, y0.1)).bind fun y1 =>
  some (y1.1, (x.1.1, y0.2.1, ((x.1.2.2.1.1.1, x.1.2.2.1.1.2.1, y1.2.1.1.2.2), y1.2.1.2), ()), ())
def laws_markPairResult.hd : Hints := ⟨[], [], [4], [0, 1, 2], []⟩
def laws_markPairResult.lps (k : Nat) : List (Nat × Lp laws_markPairResult.sg.Out) := []
theorem laws_markPairResult.loops (k : Nat) : LoopsOk laws_markPairResult.E k laws_markPairResult.hd (laws_markPairResult.lps k) (loopsOf (Go.Proofs.Try.f60.body.getD .skip)) := trivial
theorem laws_markPairResult.den (k : Nat) (x : Sig.In laws_markPairResult.sg.ps) : denFn laws_markPairResult.E k Go.Proofs.Try.f60 laws_markPairResult.sg laws_markPairResult.hd (runL k laws_markPairResult.hd (laws_markPairResult.lps k)) x = laws_markPairResult.F k x := by kernel_rfl
theorem laws_markPairResult.ok (k : Nat) : Contract Try.prog 60 laws_markPairResult.sg (laws_markPairResult.F k) := ok_of (E := laws_markPairResult.E) (tysOk _ _) (eqsOk _) ⟨laws_markByteS.ok k, laws_markPair.ok k, trivial⟩ Try.func60 rfl (by kernel_rfl) (laws_markPairResult.loops k) (laws_markPairResult.den k)
def laws_heldRuleS.sg : Sig := ⟨[.b (.sl kRule), .b (.int .i64)], [((.int .i64), .rd)]⟩
def laws_heldRuleS.E : Env := ⟨tys, bys, [], eqs⟩
def laws_heldRuleS.l2 {ρ : Type} (k : Nat) (c0 : (Int × Unit) → Option ρ) (c1 : (Int × Unit) → Option ρ) : Nat → List ((Int × (Int × Unit)) × (Int × (Int × (Int × (Bool × (Int × (Int × Unit))))))) → Int → Int → Option ρ
  | 0 => fun _ _ _ => none
  | n + 1 => fun x0 x1 x2 => 
    bif (decide ((x2 < (((List.length x0) : Nat) : Int)))) then
    (bif (Go.Dn.inB x2 (((List.length x0) : Nat) : Int)) then
      (Go.Dn.share (List.getD x0 (Int.toNat x2) (((0 : Int), ((0 : Int), ())), ((0 : Int), ((0 : Int), ((0 : Int), (false, ((0 : Int), ((0 : Int), ())))))))) fun s0 =>
        bif (s0.1.1 != x1) then
        (c0 ((-(1 : Int)), ()))
        else bif (Go.Dn.inB x2 (((List.length x0) : Nat) : Int)) then
          (Go.Dn.share (List.getD x0 (Int.toNat x2) (((0 : Int), ((0 : Int), ())), ((0 : Int), ((0 : Int), ((0 : Int), (false, ((0 : Int), ((0 : Int), ())))))))) fun s1 =>
            bif (s1.1.2.1 != (IntKind.wrap .i64 (x1 + (1 : Int)))) then
            (c0 ((-(1 : Int)), ()))
            else bif (Go.Dn.inB x2 (((List.length x0) : Nat) : Int)) then
              (Go.Dn.share (List.getD x0 (Int.toNat x2) (((0 : Int), ((0 : Int), ())), ((0 : Int), ((0 : Int), ((0 : Int), (false, ((0 : Int), ((0 : Int), ())))))))) fun s2 =>
                bif (s2.2.1 != (IntKind.wrap .i64 ((IntKind.wrap .i64 (x1 + (1 : Int))) + (1 : Int)))) then
                (c0 ((-(1 : Int)), ()))
                else bif (Go.Dn.inB x2 (((List.length x0) : Nat) : Int)) then
                  (Go.Dn.share (List.getD x0 (Int.toNat x2) (((0 : Int), ((0 : Int), ())), ((0 : Int), ((0 : Int), ((0 : Int), (false, ((0 : Int), ((0 : Int), ())))))))) fun s3 =>
                    bif (s3.2.2.1 != (IntKind.wrap .i64 ((IntKind.wrap .i64 ((IntKind.wrap .i64 (x1 + (1 : Int))) + (1 : Int))) + (1 : Int)))) then
                    (c0 ((-(1 : Int)), ()))
                    else bif (Go.Dn.inB x2 (((List.length x0) : Nat) : Int)) then
                      (Go.Dn.share (List.getD x0 (Int.toNat x2) (((0 : Int), ((0 : Int), ())), ((0 : Int), ((0 : Int), ((0 : Int), (false, ((0 : Int), ((0 : Int), ())))))))) fun s4 =>
                        bif (s4.2.2.2.1 != (IntKind.wrap .i64 ((IntKind.wrap .i64 ((IntKind.wrap .i64 ((IntKind.wrap .i64 (x1 + (1 : Int))) + (1 : Int))) + (1 : Int))) + (1 : Int)))) then
                        (c0 ((-(1 : Int)), ()))
                        else bif (Go.Dn.inB x2 (((List.length x0) : Nat) : Int)) then
                          (Go.Dn.share (List.getD x0 (Int.toNat x2) (((0 : Int), ((0 : Int), ())), ((0 : Int), ((0 : Int), ((0 : Int), (false, ((0 : Int), ((0 : Int), ())))))))) fun s5 =>
                            bif (!(s5.2.2.2.2.1 == ((Int.tmod (IntKind.wrap .i64 ((IntKind.wrap .i64 ((IntKind.wrap .i64 ((IntKind.wrap .i64 ((IntKind.wrap .i64 (x1 + (1 : Int))) + (1 : Int))) + (1 : Int))) + (1 : Int))) + (1 : Int))) (3 : Int)) == (0 : Int)))) then
                            (c0 ((-(1 : Int)), ()))
                            else bif (Go.Dn.inB x2 (((List.length x0) : Nat) : Int)) then
                              (Go.Dn.share (List.getD x0 (Int.toNat x2) (((0 : Int), ((0 : Int), ())), ((0 : Int), ((0 : Int), ((0 : Int), (false, ((0 : Int), ((0 : Int), ())))))))) fun s6 =>
                                bif (s6.2.2.2.2.2.1 != (IntKind.wrap .i64 ((IntKind.wrap .i64 ((IntKind.wrap .i64 ((IntKind.wrap .i64 ((IntKind.wrap .i64 ((IntKind.wrap .i64 (x1 + (1 : Int))) + (1 : Int))) + (1 : Int))) + (1 : Int))) + (1 : Int))) + (1 : Int)))) then
                                (c0 ((-(1 : Int)), ()))
                                else bif (Go.Dn.inB x2 (((List.length x0) : Nat) : Int)) then
                                  (Go.Dn.share (List.getD x0 (Int.toNat x2) (((0 : Int), ((0 : Int), ())), ((0 : Int), ((0 : Int), ((0 : Int), (false, ((0 : Int), ((0 : Int), ())))))))) fun s7 =>
                                    bif (s7.2.2.2.2.2.2.1 != (IntKind.wrap .i64 ((IntKind.wrap .i64 ((IntKind.wrap .i64 ((IntKind.wrap .i64 ((IntKind.wrap .i64 ((IntKind.wrap .i64 ((IntKind.wrap .i64 (x1 + (1 : Int))) + (1 : Int))) + (1 : Int))) + (1 : Int))) + (1 : Int))) + (1 : Int))) + (1 : Int)))) then
                                    (c0 ((-(1 : Int)), ()))
                                    else laws_heldRuleS.l2 k c0 c1 n x0 (IntKind.wrap .i64 ((IntKind.wrap .i64 ((IntKind.wrap .i64 ((IntKind.wrap .i64 ((IntKind.wrap .i64 ((IntKind.wrap .i64 ((IntKind.wrap .i64 ((IntKind.wrap .i64 (x1 + (1 : Int))) + (1 : Int))) + (1 : Int))) + (1 : Int))) + (1 : Int))) + (1 : Int))) + (1 : Int))) + (1 : Int))) (IntKind.wrap .i64 (x2 + (1 : Int))))
                                  else none)
                              else none)
                          else none)
                      else none)
                  else none)
              else none)
          else none)
      else none)
    else c1 (x1, ())
def laws_heldRuleS.F (k : Nat) (x : ((List ((Int × (Int × Unit)) × (Int × (Int × (Int × (Bool × (Int × (Int × Unit)))))))) × (Int × Unit))) : Option ((Int × Unit) × Unit) :=
  laws_heldRuleS.l2 k (fun e8 =>
    some (e8, ())) (fun e9 =>
    some (e9, ())) k x.1 x.2.1 (0 : Int)
def laws_heldRuleS.hd : Hints := ⟨[(2, ⟨[0, 1, 5], []⟩)], [(0, [1]), (1, [0, 1, 5])], [4], [0, 1, 5], []⟩
def laws_heldRuleS.lps (k : Nat) : List (Nat × Lp laws_heldRuleS.sg.Out) := [(2, ⟨[.l kRule, .i, .i], fun x => (fun x0 x1 x2 => ⟨[(0, .v false [.fz kRule x0]), (1, .v false [.int .i64 x1]), (5, .v false [.int .i64 x2])], [], []⟩) x.1 x.2.1 x.2.2.1, fun C n x => laws_heldRuleS.l2 k (fun y => C .ret ((fun y0 => ⟨[(4, .v false [.int .i64 y0])], [], []⟩) y.1)) (fun y => C (.exit 0) ((fun y0 => ⟨[(1, .v false [.int .i64 y0])], [], []⟩) y.1)) n x.1 x.2.1 x.2.2.1⟩)]
theorem laws_heldRuleS.loops (k : Nat) : LoopsOk laws_heldRuleS.E k laws_heldRuleS.hd (laws_heldRuleS.lps k) (loopsOf (Go.Proofs.Try.f307.body.getD .skip)) := ⟨⟨fun _ _ => rfl, fun _ _ _ => by kernel_rfl, fun _ => ⟨rfl, rfl⟩⟩, trivial⟩
theorem laws_heldRuleS.den (k : Nat) (x : Sig.In laws_heldRuleS.sg.ps) : denFn laws_heldRuleS.E k Go.Proofs.Try.f307 laws_heldRuleS.sg laws_heldRuleS.hd (runL k laws_heldRuleS.hd (laws_heldRuleS.lps k)) x = laws_heldRuleS.F k x := by kernel_rfl
theorem laws_heldRuleS.ok (k : Nat) : Contract Try.prog 307 laws_heldRuleS.sg (laws_heldRuleS.F k) := ok_of (E := laws_heldRuleS.E) (tysOk _ _) (eqsOk _) trivial Try.func307 rfl (by kernel_rfl) (laws_heldRuleS.loops k) (laws_heldRuleS.den k)
def laws_heldSettings.sg : Sig := ⟨[.b kSettings, .b (.int .i64)], [((.int .i64), .rd)]⟩
def laws_heldSettings.E : Env := ⟨tys, bys, [(307, ⟨laws_heldRuleS.sg, laws_heldRuleS.F⟩)], eqs⟩
def laws_heldSettings.F (k : Nat) (x : (((Int × (Int × (Int × Unit))) × (Int × ((List ((Int × (Int × Unit)) × (Int × (Int × (Int × (Bool × (Int × (Int × Unit)))))))) × ((List ((Int × (Int × Unit)) × (Int × (Int × (Int × (Bool × (Int × (Int × Unit)))))))) × Unit)))) × (Int × Unit))) : Option ((Int × Unit) × Unit) :=
  (laws_heldRuleS.F k (x.1.2.2.1, x.2)).bind fun y0 =>
  bif (decide ((y0.1.1 < (0 : Int)))) then
  (some (((-(1 : Int)), ()), ()))
  else (laws_heldRuleS.F k (x.1.2.2.2.1, y0.1)).bind fun y1 =>
    bif (decide ((y1.1.1 < (0 : Int)))) then
    (some (((-(1 : Int)), ()), ()))
    else some y1
def laws_heldSettings.hd : Hints := ⟨[], [], [4], [0, 1, 2], []⟩
def laws_heldSettings.lps (k : Nat) : List (Nat × Lp laws_heldSettings.sg.Out) := []
theorem laws_heldSettings.loops (k : Nat) : LoopsOk laws_heldSettings.E k laws_heldSettings.hd (laws_heldSettings.lps k) (loopsOf (Go.Proofs.Try.f257.body.getD .skip)) := trivial
theorem laws_heldSettings.den (k : Nat) (x : Sig.In laws_heldSettings.sg.ps) : denFn laws_heldSettings.E k Go.Proofs.Try.f257 laws_heldSettings.sg laws_heldSettings.hd (runL k laws_heldSettings.hd (laws_heldSettings.lps k)) x = laws_heldSettings.F k x := by kernel_rfl
theorem laws_heldSettings.ok (k : Nat) : Contract Try.prog 257 laws_heldSettings.sg (laws_heldSettings.F k) := ok_of (E := laws_heldSettings.E) (tysOk _ _) (eqsOk _) ⟨laws_heldRuleS.ok k, trivial⟩ Try.func257 rfl (by kernel_rfl) (laws_heldSettings.loops k) (laws_heldSettings.den k)
def laws_heldNodeS.sg : Sig := ⟨[.b (.sl kNode), .b (.int .i64)], [((.int .i64), .rd)]⟩
def laws_heldNodeS.E : Env := ⟨tys, bys, [(241, ⟨laws_heldEntryS.sg, laws_heldEntryS.F⟩)], eqs⟩
def laws_heldNodeS.l2 {ρ : Type} (k : Nat) (c0 : (Int × Unit) → Option ρ) (c1 : (Int × Unit) → Option ρ) : Nat → List (Int × (Bool × (Int × (Int × ((List (Int × ((Int × (Int × ((List Int) × Unit))) × Unit))) × (Int × (Int × (Int × (Int × Unit))))))))) → Int → Int → Option ρ
  | 0 => fun _ _ _ => none
  | n + 1 => fun x0 x1 x2 => 
    bif (decide ((x2 < (((List.length x0) : Nat) : Int)))) then
    (bif (Go.Dn.inB x2 (((List.length x0) : Nat) : Int)) then
      (Go.Dn.share (List.getD x0 (Int.toNat x2) ((0 : Int), (false, ((0 : Int), ((0 : Int), (([] : List (Int × ((Int × (Int × ((List Int) × Unit))) × Unit))), ((0 : Int), ((0 : Int), ((0 : Int), ((0 : Int), ())))))))))) fun s0 =>
        bif (s0.1 != x1) then
        (c0 ((-(1 : Int)), ()))
        else bif (Go.Dn.inB x2 (((List.length x0) : Nat) : Int)) then
          (Go.Dn.share (List.getD x0 (Int.toNat x2) ((0 : Int), (false, ((0 : Int), ((0 : Int), (([] : List (Int × ((Int × (Int × ((List Int) × Unit))) × Unit))), ((0 : Int), ((0 : Int), ((0 : Int), ((0 : Int), ())))))))))) fun s1 =>
            bif (!(s1.2.1 == ((Int.tmod (IntKind.wrap .i64 (x1 + (1 : Int))) (3 : Int)) == (0 : Int)))) then
            (c0 ((-(1 : Int)), ()))
            else bif (Go.Dn.inB x2 (((List.length x0) : Nat) : Int)) then
              (Go.Dn.share (List.getD x0 (Int.toNat x2) ((0 : Int), (false, ((0 : Int), ((0 : Int), (([] : List (Int × ((Int × (Int × ((List Int) × Unit))) × Unit))), ((0 : Int), ((0 : Int), ((0 : Int), ((0 : Int), ())))))))))) fun s2 =>
                bif (s2.2.2.1 != (IntKind.wrap .i64 ((IntKind.wrap .i64 (x1 + (1 : Int))) + (1 : Int)))) then
                (c0 ((-(1 : Int)), ()))
                else bif (Go.Dn.inB x2 (((List.length x0) : Nat) : Int)) then
                  (Go.Dn.share (List.getD x0 (Int.toNat x2) ((0 : Int), (false, ((0 : Int), ((0 : Int), (([] : List (Int × ((Int × (Int × ((List Int) × Unit))) × Unit))), ((0 : Int), ((0 : Int), ((0 : Int), ((0 : Int), ())))))))))) fun s3 =>
                    bif (s3.2.2.2.1 != (IntKind.wrap .i64 ((IntKind.wrap .i64 ((IntKind.wrap .i64 (x1 + (1 : Int))) + (1 : Int))) + (1 : Int)))) then
                    (c0 ((-(1 : Int)), ()))
                    else bif (Go.Dn.inB x2 (((List.length x0) : Nat) : Int)) then
                      (Go.Dn.share (List.getD x0 (Int.toNat x2) ((0 : Int), (false, ((0 : Int), ((0 : Int), (([] : List (Int × ((Int × (Int × ((List Int) × Unit))) × Unit))), ((0 : Int), ((0 : Int), ((0 : Int), ((0 : Int), ())))))))))) fun s4 =>
                        (laws_heldEntryS.F k (s4.2.2.2.2.1, (IntKind.wrap .i64 ((IntKind.wrap .i64 ((IntKind.wrap .i64 ((IntKind.wrap .i64 (x1 + (1 : Int))) + (1 : Int))) + (1 : Int))) + (1 : Int))), ())).bind fun y5 =>
                        bif (decide ((y5.1.1 < (0 : Int)))) then
                        (c0 ((-(1 : Int)), ()))
                        else bif (Go.Dn.inB x2 (((List.length x0) : Nat) : Int)) then
                          (Go.Dn.share (List.getD x0 (Int.toNat x2) ((0 : Int), (false, ((0 : Int), ((0 : Int), (([] : List (Int × ((Int × (Int × ((List Int) × Unit))) × Unit))), ((0 : Int), ((0 : Int), ((0 : Int), ((0 : Int), ())))))))))) fun s6 =>
                            bif (s6.2.2.2.2.2.1 != y5.1.1) then
                            (c0 ((-(1 : Int)), ()))
                            else bif (Go.Dn.inB x2 (((List.length x0) : Nat) : Int)) then
                              (Go.Dn.share (List.getD x0 (Int.toNat x2) ((0 : Int), (false, ((0 : Int), ((0 : Int), (([] : List (Int × ((Int × (Int × ((List Int) × Unit))) × Unit))), ((0 : Int), ((0 : Int), ((0 : Int), ((0 : Int), ())))))))))) fun s7 =>
                                bif (s7.2.2.2.2.2.2.1 != (IntKind.wrap .i64 (y5.1.1 + (1 : Int)))) then
                                (c0 ((-(1 : Int)), ()))
                                else bif (Go.Dn.inB x2 (((List.length x0) : Nat) : Int)) then
                                  (Go.Dn.share (List.getD x0 (Int.toNat x2) ((0 : Int), (false, ((0 : Int), ((0 : Int), (([] : List (Int × ((Int × (Int × ((List Int) × Unit))) × Unit))), ((0 : Int), ((0 : Int), ((0 : Int), ((0 : Int), ())))))))))) fun s8 =>
                                    bif (s8.2.2.2.2.2.2.2.1 != (IntKind.wrap .i64 ((IntKind.wrap .i64 (y5.1.1 + (1 : Int))) + (1 : Int)))) then
                                    (c0 ((-(1 : Int)), ()))
                                    else bif (Go.Dn.inB x2 (((List.length x0) : Nat) : Int)) then
                                      (Go.Dn.share (List.getD x0 (Int.toNat x2) ((0 : Int), (false, ((0 : Int), ((0 : Int), (([] : List (Int × ((Int × (Int × ((List Int) × Unit))) × Unit))), ((0 : Int), ((0 : Int), ((0 : Int), ((0 : Int), ())))))))))) fun s9 =>
                                        bif (s9.2.2.2.2.2.2.2.2.1 != (IntKind.wrap .i64 ((IntKind.wrap .i64 ((IntKind.wrap .i64 (y5.1.1 + (1 : Int))) + (1 : Int))) + (1 : Int)))) then
                                        (c0 ((-(1 : Int)), ()))
                                        else laws_heldNodeS.l2 k c0 c1 n x0 (IntKind.wrap .i64 ((IntKind.wrap .i64 ((IntKind.wrap .i64 ((IntKind.wrap .i64 (y5.1.1 + (1 : Int))) + (1 : Int))) + (1 : Int))) + (1 : Int))) (IntKind.wrap .i64 (x2 + (1 : Int))))
                                      else none)
                                  else none)
                              else none)
                          else none)
                      else none)
                  else none)
              else none)
          else none)
      else none)
    else c1 (x1, ())
def laws_heldNodeS.F (k : Nat) (x : ((List (Int × (Bool × (Int × (Int × ((List (Int × ((Int × (Int × ((List Int) × Unit))) × Unit))) × (Int × (Int × (Int × (Int × Unit)))))))))) × (Int × Unit))) : Option ((Int × Unit) × Unit) :=
  laws_heldNodeS.l2 k (fun e10 =>
    some (e10, ())) (fun e11 =>
    some (e11, ())) k x.1 x.2.1 (0 : Int)
def laws_heldNodeS.hd : Hints := ⟨[(2, ⟨[0, 1, 5], []⟩)], [(0, [1]), (1, [0, 1, 5])], [4], [0, 1, 5], []⟩
def laws_heldNodeS.lps (k : Nat) : List (Nat × Lp laws_heldNodeS.sg.Out) := [(2, ⟨[.l kNode, .i, .i], fun x => (fun x0 x1 x2 => ⟨[(0, .v false [.fz kNode x0]), (1, .v false [.int .i64 x1]), (5, .v false [.int .i64 x2])], [], []⟩) x.1 x.2.1 x.2.2.1, fun C n x => laws_heldNodeS.l2 k (fun y => C .ret ((fun y0 => ⟨[(4, .v false [.int .i64 y0])], [], []⟩) y.1)) (fun y => C (.exit 0) ((fun y0 => ⟨[(1, .v false [.int .i64 y0])], [], []⟩) y.1)) n x.1 x.2.1 x.2.2.1⟩)]
theorem laws_heldNodeS.loops (k : Nat) : LoopsOk laws_heldNodeS.E k laws_heldNodeS.hd (laws_heldNodeS.lps k) (loopsOf (Go.Proofs.Try.f258.body.getD .skip)) := ⟨⟨fun _ _ => rfl, fun _ _ _ => by kernel_rfl, fun _ => ⟨rfl, rfl⟩⟩, trivial⟩
theorem laws_heldNodeS.den (k : Nat) (x : Sig.In laws_heldNodeS.sg.ps) : denFn laws_heldNodeS.E k Go.Proofs.Try.f258 laws_heldNodeS.sg laws_heldNodeS.hd (runL k laws_heldNodeS.hd (laws_heldNodeS.lps k)) x = laws_heldNodeS.F k x := by kernel_rfl
theorem laws_heldNodeS.ok (k : Nat) : Contract Try.prog 258 laws_heldNodeS.sg (laws_heldNodeS.F k) := ok_of (E := laws_heldNodeS.E) (tysOk _ _) (eqsOk _) ⟨laws_heldEntryS.ok k, trivial⟩ Try.func258 rfl (by kernel_rfl) (laws_heldNodeS.loops k) (laws_heldNodeS.den k)
def laws_heldWireS.sg : Sig := ⟨[.b (.sl kWire), .b (.int .i64)], [((.int .i64), .rd)]⟩
def laws_heldWireS.E : Env := ⟨tys, bys, [(160, ⟨laws_heldByteS.sg, laws_heldByteS.F⟩)], eqs⟩
def laws_heldWireS.l2 {ρ : Type} (k : Nat) (c0 : (Int × Unit) → Option ρ) (c1 : (Int × Unit) → Option ρ) : Nat → List (Int × ((List Int) × (Int × ((List Int) × Unit)))) → Int → Int → Option ρ
  | 0 => fun _ _ _ => none
  | n + 1 => fun x0 x1 x2 => 
    bif (decide ((x2 < (((List.length x0) : Nat) : Int)))) then
    (bif (Go.Dn.inB x2 (((List.length x0) : Nat) : Int)) then
      (Go.Dn.share (List.getD x0 (Int.toNat x2) ((0 : Int), (([] : List Int), ((0 : Int), (([] : List Int), ()))))) fun s0 =>
        bif (s0.1 != x1) then
        (c0 ((-(1 : Int)), ()))
        else bif (Go.Dn.inB x2 (((List.length x0) : Nat) : Int)) then
          (Go.Dn.share (List.getD x0 (Int.toNat x2) ((0 : Int), (([] : List Int), ((0 : Int), (([] : List Int), ()))))) fun s1 =>
            (laws_heldByteS.F k (s1.2.1, (IntKind.wrap .i64 (x1 + (1 : Int))), ())).bind fun y2 =>
            bif (decide ((y2.1.1 < (0 : Int)))) then
            (c0 ((-(1 : Int)), ()))
            else bif (Go.Dn.inB x2 (((List.length x0) : Nat) : Int)) then
              (Go.Dn.share (List.getD x0 (Int.toNat x2) ((0 : Int), (([] : List Int), ((0 : Int), (([] : List Int), ()))))) fun s3 =>
                bif (s3.2.2.1 != y2.1.1) then
                (c0 ((-(1 : Int)), ()))
                else bif (Go.Dn.inB x2 (((List.length x0) : Nat) : Int)) then
                  (Go.Dn.share (List.getD x0 (Int.toNat x2) ((0 : Int), (([] : List Int), ((0 : Int), (([] : List Int), ()))))) fun s4 =>
                    (laws_heldByteS.F k (s4.2.2.2.1, (IntKind.wrap .i64 (y2.1.1 + (1 : Int))), ())).bind fun y5 =>
                    bif (decide ((y5.1.1 < (0 : Int)))) then
                    (c0 ((-(1 : Int)), ()))
                    else laws_heldWireS.l2 k c0 c1 n x0 y5.1.1 (IntKind.wrap .i64 (x2 + (1 : Int))))
                  else none)
              else none)
          else none)
      else none)
    else c1 (x1, ())
def laws_heldWireS.F (k : Nat) (x : ((List (Int × ((List Int) × (Int × ((List Int) × Unit))))) × (Int × Unit))) : Option ((Int × Unit) × Unit) :=
  laws_heldWireS.l2 k (fun e6 =>
    some (e6, ())) (fun e7 =>
    some (e7, ())) k x.1 x.2.1 (0 : Int)
def laws_heldWireS.hd : Hints := ⟨[(2, ⟨[0, 1, 5], []⟩)], [(0, [1]), (1, [0, 1, 5])], [4], [0, 1, 5], []⟩
def laws_heldWireS.lps (k : Nat) : List (Nat × Lp laws_heldWireS.sg.Out) := [(2, ⟨[.l kWire, .i, .i], fun x => (fun x0 x1 x2 => ⟨[(0, .v false [.fz kWire x0]), (1, .v false [.int .i64 x1]), (5, .v false [.int .i64 x2])], [], []⟩) x.1 x.2.1 x.2.2.1, fun C n x => laws_heldWireS.l2 k (fun y => C .ret ((fun y0 => ⟨[(4, .v false [.int .i64 y0])], [], []⟩) y.1)) (fun y => C (.exit 0) ((fun y0 => ⟨[(1, .v false [.int .i64 y0])], [], []⟩) y.1)) n x.1 x.2.1 x.2.2.1⟩)]
theorem laws_heldWireS.loops (k : Nat) : LoopsOk laws_heldWireS.E k laws_heldWireS.hd (laws_heldWireS.lps k) (loopsOf (Go.Proofs.Try.f259.body.getD .skip)) := ⟨⟨fun _ _ => rfl, fun _ _ _ => by kernel_rfl, fun _ => ⟨rfl, rfl⟩⟩, trivial⟩
theorem laws_heldWireS.den (k : Nat) (x : Sig.In laws_heldWireS.sg.ps) : denFn laws_heldWireS.E k Go.Proofs.Try.f259 laws_heldWireS.sg laws_heldWireS.hd (runL k laws_heldWireS.hd (laws_heldWireS.lps k)) x = laws_heldWireS.F k x := by kernel_rfl
theorem laws_heldWireS.ok (k : Nat) : Contract Try.prog 259 laws_heldWireS.sg (laws_heldWireS.F k) := ok_of (E := laws_heldWireS.E) (tysOk _ _) (eqsOk _) ⟨laws_heldByteS.ok k, trivial⟩ Try.func259 rfl (by kernel_rfl) (laws_heldWireS.loops k) (laws_heldWireS.den k)
def laws_heldPair.sg : Sig := ⟨[.b kPair, .b (.int .i64)], [((.int .i64), .rd)]⟩
def laws_heldPair.E : Env := ⟨tys, bys, [(137, ⟨laws_heldMailS.sg, laws_heldMailS.F⟩), (241, ⟨laws_heldEntryS.sg, laws_heldEntryS.F⟩), (257, ⟨laws_heldSettings.sg, laws_heldSettings.F⟩), (258, ⟨laws_heldNodeS.sg, laws_heldNodeS.F⟩), (259, ⟨laws_heldWireS.sg, laws_heldWireS.F⟩)], eqs⟩
def laws_heldPair.F (k : Nat) (x : ((((Int × (Int × (Int × Unit))) × (Int × ((List ((Int × (Int × Unit)) × (Int × (Int × (Int × (Bool × (Int × (Int × Unit)))))))) × ((List ((Int × (Int × Unit)) × (Int × (Int × (Int × (Bool × (Int × (Int × Unit)))))))) × Unit)))) × ((List (Int × (Bool × (Int × (Int × ((List (Int × ((Int × (Int × ((List Int) × Unit))) × Unit))) × (Int × (Int × (Int × (Int × Unit)))))))))) × ((List (Int × ((List Int) × (Int × ((List Int) × Unit))))) × ((List (Int × (Int × (Int × (Int × (Int × (Bool × ((Int × ((Int × (Int × ((List Int) × Unit))) × Unit)) × Unit)))))))) × ((List (Int × ((Int × (Int × ((List Int) × Unit))) × Unit))) × Unit))))) × (Int × Unit))) : Option ((Int × Unit) × Unit) :=
  (laws_heldSettings.F k (x.1.1, x.2)).bind fun y0 =>
  bif (decide ((y0.1.1 < (0 : Int)))) then
  (some (((-(1 : Int)), ()), ()))
  else (laws_heldNodeS.F k (x.1.2.1, y0.1)).bind fun y1 =>
    bif (decide ((y1.1.1 < (0 : Int)))) then
    (some (((-(1 : Int)), ()), ()))
    else (laws_heldWireS.F k (x.1.2.2.1, y1.1)).bind fun y2 =>
      bif (decide ((y2.1.1 < (0 : Int)))) then
      (some (((-(1 : Int)), ()), ()))
      else (laws_heldMailS.F k (x.1.2.2.2.1, y2.1)).bind fun y3 =>
        bif (decide ((y3.1.1 < (0 : Int)))) then
        (some (((-(1 : Int)), ()), ()))
        else (laws_heldEntryS.F k (x.1.2.2.2.2.1, y3.1)).bind fun y4 =>
          bif (decide ((y4.1.1 < (0 : Int)))) then
          (some (((-(1 : Int)), ()), ()))
          else some y4
def laws_heldPair.hd : Hints := ⟨[], [], [4], [0, 1, 2], []⟩
def laws_heldPair.lps (k : Nat) : List (Nat × Lp laws_heldPair.sg.Out) := []
theorem laws_heldPair.loops (k : Nat) : LoopsOk laws_heldPair.E k laws_heldPair.hd (laws_heldPair.lps k) (loopsOf (Go.Proofs.Try.f161.body.getD .skip)) := trivial
theorem laws_heldPair.den (k : Nat) (x : Sig.In laws_heldPair.sg.ps) : denFn laws_heldPair.E k Go.Proofs.Try.f161 laws_heldPair.sg laws_heldPair.hd (runL k laws_heldPair.hd (laws_heldPair.lps k)) x = laws_heldPair.F k x := by kernel_rfl
theorem laws_heldPair.ok (k : Nat) : Contract Try.prog 161 laws_heldPair.sg (laws_heldPair.F k) := ok_of (E := laws_heldPair.E) (tysOk _ _) (eqsOk _) ⟨laws_heldMailS.ok k, laws_heldEntryS.ok k, laws_heldSettings.ok k, laws_heldNodeS.ok k, laws_heldWireS.ok k, trivial⟩ Try.func161 rfl (by kernel_rfl) (laws_heldPair.loops k) (laws_heldPair.den k)
def laws_heldPairResult.sg : Sig := ⟨[.b kPairResult, .b (.int .i64)], [((.int .i64), .rd)]⟩
def laws_heldPairResult.E : Env := ⟨tys, bys, [(160, ⟨laws_heldByteS.sg, laws_heldByteS.F⟩), (161, ⟨laws_heldPair.sg, laws_heldPair.F⟩)], eqs⟩
def laws_heldPairResult.F (k : Nat) (x : ((Int × ((List Int) × ((((Int × (Int × (Int × Unit))) × (Int × ((List ((Int × (Int × Unit)) × (Int × (Int × (Int × (Bool × (Int × (Int × Unit)))))))) × ((List ((Int × (Int × Unit)) × (Int × (Int × (Int × (Bool × (Int × (Int × Unit)))))))) × Unit)))) × ((List (Int × (Bool × (Int × (Int × ((List (Int × ((Int × (Int × ((List Int) × Unit))) × Unit))) × (Int × (Int × (Int × (Int × Unit)))))))))) × ((List (Int × ((List Int) × (Int × ((List Int) × Unit))))) × ((List (Int × (Int × (Int × (Int × (Int × (Bool × ((Int × ((Int × (Int × ((List Int) × Unit))) × Unit)) × Unit)))))))) × ((List (Int × ((Int × (Int × ((List Int) × Unit))) × Unit))) × Unit))))) × Unit))) × (Int × Unit))) : Option ((Int × Unit) × Unit) :=
  (laws_heldByteS.F k (x.1.2.1, x.2)).bind fun y0 =>
  bif (decide ((y0.1.1 < (0 : Int)))) then
  (some (((-(1 : Int)), ()), ()))
  else (laws_heldPair.F k (x.1.2.2.1, y0.1)).bind fun y1 =>
    bif (decide ((y1.1.1 < (0 : Int)))) then
    (some (((-(1 : Int)), ()), ()))
    else some y1
def laws_heldPairResult.hd : Hints := ⟨[], [], [4], [0, 1, 2], []⟩
def laws_heldPairResult.lps (k : Nat) : List (Nat × Lp laws_heldPairResult.sg.Out) := []
theorem laws_heldPairResult.loops (k : Nat) : LoopsOk laws_heldPairResult.E k laws_heldPairResult.hd (laws_heldPairResult.lps k) (loopsOf (Go.Proofs.Try.f61.body.getD .skip)) := trivial
theorem laws_heldPairResult.den (k : Nat) (x : Sig.In laws_heldPairResult.sg.ps) : denFn laws_heldPairResult.E k Go.Proofs.Try.f61 laws_heldPairResult.sg laws_heldPairResult.hd (runL k laws_heldPairResult.hd (laws_heldPairResult.lps k)) x = laws_heldPairResult.F k x := by kernel_rfl
theorem laws_heldPairResult.ok (k : Nat) : Contract Try.prog 61 laws_heldPairResult.sg (laws_heldPairResult.F k) := ok_of (E := laws_heldPairResult.E) (tysOk _ _) (eqsOk _) ⟨laws_heldByteS.ok k, laws_heldPair.ok k, trivial⟩ Try.func61 rfl (by kernel_rfl) (laws_heldPairResult.loops k) (laws_heldPairResult.den k)
def laws_FnExactNewPair.sg : Sig := ⟨[.b kSettings], [(.bool, .rd)]⟩
def laws_FnExactNewPair.E : Env := ⟨tys, bys, [(53, ⟨laws_szSettings.sg, laws_szSettings.F⟩), (54, ⟨spec_NewPair.sg, spec_NewPair.F⟩), (55, ⟨laws_toSettings.sg, laws_toSettings.F⟩), (56, ⟨impl_NewPair.sg, impl_NewPair.F⟩), (57, ⟨laws_eqPairResult.sg, laws_eqPairResult.F⟩), (58, ⟨laws_eqSettings.sg, laws_eqSettings.F⟩), (59, ⟨laws_markSettings.sg, laws_markSettings.F⟩), (60, ⟨laws_markPairResult.sg, laws_markPairResult.F⟩), (61, ⟨laws_heldPairResult.sg, laws_heldPairResult.F⟩)], eqs⟩
def laws_FnExactNewPair.F (k : Nat) (x : (((Int × (Int × (Int × Unit))) × (Int × ((List ((Int × (Int × Unit)) × (Int × (Int × (Int × (Bool × (Int × (Int × Unit)))))))) × ((List ((Int × (Int × Unit)) × (Int × (Int × (Int × (Bool × (Int × (Int × Unit)))))))) × Unit)))) × Unit)) : Option ((Bool × Unit) × Unit) :=
  (laws_szSettings.F k (x.1, (1048576 : Int), ())).bind fun y0 =>
  bif (decide ((y0.1.1 < (0 : Int)))) then
  (some ((true, ()), ()))
  else (laws_toSettings.F k x).bind fun y1 =>
    (spec_NewPair.F k y1.1).bind fun y2 =>
    (laws_toSettings.F k x).bind fun y3 =>
    (impl_NewPair.F k y3.1).bind fun y4 =>
    (laws_eqPairResult.F k (y4.1.1, y2.1)).bind fun y5 =>
    bif (!y5.1.1) then
    (some ((false, ()), ()))
    else (laws_toSettings.F k x).bind fun y6 =>
      (laws_eqSettings.F k (y3.1.1, y6.1)).bind fun y7 =>
      bif (!y7.1.1) then
      (some ((false, ()), ()))
      else (laws_markSettings.F k (y3.1.1, (1 : Int), ())).bind fun y8 =>
        bif (decide ((y8.1.1 < (0 : Int)))) then
        (some ((false, ()), ()))
        else (laws_eqPairResult.F k (y4.1.1, y2.1)).bind fun y9 =>
          bif (!y9.1.1) then
          (some ((false, ()), ()))
          else (laws_markPairResult.F k (y4.1.1, (1 : Int), ())).bind fun y10 =>
            (laws_heldPairResult.F k ((y4.1.1.1, y10.2.1.2.1, ((y4.1.1.2.2.1.1.1, y4.1.1.2.2.1.1.2.1, y10.2.1.2.2.1.1.2.2), y10.2.1.2.2.1.2), ()), (1 : Int), ())).bind fun y11 =>
            bif (decide ((y11.1.1 < (0 : Int)))) then
            (some ((false, ()), ()))
            else bif (y11.1.1 != y10.1.1) then
              (some ((false, ()), ()))
              else (laws_toSettings.F k x).bind fun y12 =>
                (impl_NewPair.F k y12.1).bind fun y13 =>
                (laws_eqPairResult.F k (y13.1.1, y2.1)).bind fun y14 =>
                bif (!y14.1.1) then
                (some ((false, ()), ()))
                else (laws_heldPairResult.F k ((y4.1.1.1, y10.2.1.2.1, ((y4.1.1.2.2.1.1.1, y4.1.1.2.2.1.1.2.1, y10.2.1.2.2.1.1.2.2), y10.2.1.2.2.1.2), ()), (1 : Int), ())).bind fun y15 =>
                  bif (decide ((y15.1.1 < (0 : Int)))) then
                  (some ((false, ()), ()))
                  else bif (y15.1.1 != y10.1.1) then
                    (some ((false, ()), ()))
                    else some ((true, ()), ())
def laws_FnExactNewPair.hd : Hints := ⟨[], [], [2], [0, 1, 3, 4, 5, 6, 7, 8, 9, 10], [(10, [0, 0, 2, 7, 15])]⟩
def laws_FnExactNewPair.lps (k : Nat) : List (Nat × Lp laws_FnExactNewPair.sg.Out) := []
theorem laws_FnExactNewPair.loops (k : Nat) : LoopsOk laws_FnExactNewPair.E k laws_FnExactNewPair.hd (laws_FnExactNewPair.lps k) (loopsOf (Go.Proofs.Try.f8.body.getD .skip)) := trivial
theorem laws_FnExactNewPair.den (k : Nat) (x : Sig.In laws_FnExactNewPair.sg.ps) : denFn laws_FnExactNewPair.E k Go.Proofs.Try.f8 laws_FnExactNewPair.sg laws_FnExactNewPair.hd (runL k laws_FnExactNewPair.hd (laws_FnExactNewPair.lps k)) x = laws_FnExactNewPair.F k x := by kernel_rfl
theorem laws_FnExactNewPair.ok (k : Nat) : Contract Try.prog 8 laws_FnExactNewPair.sg (laws_FnExactNewPair.F k) := ok_of (E := laws_FnExactNewPair.E) (tysOk _ _) (eqsOk _) ⟨laws_szSettings.ok k, spec_NewPair.ok k, laws_toSettings.ok k, impl_NewPair.ok k, laws_eqPairResult.ok k, laws_eqSettings.ok k, laws_markSettings.ok k, laws_markPairResult.ok k, laws_heldPairResult.ok k, trivial⟩ Try.func8 rfl (by kernel_rfl) (laws_FnExactNewPair.loops k) (laws_FnExactNewPair.den k)

end
end Go.Proofs.Ythnidahfdnnboaa
set_option linter.unusedVariables false
set_option linter.unusedSimpArgs false
namespace Go.Proofs.Ythnidahfdnnboaa
open Go Go.Dn
theorem laws_toConfig.eq (k : Nat) (x : (Int × (Int × (Int × Unit))) × Unit) (hb : K.big kConfig x.1 ≤ 4294967296) (hk : K.big kConfig x.1 < k) : laws_toConfig.F k x = some ((x.1, ()), ()) := by
  obtain ⟨x, _⟩ := x
  unfold laws_toConfig.F
  rfl
theorem laws_toPrefix.eq (k : Nat) (x : (Int × (Int × Unit)) × Unit) (hb : K.big kPrefix x.1 ≤ 4294967296) (hk : K.big kPrefix x.1 < k) : laws_toPrefix.F k x = some ((x.1, ()), ()) := by
  obtain ⟨x, _⟩ := x
  unfold laws_toPrefix.F
  rfl
theorem laws_toRule.eq (k : Nat) (x : ((Int × (Int × Unit)) × (Int × (Int × (Int × (Bool × (Int × (Int × Unit))))))) × Unit) (hb : K.big kRule x.1 ≤ 4294967296) (hk : K.big kRule x.1 < k) : laws_toRule.F k x = some ((x.1, ()), ()) := by
  obtain ⟨x, _⟩ := x
  unfold laws_toRule.F
  rw [laws_toPrefix.eq k _ (by (try simp only [bigp, bigi, bigb, bigu, bigs, kerrorAddressString, kPrefix, kl1Src, kConfig, kFrame, kboundsError, kEvent, kAttrs, kWire, kSession, kEntry, kTold, kRule, kUpdate, kRoute, kAttrsResult, kWireResult, kToldResult, kRouteResult, kUpdatesResult, kLink, kNode, kSettings, kMail, kRouter, kMessage, kRouterResult, kNodeResult, kPair, kPairResult] at *); omega) (by (try simp only [bigp, bigi, bigb, bigu, bigs, kerrorAddressString, kPrefix, kl1Src, kConfig, kFrame, kboundsError, kEvent, kAttrs, kWire, kSession, kEntry, kTold, kRule, kUpdate, kRoute, kAttrsResult, kWireResult, kToldResult, kRouteResult, kUpdatesResult, kLink, kNode, kSettings, kMail, kRouter, kMessage, kRouterResult, kNodeResult, kPair, kPairResult] at *); omega)]
  simp only [Option.bind_some]
theorem laws_toRuleS.eq (k : Nat) (x : List ((Int × (Int × Unit)) × (Int × (Int × (Int × (Bool × (Int × (Int × Unit))))))) × Unit) (hb : K.big (.sl kRule) x.1 ≤ 4294967296) (hk : K.big (.sl kRule) x.1 < k) : laws_toRuleS.F k x = some ((x.1, ()), ()) := by
  obtain ⟨x, _⟩ := x
  simp only at hb hk ⊢
  have hl : x.length ≤ K.big (.sl kRule) x := big_len (e := kRule) x
  unfold laws_toRuleS.F
  simp only [Int.le_refl, decide_true, cond_true, Int.toNat_natCast]
  rw [roomy_le 4294967296 (by omega) (by decide), cond_true]
  refine loop_inv (len := x.length) (fun n i s => laws_toRuleS.l3 k _ n x i s) (fun i s => s.length = x.length ∧ ∀ j, j < i → s[j]? = x[j]?) _ ?_ ?_ k 0 _ (Nat.zero_le _) ⟨by simp, fun j h => by omega⟩ (by omega)
  · rintro n s ⟨h1, h2⟩
    simp only [laws_toRuleS.l3, lt_dec_f, cond_false]
    rw [all_eq h1 h2]
  · rintro n i s hi ⟨h1, h2⟩
    have hm : K.big kRule x[i] + 1 ≤ K.big (.sl kRule) x := big_mem (e := kRule) (l := x) (List.getElem_mem hi)
    refine ⟨s.set i x[i], ?_, set_keep h1 hi h2 (by simp [hi])⟩
    simp only [laws_toRuleS.l3, lt_dec hi, inBn hi, cond_true, share_eq, getD_get _ hi]
    rw [laws_toRule.eq k _ (by simp only; omega) (by simp only; omega)]
    simp only [Option.bind_some, h1, inBn hi, cond_true, Int.toNat_natCast]
    rw [next_i (by omega)]
theorem laws_toSettings.eq (k : Nat) (x : ((Int × (Int × (Int × Unit))) × (Int × (List ((Int × (Int × Unit)) × (Int × (Int × (Int × (Bool × (Int × (Int × Unit))))))) × (List ((Int × (Int × Unit)) × (Int × (Int × (Int × (Bool × (Int × (Int × Unit))))))) × Unit)))) × Unit) (hb : K.big kSettings x.1 ≤ 4294967296) (hk : K.big kSettings x.1 < k) : laws_toSettings.F k x = some ((x.1, ()), ()) := by
  obtain ⟨x, _⟩ := x
  unfold laws_toSettings.F
  rw [laws_toConfig.eq k _ (by (try simp only [bigp, bigi, bigb, bigu, bigs, kerrorAddressString, kPrefix, kl1Src, kConfig, kFrame, kboundsError, kEvent, kAttrs, kWire, kSession, kEntry, kTold, kRule, kUpdate, kRoute, kAttrsResult, kWireResult, kToldResult, kRouteResult, kUpdatesResult, kLink, kNode, kSettings, kMail, kRouter, kMessage, kRouterResult, kNodeResult, kPair, kPairResult] at *); omega) (by (try simp only [bigp, bigi, bigb, bigu, bigs, kerrorAddressString, kPrefix, kl1Src, kConfig, kFrame, kboundsError, kEvent, kAttrs, kWire, kSession, kEntry, kTold, kRule, kUpdate, kRoute, kAttrsResult, kWireResult, kToldResult, kRouteResult, kUpdatesResult, kLink, kNode, kSettings, kMail, kRouter, kMessage, kRouterResult, kNodeResult, kPair, kPairResult] at *); omega)]
  simp only [Option.bind_some]
  rw [laws_toRuleS.eq k _ (by (try simp only [bigp, bigi, bigb, bigu, bigs, kerrorAddressString, kPrefix, kl1Src, kConfig, kFrame, kboundsError, kEvent, kAttrs, kWire, kSession, kEntry, kTold, kRule, kUpdate, kRoute, kAttrsResult, kWireResult, kToldResult, kRouteResult, kUpdatesResult, kLink, kNode, kSettings, kMail, kRouter, kMessage, kRouterResult, kNodeResult, kPair, kPairResult] at *); omega) (by (try simp only [bigp, bigi, bigb, bigu, bigs, kerrorAddressString, kPrefix, kl1Src, kConfig, kFrame, kboundsError, kEvent, kAttrs, kWire, kSession, kEntry, kTold, kRule, kUpdate, kRoute, kAttrsResult, kWireResult, kToldResult, kRouteResult, kUpdatesResult, kLink, kNode, kSettings, kMail, kRouter, kMessage, kRouterResult, kNodeResult, kPair, kPairResult] at *); omega)]
  simp only [Option.bind_some]
  rw [laws_toRuleS.eq k _ (by (try simp only [bigp, bigi, bigb, bigu, bigs, kerrorAddressString, kPrefix, kl1Src, kConfig, kFrame, kboundsError, kEvent, kAttrs, kWire, kSession, kEntry, kTold, kRule, kUpdate, kRoute, kAttrsResult, kWireResult, kToldResult, kRouteResult, kUpdatesResult, kLink, kNode, kSettings, kMail, kRouter, kMessage, kRouterResult, kNodeResult, kPair, kPairResult] at *); omega) (by (try simp only [bigp, bigi, bigb, bigu, bigs, kerrorAddressString, kPrefix, kl1Src, kConfig, kFrame, kboundsError, kEvent, kAttrs, kWire, kSession, kEntry, kTold, kRule, kUpdate, kRoute, kAttrsResult, kWireResult, kToldResult, kRouteResult, kUpdatesResult, kLink, kNode, kSettings, kMail, kRouter, kMessage, kRouterResult, kNodeResult, kPair, kPairResult] at *); omega)]
  simp only [Option.bind_some]
theorem laws_szRuleS.tot (k : Nat) (x : List ((Int × (Int × Unit)) × (Int × (Int × (Int × (Bool × (Int × (Int × Unit))))))) × Int × Unit) (hb : K.big (.sl kRule) x.1 ≤ 4294967296) (hk : K.big (.sl kRule) x.1 < k) (h0 : -1 ≤ x.2.1) (h1 : x.2.1 ≤ 4294967296) : ∃ c : Int, laws_szRuleS.F k x = some ((c, ()), ()) ∧ -1 ≤ c ∧ c ≤ 4294967296 := by
  obtain ⟨x, l, _⟩ := x
  simp only at hb hk h0 h1
  have hl : x.length ≤ K.big (.sl kRule) x := big_len (e := kRule) x
  unfold laws_szRuleS.F
  simp only [w64 (n := l - (x.length : Int)) (by omega) (by omega)]
  by_cases hc : l - (x.length : Int) < 0
  · exact ⟨-1, by simp [hc], by omega, by omega⟩
  · exact ⟨l - (x.length : Int), by simp [hc], by omega, by omega⟩
theorem laws_szSettings.tot (k : Nat) (x : ((Int × (Int × (Int × Unit))) × (Int × (List ((Int × (Int × Unit)) × (Int × (Int × (Int × (Bool × (Int × (Int × Unit))))))) × (List ((Int × (Int × Unit)) × (Int × (Int × (Int × (Bool × (Int × (Int × Unit))))))) × Unit)))) × Int × Unit) (hb : K.big kSettings x.1 ≤ 4294967296) (hk : K.big kSettings x.1 < k) (h0 : -1 ≤ x.2.1) (h1 : x.2.1 ≤ 4294967296) : ∃ c : Int, laws_szSettings.F k x = some ((c, ()), ()) ∧ -1 ≤ c ∧ c ≤ 4294967296 := by
  obtain ⟨x, l, _⟩ := x
  simp only at hb hk h0 h1
  unfold laws_szSettings.F
  obtain ⟨c0, e0, l0, u0⟩ := laws_szRuleS.tot k (x.2.2.1, l, ()) (by (try simp only [bigp, bigi, bigb, bigu, bigs, kerrorAddressString, kPrefix, kl1Src, kConfig, kFrame, kboundsError, kEvent, kAttrs, kWire, kSession, kEntry, kTold, kRule, kUpdate, kRoute, kAttrsResult, kWireResult, kToldResult, kRouteResult, kUpdatesResult, kLink, kNode, kSettings, kMail, kRouter, kMessage, kRouterResult, kNodeResult, kPair, kPairResult] at *); omega) (by (try simp only [bigp, bigi, bigb, bigu, bigs, kerrorAddressString, kPrefix, kl1Src, kConfig, kFrame, kboundsError, kEvent, kAttrs, kWire, kSession, kEntry, kTold, kRule, kUpdate, kRoute, kAttrsResult, kWireResult, kToldResult, kRouteResult, kUpdatesResult, kLink, kNode, kSettings, kMail, kRouter, kMessage, kRouterResult, kNodeResult, kPair, kPairResult] at *); omega) (by simp only; omega) (by simp only; omega)
  simp only [e0, Option.bind_some]
  by_cases g0 : c0 < 0
  · exact ⟨-1, by simp [g0], by omega, by omega⟩
  simp only [decide_eq_false g0, cond_false]
  obtain ⟨c1, e1, l1, u1⟩ := laws_szRuleS.tot k (x.2.2.2.1, c0, ()) (by (try simp only [bigp, bigi, bigb, bigu, bigs, kerrorAddressString, kPrefix, kl1Src, kConfig, kFrame, kboundsError, kEvent, kAttrs, kWire, kSession, kEntry, kTold, kRule, kUpdate, kRoute, kAttrsResult, kWireResult, kToldResult, kRouteResult, kUpdatesResult, kLink, kNode, kSettings, kMail, kRouter, kMessage, kRouterResult, kNodeResult, kPair, kPairResult] at *); omega) (by (try simp only [bigp, bigi, bigb, bigu, bigs, kerrorAddressString, kPrefix, kl1Src, kConfig, kFrame, kboundsError, kEvent, kAttrs, kWire, kSession, kEntry, kTold, kRule, kUpdate, kRoute, kAttrsResult, kWireResult, kToldResult, kRouteResult, kUpdatesResult, kLink, kNode, kSettings, kMail, kRouter, kMessage, kRouterResult, kNodeResult, kPair, kPairResult] at *); omega) (by simp only; omega) (by simp only; omega)
  simp only [e1, Option.bind_some]
  by_cases g1 : c1 < 0
  · exact ⟨-1, by simp [g1], by omega, by omega⟩
  simp only [decide_eq_false g1, cond_false]
  exact ⟨c1, rfl, by omega, by omega⟩
theorem laws_eqByteS.refl (k : Nat) (x : List Int × List Int × Unit) (he : x.2.1 = x.1) (hb : K.big (.sl (.int .u8)) x.1 ≤ 4294967296) (hk : K.big (.sl (.int .u8)) x.1 < k) : laws_eqByteS.F k x = some ((true, ()), ()) := by
  obtain ⟨x, y, _⟩ := x
  simp only at he hb hk
  subst he
  have hl : y.length ≤ K.big (.sl (.int .u8)) y := big_len (e := (.int .u8)) y
  unfold laws_eqByteS.F
  simp only [bne_self_eq_false, cond_false]
  refine loop_inv (len := y.length) (fun n i (s : Unit) => laws_eqByteS.l4 k _ _ n y y i) (fun i s => True) _ ?_ ?_ k 0 () (Nat.zero_le _) trivial (by omega)
  · rintro n s -
    simp only [laws_eqByteS.l4, lt_dec_f, cond_false]
  · rintro n i s hi -
    have hm : K.big (.int .u8) y[i] + 1 ≤ K.big (.sl (.int .u8)) y := big_mem (e := (.int .u8)) (l := y) (List.getElem_mem hi)
    refine ⟨(), ?_, trivial⟩
    simp only [laws_eqByteS.l4, lt_dec hi, inBn hi, cond_true, share_eq, getD_get _ hi, bne_self_eq_false, cond_false]
    rw [next_i (by omega)]
theorem laws_eqEvent.refl (k : Nat) (x : (Int × (Int × (List Int × Unit))) × (Int × (Int × (List Int × Unit))) × Unit) (he : x.2.1 = x.1) (hb : K.big kEvent x.1 ≤ 4294967296) (hk : K.big kEvent x.1 < k) : laws_eqEvent.F k x = some ((true, ()), ()) := by
  obtain ⟨x, y, _⟩ := x
  simp only at he hb hk
  subst he
  unfold laws_eqEvent.F
  (try simp only [bne_self_eq_false, cond_false])
  rw [laws_eqByteS.refl k _ rfl (by (try simp only [bigp, bigi, bigb, bigu, bigs, kerrorAddressString, kPrefix, kl1Src, kConfig, kFrame, kboundsError, kEvent, kAttrs, kWire, kSession, kEntry, kTold, kRule, kUpdate, kRoute, kAttrsResult, kWireResult, kToldResult, kRouteResult, kUpdatesResult, kLink, kNode, kSettings, kMail, kRouter, kMessage, kRouterResult, kNodeResult, kPair, kPairResult] at *); omega) (by (try simp only [bigp, bigi, bigb, bigu, bigs, kerrorAddressString, kPrefix, kl1Src, kConfig, kFrame, kboundsError, kEvent, kAttrs, kWire, kSession, kEntry, kTold, kRule, kUpdate, kRoute, kAttrsResult, kWireResult, kToldResult, kRouteResult, kUpdatesResult, kLink, kNode, kSettings, kMail, kRouter, kMessage, kRouterResult, kNodeResult, kPair, kPairResult] at *); omega)]
  (try simp only [Option.bind_some, Bool.not_true, cond_false, bne_self_eq_false, BEq.rfl])
theorem laws_eqEntry.refl (k : Nat) (x : (Int × ((Int × (Int × (List Int × Unit))) × Unit)) × (Int × ((Int × (Int × (List Int × Unit))) × Unit)) × Unit) (he : x.2.1 = x.1) (hb : K.big kEntry x.1 ≤ 4294967296) (hk : K.big kEntry x.1 < k) : laws_eqEntry.F k x = some ((true, ()), ()) := by
  obtain ⟨x, y, _⟩ := x
  simp only at he hb hk
  subst he
  unfold laws_eqEntry.F
  (try simp only [bne_self_eq_false, cond_false])
  rw [laws_eqEvent.refl k _ rfl (by (try simp only [bigp, bigi, bigb, bigu, bigs, kerrorAddressString, kPrefix, kl1Src, kConfig, kFrame, kboundsError, kEvent, kAttrs, kWire, kSession, kEntry, kTold, kRule, kUpdate, kRoute, kAttrsResult, kWireResult, kToldResult, kRouteResult, kUpdatesResult, kLink, kNode, kSettings, kMail, kRouter, kMessage, kRouterResult, kNodeResult, kPair, kPairResult] at *); omega) (by (try simp only [bigp, bigi, bigb, bigu, bigs, kerrorAddressString, kPrefix, kl1Src, kConfig, kFrame, kboundsError, kEvent, kAttrs, kWire, kSession, kEntry, kTold, kRule, kUpdate, kRoute, kAttrsResult, kWireResult, kToldResult, kRouteResult, kUpdatesResult, kLink, kNode, kSettings, kMail, kRouter, kMessage, kRouterResult, kNodeResult, kPair, kPairResult] at *); omega)]
  (try simp only [Option.bind_some, Bool.not_true, cond_false, bne_self_eq_false, BEq.rfl])
theorem laws_eqEntryS.refl (k : Nat) (x : List (Int × ((Int × (Int × (List Int × Unit))) × Unit)) × List (Int × ((Int × (Int × (List Int × Unit))) × Unit)) × Unit) (he : x.2.1 = x.1) (hb : K.big (.sl kEntry) x.1 ≤ 4294967296) (hk : K.big (.sl kEntry) x.1 < k) : laws_eqEntryS.F k x = some ((true, ()), ()) := by
  obtain ⟨x, y, _⟩ := x
  simp only at he hb hk
  subst he
  have hl : y.length ≤ K.big (.sl kEntry) y := big_len (e := kEntry) y
  unfold laws_eqEntryS.F
  simp only [bne_self_eq_false, cond_false]
  refine loop_inv (len := y.length) (fun n i (s : Unit) => laws_eqEntryS.l4 k _ _ n y y i) (fun i s => True) _ ?_ ?_ k 0 () (Nat.zero_le _) trivial (by omega)
  · rintro n s -
    simp only [laws_eqEntryS.l4, lt_dec_f, cond_false]
  · rintro n i s hi -
    have hm : K.big kEntry y[i] + 1 ≤ K.big (.sl kEntry) y := big_mem (e := kEntry) (l := y) (List.getElem_mem hi)
    refine ⟨(), ?_, trivial⟩
    simp only [laws_eqEntryS.l4, lt_dec hi, inBn hi, cond_true, share_eq, getD_get _ hi, bne_self_eq_false, cond_false]
    rw [laws_eqEntry.refl k _ rfl (by simp only; omega) (by simp only; omega)]
    simp only [Option.bind_some, Bool.not_true, cond_false]
    rw [next_i (by omega)]
theorem laws_eqNode.refl (k : Nat) (x : (Int × (Bool × (Int × (Int × (List (Int × ((Int × (Int × (List Int × Unit))) × Unit)) × (Int × (Int × (Int × (Int × Unit))))))))) × (Int × (Bool × (Int × (Int × (List (Int × ((Int × (Int × (List Int × Unit))) × Unit)) × (Int × (Int × (Int × (Int × Unit))))))))) × Unit) (he : x.2.1 = x.1) (hb : K.big kNode x.1 ≤ 4294967296) (hk : K.big kNode x.1 < k) : laws_eqNode.F k x = some ((true, ()), ()) := by
  obtain ⟨x, y, _⟩ := x
  simp only at he hb hk
  subst he
  unfold laws_eqNode.F
  (try simp only [bne_self_eq_false, cond_false])
  rw [laws_eqEntryS.refl k _ rfl (by (try simp only [bigp, bigi, bigb, bigu, bigs, kerrorAddressString, kPrefix, kl1Src, kConfig, kFrame, kboundsError, kEvent, kAttrs, kWire, kSession, kEntry, kTold, kRule, kUpdate, kRoute, kAttrsResult, kWireResult, kToldResult, kRouteResult, kUpdatesResult, kLink, kNode, kSettings, kMail, kRouter, kMessage, kRouterResult, kNodeResult, kPair, kPairResult] at *); omega) (by (try simp only [bigp, bigi, bigb, bigu, bigs, kerrorAddressString, kPrefix, kl1Src, kConfig, kFrame, kboundsError, kEvent, kAttrs, kWire, kSession, kEntry, kTold, kRule, kUpdate, kRoute, kAttrsResult, kWireResult, kToldResult, kRouteResult, kUpdatesResult, kLink, kNode, kSettings, kMail, kRouter, kMessage, kRouterResult, kNodeResult, kPair, kPairResult] at *); omega)]
  (try simp only [Option.bind_some, Bool.not_true, cond_false, bne_self_eq_false, BEq.rfl])
theorem laws_eqNodeS.refl (k : Nat) (x : List (Int × (Bool × (Int × (Int × (List (Int × ((Int × (Int × (List Int × Unit))) × Unit)) × (Int × (Int × (Int × (Int × Unit))))))))) × List (Int × (Bool × (Int × (Int × (List (Int × ((Int × (Int × (List Int × Unit))) × Unit)) × (Int × (Int × (Int × (Int × Unit))))))))) × Unit) (he : x.2.1 = x.1) (hb : K.big (.sl kNode) x.1 ≤ 4294967296) (hk : K.big (.sl kNode) x.1 < k) : laws_eqNodeS.F k x = some ((true, ()), ()) := by
  obtain ⟨x, y, _⟩ := x
  simp only at he hb hk
  subst he
  have hl : y.length ≤ K.big (.sl kNode) y := big_len (e := kNode) y
  unfold laws_eqNodeS.F
  simp only [bne_self_eq_false, cond_false]
  refine loop_inv (len := y.length) (fun n i (s : Unit) => laws_eqNodeS.l4 k _ _ n y y i) (fun i s => True) _ ?_ ?_ k 0 () (Nat.zero_le _) trivial (by omega)
  · rintro n s -
    simp only [laws_eqNodeS.l4, lt_dec_f, cond_false]
  · rintro n i s hi -
    have hm : K.big kNode y[i] + 1 ≤ K.big (.sl kNode) y := big_mem (e := kNode) (l := y) (List.getElem_mem hi)
    refine ⟨(), ?_, trivial⟩
    simp only [laws_eqNodeS.l4, lt_dec hi, inBn hi, cond_true, share_eq, getD_get _ hi, bne_self_eq_false, cond_false]
    rw [laws_eqNode.refl k _ rfl (by simp only; omega) (by simp only; omega)]
    simp only [Option.bind_some, Bool.not_true, cond_false]
    rw [next_i (by omega)]
theorem laws_eqWire.refl (k : Nat) (x : (Int × (List Int × (Int × (List Int × Unit)))) × (Int × (List Int × (Int × (List Int × Unit)))) × Unit) (he : x.2.1 = x.1) (hb : K.big kWire x.1 ≤ 4294967296) (hk : K.big kWire x.1 < k) : laws_eqWire.F k x = some ((true, ()), ()) := by
  obtain ⟨x, y, _⟩ := x
  simp only at he hb hk
  subst he
  unfold laws_eqWire.F
  (try simp only [bne_self_eq_false, cond_false])
  rw [laws_eqByteS.refl k _ rfl (by (try simp only [bigp, bigi, bigb, bigu, bigs, kerrorAddressString, kPrefix, kl1Src, kConfig, kFrame, kboundsError, kEvent, kAttrs, kWire, kSession, kEntry, kTold, kRule, kUpdate, kRoute, kAttrsResult, kWireResult, kToldResult, kRouteResult, kUpdatesResult, kLink, kNode, kSettings, kMail, kRouter, kMessage, kRouterResult, kNodeResult, kPair, kPairResult] at *); omega) (by (try simp only [bigp, bigi, bigb, bigu, bigs, kerrorAddressString, kPrefix, kl1Src, kConfig, kFrame, kboundsError, kEvent, kAttrs, kWire, kSession, kEntry, kTold, kRule, kUpdate, kRoute, kAttrsResult, kWireResult, kToldResult, kRouteResult, kUpdatesResult, kLink, kNode, kSettings, kMail, kRouter, kMessage, kRouterResult, kNodeResult, kPair, kPairResult] at *); omega)]
  (try simp only [Option.bind_some, Bool.not_true, cond_false, bne_self_eq_false, BEq.rfl])
  rw [laws_eqByteS.refl k _ rfl (by (try simp only [bigp, bigi, bigb, bigu, bigs, kerrorAddressString, kPrefix, kl1Src, kConfig, kFrame, kboundsError, kEvent, kAttrs, kWire, kSession, kEntry, kTold, kRule, kUpdate, kRoute, kAttrsResult, kWireResult, kToldResult, kRouteResult, kUpdatesResult, kLink, kNode, kSettings, kMail, kRouter, kMessage, kRouterResult, kNodeResult, kPair, kPairResult] at *); omega) (by (try simp only [bigp, bigi, bigb, bigu, bigs, kerrorAddressString, kPrefix, kl1Src, kConfig, kFrame, kboundsError, kEvent, kAttrs, kWire, kSession, kEntry, kTold, kRule, kUpdate, kRoute, kAttrsResult, kWireResult, kToldResult, kRouteResult, kUpdatesResult, kLink, kNode, kSettings, kMail, kRouter, kMessage, kRouterResult, kNodeResult, kPair, kPairResult] at *); omega)]
  (try simp only [Option.bind_some, Bool.not_true, cond_false, bne_self_eq_false, BEq.rfl])
theorem laws_eqWireS.refl (k : Nat) (x : List (Int × (List Int × (Int × (List Int × Unit)))) × List (Int × (List Int × (Int × (List Int × Unit)))) × Unit) (he : x.2.1 = x.1) (hb : K.big (.sl kWire) x.1 ≤ 4294967296) (hk : K.big (.sl kWire) x.1 < k) : laws_eqWireS.F k x = some ((true, ()), ()) := by
  obtain ⟨x, y, _⟩ := x
  simp only at he hb hk
  subst he
  have hl : y.length ≤ K.big (.sl kWire) y := big_len (e := kWire) y
  unfold laws_eqWireS.F
  simp only [bne_self_eq_false, cond_false]
  refine loop_inv (len := y.length) (fun n i (s : Unit) => laws_eqWireS.l4 k _ _ n y y i) (fun i s => True) _ ?_ ?_ k 0 () (Nat.zero_le _) trivial (by omega)
  · rintro n s -
    simp only [laws_eqWireS.l4, lt_dec_f, cond_false]
  · rintro n i s hi -
    have hm : K.big kWire y[i] + 1 ≤ K.big (.sl kWire) y := big_mem (e := kWire) (l := y) (List.getElem_mem hi)
    refine ⟨(), ?_, trivial⟩
    simp only [laws_eqWireS.l4, lt_dec hi, inBn hi, cond_true, share_eq, getD_get _ hi, bne_self_eq_false, cond_false]
    rw [laws_eqWire.refl k _ rfl (by simp only; omega) (by simp only; omega)]
    simp only [Option.bind_some, Bool.not_true, cond_false]
    rw [next_i (by omega)]
theorem laws_eqConfig.refl (k : Nat) (x : (Int × (Int × (Int × Unit))) × (Int × (Int × (Int × Unit))) × Unit) (he : x.2.1 = x.1) (hb : K.big kConfig x.1 ≤ 4294967296) (hk : K.big kConfig x.1 < k) : laws_eqConfig.F k x = some ((true, ()), ()) := by
  obtain ⟨x, y, _⟩ := x
  simp only at he hb hk
  subst he
  unfold laws_eqConfig.F
  (try simp only [bne_self_eq_false, cond_false])
  (try rfl)
theorem laws_eqPrefix.refl (k : Nat) (x : (Int × (Int × Unit)) × (Int × (Int × Unit)) × Unit) (he : x.2.1 = x.1) (hb : K.big kPrefix x.1 ≤ 4294967296) (hk : K.big kPrefix x.1 < k) : laws_eqPrefix.F k x = some ((true, ()), ()) := by
  obtain ⟨x, y, _⟩ := x
  simp only at he hb hk
  subst he
  unfold laws_eqPrefix.F
  (try simp only [bne_self_eq_false, cond_false])
  (try rfl)
theorem laws_eqRule.refl (k : Nat) (x : ((Int × (Int × Unit)) × (Int × (Int × (Int × (Bool × (Int × (Int × Unit))))))) × ((Int × (Int × Unit)) × (Int × (Int × (Int × (Bool × (Int × (Int × Unit))))))) × Unit) (he : x.2.1 = x.1) (hb : K.big kRule x.1 ≤ 4294967296) (hk : K.big kRule x.1 < k) : laws_eqRule.F k x = some ((true, ()), ()) := by
  obtain ⟨x, y, _⟩ := x
  simp only at he hb hk
  subst he
  unfold laws_eqRule.F
  (try simp only [bne_self_eq_false, cond_false])
  rw [laws_eqPrefix.refl k _ rfl (by (try simp only [bigp, bigi, bigb, bigu, bigs, kerrorAddressString, kPrefix, kl1Src, kConfig, kFrame, kboundsError, kEvent, kAttrs, kWire, kSession, kEntry, kTold, kRule, kUpdate, kRoute, kAttrsResult, kWireResult, kToldResult, kRouteResult, kUpdatesResult, kLink, kNode, kSettings, kMail, kRouter, kMessage, kRouterResult, kNodeResult, kPair, kPairResult] at *); omega) (by (try simp only [bigp, bigi, bigb, bigu, bigs, kerrorAddressString, kPrefix, kl1Src, kConfig, kFrame, kboundsError, kEvent, kAttrs, kWire, kSession, kEntry, kTold, kRule, kUpdate, kRoute, kAttrsResult, kWireResult, kToldResult, kRouteResult, kUpdatesResult, kLink, kNode, kSettings, kMail, kRouter, kMessage, kRouterResult, kNodeResult, kPair, kPairResult] at *); omega)]
  (try simp only [Option.bind_some, Bool.not_true, cond_false, bne_self_eq_false, BEq.rfl])
theorem laws_eqRuleS.refl (k : Nat) (x : List ((Int × (Int × Unit)) × (Int × (Int × (Int × (Bool × (Int × (Int × Unit))))))) × List ((Int × (Int × Unit)) × (Int × (Int × (Int × (Bool × (Int × (Int × Unit))))))) × Unit) (he : x.2.1 = x.1) (hb : K.big (.sl kRule) x.1 ≤ 4294967296) (hk : K.big (.sl kRule) x.1 < k) : laws_eqRuleS.F k x = some ((true, ()), ()) := by
  obtain ⟨x, y, _⟩ := x
  simp only at he hb hk
  subst he
  have hl : y.length ≤ K.big (.sl kRule) y := big_len (e := kRule) y
  unfold laws_eqRuleS.F
  simp only [bne_self_eq_false, cond_false]
  refine loop_inv (len := y.length) (fun n i (s : Unit) => laws_eqRuleS.l4 k _ _ n y y i) (fun i s => True) _ ?_ ?_ k 0 () (Nat.zero_le _) trivial (by omega)
  · rintro n s -
    simp only [laws_eqRuleS.l4, lt_dec_f, cond_false]
  · rintro n i s hi -
    have hm : K.big kRule y[i] + 1 ≤ K.big (.sl kRule) y := big_mem (e := kRule) (l := y) (List.getElem_mem hi)
    refine ⟨(), ?_, trivial⟩
    simp only [laws_eqRuleS.l4, lt_dec hi, inBn hi, cond_true, share_eq, getD_get _ hi, bne_self_eq_false, cond_false]
    rw [laws_eqRule.refl k _ rfl (by simp only; omega) (by simp only; omega)]
    simp only [Option.bind_some, Bool.not_true, cond_false]
    rw [next_i (by omega)]
theorem laws_eqSettings.refl (k : Nat) (x : ((Int × (Int × (Int × Unit))) × (Int × (List ((Int × (Int × Unit)) × (Int × (Int × (Int × (Bool × (Int × (Int × Unit))))))) × (List ((Int × (Int × Unit)) × (Int × (Int × (Int × (Bool × (Int × (Int × Unit))))))) × Unit)))) × ((Int × (Int × (Int × Unit))) × (Int × (List ((Int × (Int × Unit)) × (Int × (Int × (Int × (Bool × (Int × (Int × Unit))))))) × (List ((Int × (Int × Unit)) × (Int × (Int × (Int × (Bool × (Int × (Int × Unit))))))) × Unit)))) × Unit) (he : x.2.1 = x.1) (hb : K.big kSettings x.1 ≤ 4294967296) (hk : K.big kSettings x.1 < k) : laws_eqSettings.F k x = some ((true, ()), ()) := by
  obtain ⟨x, y, _⟩ := x
  simp only at he hb hk
  subst he
  unfold laws_eqSettings.F
  (try simp only [bne_self_eq_false, cond_false])
  rw [laws_eqConfig.refl k _ rfl (by (try simp only [bigp, bigi, bigb, bigu, bigs, kerrorAddressString, kPrefix, kl1Src, kConfig, kFrame, kboundsError, kEvent, kAttrs, kWire, kSession, kEntry, kTold, kRule, kUpdate, kRoute, kAttrsResult, kWireResult, kToldResult, kRouteResult, kUpdatesResult, kLink, kNode, kSettings, kMail, kRouter, kMessage, kRouterResult, kNodeResult, kPair, kPairResult] at *); omega) (by (try simp only [bigp, bigi, bigb, bigu, bigs, kerrorAddressString, kPrefix, kl1Src, kConfig, kFrame, kboundsError, kEvent, kAttrs, kWire, kSession, kEntry, kTold, kRule, kUpdate, kRoute, kAttrsResult, kWireResult, kToldResult, kRouteResult, kUpdatesResult, kLink, kNode, kSettings, kMail, kRouter, kMessage, kRouterResult, kNodeResult, kPair, kPairResult] at *); omega)]
  (try simp only [Option.bind_some, Bool.not_true, cond_false, bne_self_eq_false, BEq.rfl])
  rw [laws_eqRuleS.refl k _ rfl (by (try simp only [bigp, bigi, bigb, bigu, bigs, kerrorAddressString, kPrefix, kl1Src, kConfig, kFrame, kboundsError, kEvent, kAttrs, kWire, kSession, kEntry, kTold, kRule, kUpdate, kRoute, kAttrsResult, kWireResult, kToldResult, kRouteResult, kUpdatesResult, kLink, kNode, kSettings, kMail, kRouter, kMessage, kRouterResult, kNodeResult, kPair, kPairResult] at *); omega) (by (try simp only [bigp, bigi, bigb, bigu, bigs, kerrorAddressString, kPrefix, kl1Src, kConfig, kFrame, kboundsError, kEvent, kAttrs, kWire, kSession, kEntry, kTold, kRule, kUpdate, kRoute, kAttrsResult, kWireResult, kToldResult, kRouteResult, kUpdatesResult, kLink, kNode, kSettings, kMail, kRouter, kMessage, kRouterResult, kNodeResult, kPair, kPairResult] at *); omega)]
  (try simp only [Option.bind_some, Bool.not_true, cond_false, bne_self_eq_false, BEq.rfl])
  rw [laws_eqRuleS.refl k _ rfl (by (try simp only [bigp, bigi, bigb, bigu, bigs, kerrorAddressString, kPrefix, kl1Src, kConfig, kFrame, kboundsError, kEvent, kAttrs, kWire, kSession, kEntry, kTold, kRule, kUpdate, kRoute, kAttrsResult, kWireResult, kToldResult, kRouteResult, kUpdatesResult, kLink, kNode, kSettings, kMail, kRouter, kMessage, kRouterResult, kNodeResult, kPair, kPairResult] at *); omega) (by (try simp only [bigp, bigi, bigb, bigu, bigs, kerrorAddressString, kPrefix, kl1Src, kConfig, kFrame, kboundsError, kEvent, kAttrs, kWire, kSession, kEntry, kTold, kRule, kUpdate, kRoute, kAttrsResult, kWireResult, kToldResult, kRouteResult, kUpdatesResult, kLink, kNode, kSettings, kMail, kRouter, kMessage, kRouterResult, kNodeResult, kPair, kPairResult] at *); omega)]
  (try simp only [Option.bind_some, Bool.not_true, cond_false, bne_self_eq_false, BEq.rfl])
theorem laws_eqMail.refl (k : Nat) (x : (Int × (Int × (Int × (Int × (Int × (Bool × ((Int × ((Int × (Int × (List Int × Unit))) × Unit)) × Unit))))))) × (Int × (Int × (Int × (Int × (Int × (Bool × ((Int × ((Int × (Int × (List Int × Unit))) × Unit)) × Unit))))))) × Unit) (he : x.2.1 = x.1) (hb : K.big kMail x.1 ≤ 4294967296) (hk : K.big kMail x.1 < k) : laws_eqMail.F k x = some ((true, ()), ()) := by
  obtain ⟨x, y, _⟩ := x
  simp only at he hb hk
  subst he
  unfold laws_eqMail.F
  (try simp only [bne_self_eq_false, cond_false])
  rw [laws_eqEntry.refl k _ rfl (by (try simp only [bigp, bigi, bigb, bigu, bigs, kerrorAddressString, kPrefix, kl1Src, kConfig, kFrame, kboundsError, kEvent, kAttrs, kWire, kSession, kEntry, kTold, kRule, kUpdate, kRoute, kAttrsResult, kWireResult, kToldResult, kRouteResult, kUpdatesResult, kLink, kNode, kSettings, kMail, kRouter, kMessage, kRouterResult, kNodeResult, kPair, kPairResult] at *); omega) (by (try simp only [bigp, bigi, bigb, bigu, bigs, kerrorAddressString, kPrefix, kl1Src, kConfig, kFrame, kboundsError, kEvent, kAttrs, kWire, kSession, kEntry, kTold, kRule, kUpdate, kRoute, kAttrsResult, kWireResult, kToldResult, kRouteResult, kUpdatesResult, kLink, kNode, kSettings, kMail, kRouter, kMessage, kRouterResult, kNodeResult, kPair, kPairResult] at *); omega)]
  (try simp only [Option.bind_some, Bool.not_true, cond_false, bne_self_eq_false, BEq.rfl])
theorem laws_eqMailS.refl (k : Nat) (x : List (Int × (Int × (Int × (Int × (Int × (Bool × ((Int × ((Int × (Int × (List Int × Unit))) × Unit)) × Unit))))))) × List (Int × (Int × (Int × (Int × (Int × (Bool × ((Int × ((Int × (Int × (List Int × Unit))) × Unit)) × Unit))))))) × Unit) (he : x.2.1 = x.1) (hb : K.big (.sl kMail) x.1 ≤ 4294967296) (hk : K.big (.sl kMail) x.1 < k) : laws_eqMailS.F k x = some ((true, ()), ()) := by
  obtain ⟨x, y, _⟩ := x
  simp only at he hb hk
  subst he
  have hl : y.length ≤ K.big (.sl kMail) y := big_len (e := kMail) y
  unfold laws_eqMailS.F
  simp only [bne_self_eq_false, cond_false]
  refine loop_inv (len := y.length) (fun n i (s : Unit) => laws_eqMailS.l4 k _ _ n y y i) (fun i s => True) _ ?_ ?_ k 0 () (Nat.zero_le _) trivial (by omega)
  · rintro n s -
    simp only [laws_eqMailS.l4, lt_dec_f, cond_false]
  · rintro n i s hi -
    have hm : K.big kMail y[i] + 1 ≤ K.big (.sl kMail) y := big_mem (e := kMail) (l := y) (List.getElem_mem hi)
    refine ⟨(), ?_, trivial⟩
    simp only [laws_eqMailS.l4, lt_dec hi, inBn hi, cond_true, share_eq, getD_get _ hi, bne_self_eq_false, cond_false]
    rw [laws_eqMail.refl k _ rfl (by simp only; omega) (by simp only; omega)]
    simp only [Option.bind_some, Bool.not_true, cond_false]
    rw [next_i (by omega)]
theorem laws_eqPair.refl (k : Nat) (x : (((Int × (Int × (Int × Unit))) × (Int × (List ((Int × (Int × Unit)) × (Int × (Int × (Int × (Bool × (Int × (Int × Unit))))))) × (List ((Int × (Int × Unit)) × (Int × (Int × (Int × (Bool × (Int × (Int × Unit))))))) × Unit)))) × (List (Int × (Bool × (Int × (Int × (List (Int × ((Int × (Int × (List Int × Unit))) × Unit)) × (Int × (Int × (Int × (Int × Unit))))))))) × (List (Int × (List Int × (Int × (List Int × Unit)))) × (List (Int × (Int × (Int × (Int × (Int × (Bool × ((Int × ((Int × (Int × (List Int × Unit))) × Unit)) × Unit))))))) × (List (Int × ((Int × (Int × (List Int × Unit))) × Unit)) × Unit))))) × (((Int × (Int × (Int × Unit))) × (Int × (List ((Int × (Int × Unit)) × (Int × (Int × (Int × (Bool × (Int × (Int × Unit))))))) × (List ((Int × (Int × Unit)) × (Int × (Int × (Int × (Bool × (Int × (Int × Unit))))))) × Unit)))) × (List (Int × (Bool × (Int × (Int × (List (Int × ((Int × (Int × (List Int × Unit))) × Unit)) × (Int × (Int × (Int × (Int × Unit))))))))) × (List (Int × (List Int × (Int × (List Int × Unit)))) × (List (Int × (Int × (Int × (Int × (Int × (Bool × ((Int × ((Int × (Int × (List Int × Unit))) × Unit)) × Unit))))))) × (List (Int × ((Int × (Int × (List Int × Unit))) × Unit)) × Unit))))) × Unit) (he : x.2.1 = x.1) (hb : K.big kPair x.1 ≤ 4294967296) (hk : K.big kPair x.1 < k) : laws_eqPair.F k x = some ((true, ()), ()) := by
  obtain ⟨x, y, _⟩ := x
  simp only at he hb hk
  subst he
  unfold laws_eqPair.F
  (try simp only [bne_self_eq_false, cond_false])
  rw [laws_eqSettings.refl k _ rfl (by (try simp only [bigp, bigi, bigb, bigu, bigs, kerrorAddressString, kPrefix, kl1Src, kConfig, kFrame, kboundsError, kEvent, kAttrs, kWire, kSession, kEntry, kTold, kRule, kUpdate, kRoute, kAttrsResult, kWireResult, kToldResult, kRouteResult, kUpdatesResult, kLink, kNode, kSettings, kMail, kRouter, kMessage, kRouterResult, kNodeResult, kPair, kPairResult] at *); omega) (by (try simp only [bigp, bigi, bigb, bigu, bigs, kerrorAddressString, kPrefix, kl1Src, kConfig, kFrame, kboundsError, kEvent, kAttrs, kWire, kSession, kEntry, kTold, kRule, kUpdate, kRoute, kAttrsResult, kWireResult, kToldResult, kRouteResult, kUpdatesResult, kLink, kNode, kSettings, kMail, kRouter, kMessage, kRouterResult, kNodeResult, kPair, kPairResult] at *); omega)]
  (try simp only [Option.bind_some, Bool.not_true, cond_false, bne_self_eq_false, BEq.rfl])
  rw [laws_eqNodeS.refl k _ rfl (by (try simp only [bigp, bigi, bigb, bigu, bigs, kerrorAddressString, kPrefix, kl1Src, kConfig, kFrame, kboundsError, kEvent, kAttrs, kWire, kSession, kEntry, kTold, kRule, kUpdate, kRoute, kAttrsResult, kWireResult, kToldResult, kRouteResult, kUpdatesResult, kLink, kNode, kSettings, kMail, kRouter, kMessage, kRouterResult, kNodeResult, kPair, kPairResult] at *); omega) (by (try simp only [bigp, bigi, bigb, bigu, bigs, kerrorAddressString, kPrefix, kl1Src, kConfig, kFrame, kboundsError, kEvent, kAttrs, kWire, kSession, kEntry, kTold, kRule, kUpdate, kRoute, kAttrsResult, kWireResult, kToldResult, kRouteResult, kUpdatesResult, kLink, kNode, kSettings, kMail, kRouter, kMessage, kRouterResult, kNodeResult, kPair, kPairResult] at *); omega)]
  (try simp only [Option.bind_some, Bool.not_true, cond_false, bne_self_eq_false, BEq.rfl])
  rw [laws_eqWireS.refl k _ rfl (by (try simp only [bigp, bigi, bigb, bigu, bigs, kerrorAddressString, kPrefix, kl1Src, kConfig, kFrame, kboundsError, kEvent, kAttrs, kWire, kSession, kEntry, kTold, kRule, kUpdate, kRoute, kAttrsResult, kWireResult, kToldResult, kRouteResult, kUpdatesResult, kLink, kNode, kSettings, kMail, kRouter, kMessage, kRouterResult, kNodeResult, kPair, kPairResult] at *); omega) (by (try simp only [bigp, bigi, bigb, bigu, bigs, kerrorAddressString, kPrefix, kl1Src, kConfig, kFrame, kboundsError, kEvent, kAttrs, kWire, kSession, kEntry, kTold, kRule, kUpdate, kRoute, kAttrsResult, kWireResult, kToldResult, kRouteResult, kUpdatesResult, kLink, kNode, kSettings, kMail, kRouter, kMessage, kRouterResult, kNodeResult, kPair, kPairResult] at *); omega)]
  (try simp only [Option.bind_some, Bool.not_true, cond_false, bne_self_eq_false, BEq.rfl])
  rw [laws_eqMailS.refl k _ rfl (by (try simp only [bigp, bigi, bigb, bigu, bigs, kerrorAddressString, kPrefix, kl1Src, kConfig, kFrame, kboundsError, kEvent, kAttrs, kWire, kSession, kEntry, kTold, kRule, kUpdate, kRoute, kAttrsResult, kWireResult, kToldResult, kRouteResult, kUpdatesResult, kLink, kNode, kSettings, kMail, kRouter, kMessage, kRouterResult, kNodeResult, kPair, kPairResult] at *); omega) (by (try simp only [bigp, bigi, bigb, bigu, bigs, kerrorAddressString, kPrefix, kl1Src, kConfig, kFrame, kboundsError, kEvent, kAttrs, kWire, kSession, kEntry, kTold, kRule, kUpdate, kRoute, kAttrsResult, kWireResult, kToldResult, kRouteResult, kUpdatesResult, kLink, kNode, kSettings, kMail, kRouter, kMessage, kRouterResult, kNodeResult, kPair, kPairResult] at *); omega)]
  (try simp only [Option.bind_some, Bool.not_true, cond_false, bne_self_eq_false, BEq.rfl])
  rw [laws_eqEntryS.refl k _ rfl (by (try simp only [bigp, bigi, bigb, bigu, bigs, kerrorAddressString, kPrefix, kl1Src, kConfig, kFrame, kboundsError, kEvent, kAttrs, kWire, kSession, kEntry, kTold, kRule, kUpdate, kRoute, kAttrsResult, kWireResult, kToldResult, kRouteResult, kUpdatesResult, kLink, kNode, kSettings, kMail, kRouter, kMessage, kRouterResult, kNodeResult, kPair, kPairResult] at *); omega) (by (try simp only [bigp, bigi, bigb, bigu, bigs, kerrorAddressString, kPrefix, kl1Src, kConfig, kFrame, kboundsError, kEvent, kAttrs, kWire, kSession, kEntry, kTold, kRule, kUpdate, kRoute, kAttrsResult, kWireResult, kToldResult, kRouteResult, kUpdatesResult, kLink, kNode, kSettings, kMail, kRouter, kMessage, kRouterResult, kNodeResult, kPair, kPairResult] at *); omega)]
  (try simp only [Option.bind_some, Bool.not_true, cond_false, bne_self_eq_false, BEq.rfl])
theorem laws_eqPairResult.refl (k : Nat) (x : (Int × (List Int × ((((Int × (Int × (Int × Unit))) × (Int × (List ((Int × (Int × Unit)) × (Int × (Int × (Int × (Bool × (Int × (Int × Unit))))))) × (List ((Int × (Int × Unit)) × (Int × (Int × (Int × (Bool × (Int × (Int × Unit))))))) × Unit)))) × (List (Int × (Bool × (Int × (Int × (List (Int × ((Int × (Int × (List Int × Unit))) × Unit)) × (Int × (Int × (Int × (Int × Unit))))))))) × (List (Int × (List Int × (Int × (List Int × Unit)))) × (List (Int × (Int × (Int × (Int × (Int × (Bool × ((Int × ((Int × (Int × (List Int × Unit))) × Unit)) × Unit))))))) × (List (Int × ((Int × (Int × (List Int × Unit))) × Unit)) × Unit))))) × Unit))) × (Int × (List Int × ((((Int × (Int × (Int × Unit))) × (Int × (List ((Int × (Int × Unit)) × (Int × (Int × (Int × (Bool × (Int × (Int × Unit))))))) × (List ((Int × (Int × Unit)) × (Int × (Int × (Int × (Bool × (Int × (Int × Unit))))))) × Unit)))) × (List (Int × (Bool × (Int × (Int × (List (Int × ((Int × (Int × (List Int × Unit))) × Unit)) × (Int × (Int × (Int × (Int × Unit))))))))) × (List (Int × (List Int × (Int × (List Int × Unit)))) × (List (Int × (Int × (Int × (Int × (Int × (Bool × ((Int × ((Int × (Int × (List Int × Unit))) × Unit)) × Unit))))))) × (List (Int × ((Int × (Int × (List Int × Unit))) × Unit)) × Unit))))) × Unit))) × Unit) (he : x.2.1 = x.1) (hb : K.big kPairResult x.1 ≤ 4294967296) (hk : K.big kPairResult x.1 < k) : laws_eqPairResult.F k x = some ((true, ()), ()) := by
  obtain ⟨x, y, _⟩ := x
  simp only at he hb hk
  subst he
  unfold laws_eqPairResult.F
  (try simp only [bne_self_eq_false, cond_false])
  rw [laws_eqByteS.refl k _ rfl (by (try simp only [bigp, bigi, bigb, bigu, bigs, kerrorAddressString, kPrefix, kl1Src, kConfig, kFrame, kboundsError, kEvent, kAttrs, kWire, kSession, kEntry, kTold, kRule, kUpdate, kRoute, kAttrsResult, kWireResult, kToldResult, kRouteResult, kUpdatesResult, kLink, kNode, kSettings, kMail, kRouter, kMessage, kRouterResult, kNodeResult, kPair, kPairResult] at *); omega) (by (try simp only [bigp, bigi, bigb, bigu, bigs, kerrorAddressString, kPrefix, kl1Src, kConfig, kFrame, kboundsError, kEvent, kAttrs, kWire, kSession, kEntry, kTold, kRule, kUpdate, kRoute, kAttrsResult, kWireResult, kToldResult, kRouteResult, kUpdatesResult, kLink, kNode, kSettings, kMail, kRouter, kMessage, kRouterResult, kNodeResult, kPair, kPairResult] at *); omega)]
  (try simp only [Option.bind_some, Bool.not_true, cond_false, bne_self_eq_false, BEq.rfl])
  rw [laws_eqPair.refl k _ rfl (by (try simp only [bigp, bigi, bigb, bigu, bigs, kerrorAddressString, kPrefix, kl1Src, kConfig, kFrame, kboundsError, kEvent, kAttrs, kWire, kSession, kEntry, kTold, kRule, kUpdate, kRoute, kAttrsResult, kWireResult, kToldResult, kRouteResult, kUpdatesResult, kLink, kNode, kSettings, kMail, kRouter, kMessage, kRouterResult, kNodeResult, kPair, kPairResult] at *); omega) (by (try simp only [bigp, bigi, bigb, bigu, bigs, kerrorAddressString, kPrefix, kl1Src, kConfig, kFrame, kboundsError, kEvent, kAttrs, kWire, kSession, kEntry, kTold, kRule, kUpdate, kRoute, kAttrsResult, kWireResult, kToldResult, kRouteResult, kUpdatesResult, kLink, kNode, kSettings, kMail, kRouter, kMessage, kRouterResult, kNodeResult, kPair, kPairResult] at *); omega)]
  (try simp only [Option.bind_some, Bool.not_true, cond_false, bne_self_eq_false, BEq.rfl])
theorem laws_markRuleS.tot (k : Nat) (x : List ((Int × (Int × Unit)) × (Int × (Int × (Int × (Bool × (Int × (Int × Unit)))))))) (l : Int) (hb : K.big (.sl kRule) x ≤ 4294967296) (hk : K.big (.sl kRule) x < k) (h0 : 0 ≤ l) (h1 : l + 64 * (K.big (.sl kRule) x : Int) ≤ 1125899906842624) : ∃ (m : Int) (b0 : List ((Int × (Int × Unit)) × (Int × (Int × (Int × (Bool × (Int × (Int × Unit)))))))), laws_markRuleS.F k (x, l, ()) = some ((m, ()), (b0, ())) ∧ l ≤ m ∧ m ≤ l + 64 * (K.big (.sl kRule) x : Int) ∧ laws_heldRuleS.F k (b0, l, ()) = some ((m, ()), ()) ∧ K.big (.sl kRule) b0 = K.big (.sl kRule) x := by
  have hl : x.length ≤ K.big (.sl kRule) x := big_len (e := kRule) x
  have hl : x.length ≤ K.big (.sl kRule) x := big_len (e := kRule) x
  have hsum : ∀ t : List ((Int × (Int × Unit)) × (Int × (Int × (Int × (Bool × (Int × (Int × Unit))))))), K.big (.sl kRule) t = sumB (fun y : ((Int × (Int × Unit)) × (Int × (Int × (Int × (Bool × (Int × (Int × Unit))))))) => K.big kRule y) t := fun _ => rfl
  obtain ⟨m, ys, e1, l1, u1, g1, _, g2, g3⟩ := mark_all (fun y : ((Int × (Int × Unit)) × (Int × (Int × (Int × (Bool × (Int × (Int × Unit))))))) => K.big kRule y) 1125899906842624 (K.big (.sl kRule) x) (fun n s i (t : List ((Int × (Int × Unit)) × (Int × (Int × (Int × (Bool × (Int × (Int × Unit)))))))) => laws_markRuleS.l2 (ρ := ((Int × Unit) × (List ((Int × (Int × Unit)) × (Int × (Int × (Int × (Bool × (Int × (Int × Unit))))))) × Unit))) k (fun y => some ((y.1, ()), y.2)) n s i t) (fun y => some ((y.1, ()), y.2)) (fun n (u : List ((Int × (Int × Unit)) × (Int × (Int × (Int × (Bool × (Int × (Int × Unit)))))))) s i => laws_heldRuleS.l2 (ρ := (Int × Unit) × Unit) k (fun e => some (e, ())) (fun e => some (e, ())) n u s i) (fun n s t => by simp only [laws_markRuleS.l2, lt_dec_f, cond_false]) (by
    intro n s i t hi h0 h1 hN hlen
    have hbe : K.big kRule t[i] = ((0 + (0 + 0)) + (0 + (0 + (0 + (0 + (0 + (0 + 0))))))) := rfl
    simp only [hbe] at h1 hN
    refine ⟨?v, ?m, ?k1, ?k2, ?k3, ?k4, ?k5⟩
    case k1 =>
      simp (disch := omega) only [laws_markRuleS.l2, lt_dec hi, inBn hi, cond_true, share_eq, Int.toNat_natCast, List.length_set, getD_set _ hi, set_twice, getD_at _ hi, w64, Option.bind_some]
      rfl
    case k2 => omega
    case k3 => simp only [hbe]; omega
    case k4 =>
      simp only [hbe]
      show ((0 + (0 + 0)) + (0 + (0 + (0 + (0 + (0 + (0 + 0))))))) = _
      omega
    case k5 =>
      intro n' u hu hul
      have hiu : i < u.length := (List.getElem?_eq_some_iff.1 hu).1
      simp (disch := omega) only [laws_heldRuleS.l2, lt_dec hiu, inBn hiu, cond_true, share_eq, Int.toNat_natCast, get_getD _ hu, bne_self_eq_false, BEq.rfl, Bool.not_true, cond_false, w64, Option.bind_some]
      rfl) x.length k 0 x l (by omega) (by omega) (Nat.zero_le _) h0 (by rw [List.drop_zero, ← hsum]; omega) (by rw [← hsum]; exact Nat.le_refl _)
  rw [List.drop_zero, List.drop_zero] at g2
  rw [List.drop_zero] at u1
  refine ⟨m, ys, ?_, l1, u1, ?_, g2⟩
  · unfold laws_markRuleS.F; exact e1
  · unfold laws_heldRuleS.F
    have h3 := g3 k (by omega)
    obtain ⟨q, hq⟩ : ∃ q, k - x.length = q + 1 := ⟨k - x.length - 1, by omega⟩
    rw [hq] at h3
    refine h3.trans ?_
    simp only [laws_heldRuleS.l2, lt_dec_f, cond_false]
theorem laws_markSettings.tot (k : Nat) (x : ((Int × (Int × (Int × Unit))) × (Int × (List ((Int × (Int × Unit)) × (Int × (Int × (Int × (Bool × (Int × (Int × Unit))))))) × (List ((Int × (Int × Unit)) × (Int × (Int × (Int × (Bool × (Int × (Int × Unit))))))) × Unit))))) (l : Int) (hb : K.big kSettings x ≤ 4294967296) (hk : K.big kSettings x < k) (h0 : 0 ≤ l) (h1 : l + 64 * (K.big kSettings x : Int) ≤ 1125899906842624) : ∃ (m : Int) (b0 : List ((Int × (Int × Unit)) × (Int × (Int × (Int × (Bool × (Int × (Int × Unit)))))))) (b1 : List ((Int × (Int × Unit)) × (Int × (Int × (Int × (Bool × (Int × (Int × Unit)))))))), laws_markSettings.F k (x, l, ()) = some ((m, ()), ((x.1, (x.2.1, (b0, (b1, ())))), ())) ∧ l ≤ m ∧ m ≤ l + 64 * (K.big kSettings x : Int) ∧ laws_heldSettings.F k ((x.1, (x.2.1, (b0, (b1, ())))), l, ()) = some ((m, ()), ()) ∧ K.big (.sl kRule) b0 = K.big (.sl kRule) x.2.2.1 ∧ K.big (.sl kRule) b1 = K.big (.sl kRule) x.2.2.2.1 := by
  obtain ⟨m0, b0_0, e0, l0, u0, d0, g0_0⟩ := laws_markRuleS.tot k x.2.2.1 l (by (try simp only [bigp, bigi, bigb, bigu, bigs, kerrorAddressString, kPrefix, kl1Src, kConfig, kFrame, kboundsError, kEvent, kAttrs, kWire, kSession, kEntry, kTold, kRule, kUpdate, kRoute, kAttrsResult, kWireResult, kToldResult, kRouteResult, kUpdatesResult, kLink, kNode, kSettings, kMail, kRouter, kMessage, kRouterResult, kNodeResult, kPair, kPairResult] at *); omega) (by (try simp only [bigp, bigi, bigb, bigu, bigs, kerrorAddressString, kPrefix, kl1Src, kConfig, kFrame, kboundsError, kEvent, kAttrs, kWire, kSession, kEntry, kTold, kRule, kUpdate, kRoute, kAttrsResult, kWireResult, kToldResult, kRouteResult, kUpdatesResult, kLink, kNode, kSettings, kMail, kRouter, kMessage, kRouterResult, kNodeResult, kPair, kPairResult] at *); omega) (by omega) (by (try simp only [bigp, bigi, bigb, bigu, bigs, kerrorAddressString, kPrefix, kl1Src, kConfig, kFrame, kboundsError, kEvent, kAttrs, kWire, kSession, kEntry, kTold, kRule, kUpdate, kRoute, kAttrsResult, kWireResult, kToldResult, kRouteResult, kUpdatesResult, kLink, kNode, kSettings, kMail, kRouter, kMessage, kRouterResult, kNodeResult, kPair, kPairResult] at *); omega)
  obtain ⟨m1, b1_0, e1, l1, u1, d1, g1_0⟩ := laws_markRuleS.tot k x.2.2.2.1 m0 (by (try simp only [bigp, bigi, bigb, bigu, bigs, kerrorAddressString, kPrefix, kl1Src, kConfig, kFrame, kboundsError, kEvent, kAttrs, kWire, kSession, kEntry, kTold, kRule, kUpdate, kRoute, kAttrsResult, kWireResult, kToldResult, kRouteResult, kUpdatesResult, kLink, kNode, kSettings, kMail, kRouter, kMessage, kRouterResult, kNodeResult, kPair, kPairResult] at *); omega) (by (try simp only [bigp, bigi, bigb, bigu, bigs, kerrorAddressString, kPrefix, kl1Src, kConfig, kFrame, kboundsError, kEvent, kAttrs, kWire, kSession, kEntry, kTold, kRule, kUpdate, kRoute, kAttrsResult, kWireResult, kToldResult, kRouteResult, kUpdatesResult, kLink, kNode, kSettings, kMail, kRouter, kMessage, kRouterResult, kNodeResult, kPair, kPairResult] at *); omega) (by omega) (by (try simp only [bigp, bigi, bigb, bigu, bigs, kerrorAddressString, kPrefix, kl1Src, kConfig, kFrame, kboundsError, kEvent, kAttrs, kWire, kSession, kEntry, kTold, kRule, kUpdate, kRoute, kAttrsResult, kWireResult, kToldResult, kRouteResult, kUpdatesResult, kLink, kNode, kSettings, kMail, kRouter, kMessage, kRouterResult, kNodeResult, kPair, kPairResult] at *); omega)
  refine ⟨m1, b0_0, b1_0, ?_, by omega, (by (try simp only [bigp, bigi, bigb, bigu, bigs, kerrorAddressString, kPrefix, kl1Src, kConfig, kFrame, kboundsError, kEvent, kAttrs, kWire, kSession, kEntry, kTold, kRule, kUpdate, kRoute, kAttrsResult, kWireResult, kToldResult, kRouteResult, kUpdatesResult, kLink, kNode, kSettings, kMail, kRouter, kMessage, kRouterResult, kNodeResult, kPair, kPairResult] at *); omega), ?_, g0_0, g1_0⟩
  · unfold laws_markSettings.F
    simp only [e0, Option.bind_some]
    simp only [e1, Option.bind_some]
  · unfold laws_heldSettings.F
    simp only [d0, Option.bind_some]
    (try rw [decide_eq_false (by omega), cond_false])
    simp only [d1, Option.bind_some]
    (try rw [decide_eq_false (by omega), cond_false])
theorem laws_markByteS.tot (k : Nat) (x : List Int) (l : Int) (hb : K.big (.sl (.int .u8)) x ≤ 4294967296) (hk : K.big (.sl (.int .u8)) x < k) (h0 : 0 ≤ l) (h1 : l + 64 * (K.big (.sl (.int .u8)) x : Int) ≤ 1125899906842624) : ∃ (m : Int) (b0 : List Int), laws_markByteS.F k (x, l, ()) = some ((m, ()), (b0, ())) ∧ l ≤ m ∧ m ≤ l + 64 * (K.big (.sl (.int .u8)) x : Int) ∧ laws_heldByteS.F k (b0, l, ()) = some ((m, ()), ()) ∧ K.big (.sl (.int .u8)) b0 = K.big (.sl (.int .u8)) x := by
  have hl : x.length ≤ K.big (.sl (.int .u8)) x := big_len (e := (.int .u8)) x
  have hbig := big_int .u8 x
  let ys := upto (IntKind.wrap .u8) l x.length
  have hys : ys.length = x.length := upto_len _ _ _
  have hget : ∀ i, i < x.length → ys[i]? = some (IntKind.wrap .u8 (l + i)) := fun i hi => upto_get _ _ _ i hi
  refine ⟨l + x.length, ys, ?_, by omega, by omega, ?_, by rw [big_int, big_int, hys]⟩
  · unfold laws_markByteS.F
    refine loop_inv (len := x.length) (fun n i (s : Int × List Int) => laws_markByteS.l2 k _ n s.1 i s.2) (fun i s => s.1 = l + i ∧ s.2.length = ys.length ∧ ∀ j, j < i → s.2[j]? = ys[j]?) _ ?_ ?_ k 0 (l, x) (Nat.zero_le _) ⟨by simp, hys.symm, fun j h => by omega⟩ (by omega)
    · rintro n ⟨s, t⟩ ⟨rfl, h1, h2⟩
      simp only at h1 h2
      simp only [laws_markByteS.l2, h1, hys, lt_dec_f, cond_false]
      rw [all_eq h1 (by rw [hys]; exact h2)]
    · rintro n i ⟨s, t⟩ hi ⟨rfl, h1, h2⟩
      simp only at h1 h2
      refine ⟨(l + ((i + 1 : Nat) : Int), t.set i (IntKind.wrap .u8 (l + i))), ?_, rfl, set_keep h1 (by omega) h2 (hget i hi)⟩
      simp only [laws_markByteS.l2, h1, hys, lt_dec hi, inBn hi, cond_true, share_eq, Int.toNat_natCast]
      rw [next_i (by omega), next_k h0 (by omega) (by omega)]
  · unfold laws_heldByteS.F
    refine loop_inv (len := x.length) (fun n i (s : Int) => laws_heldByteS.l2 k _ _ n ys s i) (fun i s => s = l + i) _ ?_ ?_ k 0 l (Nat.zero_le _) (by simp) (by omega)
    · rintro n s rfl
      simp only [laws_heldByteS.l2, hys, lt_dec_f, cond_false]
    · rintro n i s hi rfl
      refine ⟨l + ((i + 1 : Nat) : Int), ?_, rfl⟩
      have hg : ys.getD i 0 = IntKind.wrap .u8 (l + i) := by rw [List.getD_eq_getElem?_getD, hget i hi]; rfl
      simp only [laws_heldByteS.l2, hys, lt_dec hi, inBn hi, cond_true, share_eq, Int.toNat_natCast, hg, bne_self_eq_false, cond_false]
      rw [next_i (by omega), next_k h0 (by omega) (by omega)]
theorem laws_markWireS.tot (k : Nat) (x : List (Int × (List Int × (Int × (List Int × Unit))))) (l : Int) (hb : K.big (.sl kWire) x ≤ 4294967296) (hk : K.big (.sl kWire) x < k) (h0 : 0 ≤ l) (h1 : l + 64 * (K.big (.sl kWire) x : Int) ≤ 1125899906842624) : ∃ (m : Int) (b0 : List (Int × (List Int × (Int × (List Int × Unit))))), laws_markWireS.F k (x, l, ()) = some ((m, ()), (b0, ())) ∧ l ≤ m ∧ m ≤ l + 64 * (K.big (.sl kWire) x : Int) ∧ laws_heldWireS.F k (b0, l, ()) = some ((m, ()), ()) ∧ K.big (.sl kWire) b0 = K.big (.sl kWire) x := by
  have hl : x.length ≤ K.big (.sl kWire) x := big_len (e := kWire) x
  have hl : x.length ≤ K.big (.sl kWire) x := big_len (e := kWire) x
  have hsum : ∀ t : List (Int × (List Int × (Int × (List Int × Unit)))), K.big (.sl kWire) t = sumB (fun y : (Int × (List Int × (Int × (List Int × Unit)))) => K.big kWire y) t := fun _ => rfl
  obtain ⟨m, ys, e1, l1, u1, g1, _, g2, g3⟩ := mark_all (fun y : (Int × (List Int × (Int × (List Int × Unit)))) => K.big kWire y) 1125899906842624 (K.big (.sl kWire) x) (fun n s i (t : List (Int × (List Int × (Int × (List Int × Unit))))) => laws_markWireS.l2 (ρ := ((Int × Unit) × (List (Int × (List Int × (Int × (List Int × Unit)))) × Unit))) k (fun y => some ((y.1, ()), y.2)) n s i t) (fun y => some ((y.1, ()), y.2)) (fun n (u : List (Int × (List Int × (Int × (List Int × Unit))))) s i => laws_heldWireS.l2 (ρ := (Int × Unit) × Unit) k (fun e => some (e, ())) (fun e => some (e, ())) n u s i) (fun n s t => by simp only [laws_markWireS.l2, lt_dec_f, cond_false]) (by
    intro n s i t hi h0 h1 hN hlen
    have hbe : K.big kWire t[i] = (0 + (K.big (.sl (.int .u8)) t[i].2.1 + (0 + (K.big (.sl (.int .u8)) t[i].2.2.2.1 + 0)))) := rfl
    simp only [hbe] at h1 hN
    obtain ⟨m0, b0, e0, l0, u0, d0, g0⟩ := laws_markByteS.tot k t[i].2.1 (s + 1) (by omega) (by omega) (by omega) (by omega)
    obtain ⟨m1, b1, e1, l1, u1, d1, g1⟩ := laws_markByteS.tot k t[i].2.2.2.1 (m0 + 1) (by omega) (by omega) (by omega) (by omega)
    refine ⟨?v, ?m, ?k1, ?k2, ?k3, ?k4, ?k5⟩
    case k1 =>
      simp (disch := omega) only [laws_markWireS.l2, lt_dec hi, inBn hi, cond_true, share_eq, Int.toNat_natCast, List.length_set, getD_set _ hi, set_twice, getD_at _ hi, w64, e0, e1, Option.bind_some]
      rfl
    case k2 => omega
    case k3 => simp only [hbe]; omega
    case k4 =>
      simp only [hbe]
      show (0 + (K.big (.sl (.int .u8)) b0 + (0 + (K.big (.sl (.int .u8)) b1 + 0)))) = _
      omega
    case k5 =>
      intro n' u hu hul
      have hiu : i < u.length := (List.getElem?_eq_some_iff.1 hu).1
      simp (disch := omega) only [laws_heldWireS.l2, lt_dec hiu, inBn hiu, cond_true, share_eq, Int.toNat_natCast, get_getD _ hu, bne_self_eq_false, BEq.rfl, Bool.not_true, cond_false, w64, d0, d1, Option.bind_some, decide_eq_false (show ¬ m0 < 0 by omega), decide_eq_false (show ¬ m1 < 0 by omega)]
      rfl) x.length k 0 x l (by omega) (by omega) (Nat.zero_le _) h0 (by rw [List.drop_zero, ← hsum]; omega) (by rw [← hsum]; exact Nat.le_refl _)
  rw [List.drop_zero, List.drop_zero] at g2
  rw [List.drop_zero] at u1
  refine ⟨m, ys, ?_, l1, u1, ?_, g2⟩
  · unfold laws_markWireS.F; exact e1
  · unfold laws_heldWireS.F
    have h3 := g3 k (by omega)
    obtain ⟨q, hq⟩ : ∃ q, k - x.length = q + 1 := ⟨k - x.length - 1, by omega⟩
    rw [hq] at h3
    refine h3.trans ?_
    simp only [laws_heldWireS.l2, lt_dec_f, cond_false]
theorem laws_markMailS.tot (k : Nat) (x : List (Int × (Int × (Int × (Int × (Int × (Bool × ((Int × ((Int × (Int × (List Int × Unit))) × Unit)) × Unit)))))))) (l : Int) (hb : K.big (.sl kMail) x ≤ 4294967296) (hk : K.big (.sl kMail) x < k) (h0 : 0 ≤ l) (h1 : l + 64 * (K.big (.sl kMail) x : Int) ≤ 1125899906842624) : ∃ (m : Int) (b0 : List (Int × (Int × (Int × (Int × (Int × (Bool × ((Int × ((Int × (Int × (List Int × Unit))) × Unit)) × Unit)))))))), laws_markMailS.F k (x, l, ()) = some ((m, ()), (b0, ())) ∧ l ≤ m ∧ m ≤ l + 64 * (K.big (.sl kMail) x : Int) ∧ laws_heldMailS.F k (b0, l, ()) = some ((m, ()), ()) ∧ K.big (.sl kMail) b0 = K.big (.sl kMail) x := by
  have hl : x.length ≤ K.big (.sl kMail) x := big_len (e := kMail) x
  have hl : x.length ≤ K.big (.sl kMail) x := big_len (e := kMail) x
  have hsum : ∀ t : List (Int × (Int × (Int × (Int × (Int × (Bool × ((Int × ((Int × (Int × (List Int × Unit))) × Unit)) × Unit))))))), K.big (.sl kMail) t = sumB (fun y : (Int × (Int × (Int × (Int × (Int × (Bool × ((Int × ((Int × (Int × (List Int × Unit))) × Unit)) × Unit))))))) => K.big kMail y) t := fun _ => rfl
  obtain ⟨m, ys, e1, l1, u1, g1, _, g2, g3⟩ := mark_all (fun y : (Int × (Int × (Int × (Int × (Int × (Bool × ((Int × ((Int × (Int × (List Int × Unit))) × Unit)) × Unit))))))) => K.big kMail y) 1125899906842624 (K.big (.sl kMail) x) (fun n s i (t : List (Int × (Int × (Int × (Int × (Int × (Bool × ((Int × ((Int × (Int × (List Int × Unit))) × Unit)) × Unit)))))))) => laws_markMailS.l2 (ρ := ((Int × Unit) × (List (Int × (Int × (Int × (Int × (Int × (Bool × ((Int × ((Int × (Int × (List Int × Unit))) × Unit)) × Unit))))))) × Unit))) k (fun y => some ((y.1, ()), y.2)) n s i t) (fun y => some ((y.1, ()), y.2)) (fun n (u : List (Int × (Int × (Int × (Int × (Int × (Bool × ((Int × ((Int × (Int × (List Int × Unit))) × Unit)) × Unit)))))))) s i => laws_heldMailS.l2 (ρ := (Int × Unit) × Unit) k (fun e => some (e, ())) (fun e => some (e, ())) n u s i) (fun n s t => by simp only [laws_markMailS.l2, lt_dec_f, cond_false]) (by
    intro n s i t hi h0 h1 hN hlen
    have hbe : K.big kMail t[i] = (0 + (0 + (0 + (0 + (0 + (0 + ((0 + ((0 + (0 + (K.big (.sl (.int .u8)) t[i].2.2.2.2.2.2.1.2.1.2.2.1 + 0))) + 0)) + 0))))))) := rfl
    simp only [hbe] at h1 hN
    obtain ⟨m0, b0, e0, l0, u0, d0, g0⟩ := laws_markByteS.tot k t[i].2.2.2.2.2.2.1.2.1.2.2.1 (s + 1 + 1 + 1 + 1 + 1 + 1 + 1 + 1 + 1) (by omega) (by omega) (by omega) (by omega)
    refine ⟨?v, ?m, ?k1, ?k2, ?k3, ?k4, ?k5⟩
    case k1 =>
      simp (disch := omega) only [laws_markMailS.l2, lt_dec hi, inBn hi, cond_true, share_eq, Int.toNat_natCast, List.length_set, getD_set _ hi, set_twice, getD_at _ hi, w64, e0, Option.bind_some]
      rfl
    case k2 => omega
    case k3 => simp only [hbe]; omega
    case k4 =>
      simp only [hbe]
      show (0 + (0 + (0 + (0 + (0 + (0 + ((0 + ((0 + (0 + (K.big (.sl (.int .u8)) b0 + 0))) + 0)) + 0))))))) = _
      omega
    case k5 =>
      intro n' u hu hul
      have hiu : i < u.length := (List.getElem?_eq_some_iff.1 hu).1
      simp (disch := omega) only [laws_heldMailS.l2, lt_dec hiu, inBn hiu, cond_true, share_eq, Int.toNat_natCast, get_getD _ hu, bne_self_eq_false, BEq.rfl, Bool.not_true, cond_false, w64, d0, Option.bind_some, decide_eq_false (show ¬ m0 < 0 by omega)]
      rfl) x.length k 0 x l (by omega) (by omega) (Nat.zero_le _) h0 (by rw [List.drop_zero, ← hsum]; omega) (by rw [← hsum]; exact Nat.le_refl _)
  rw [List.drop_zero, List.drop_zero] at g2
  rw [List.drop_zero] at u1
  refine ⟨m, ys, ?_, l1, u1, ?_, g2⟩
  · unfold laws_markMailS.F; exact e1
  · unfold laws_heldMailS.F
    have h3 := g3 k (by omega)
    obtain ⟨q, hq⟩ : ∃ q, k - x.length = q + 1 := ⟨k - x.length - 1, by omega⟩
    rw [hq] at h3
    refine h3.trans ?_
    simp only [laws_heldMailS.l2, lt_dec_f, cond_false]
theorem laws_markEntryS.tot (k : Nat) (x : List (Int × ((Int × (Int × (List Int × Unit))) × Unit))) (l : Int) (hb : K.big (.sl kEntry) x ≤ 4294967296) (hk : K.big (.sl kEntry) x < k) (h0 : 0 ≤ l) (h1 : l + 64 * (K.big (.sl kEntry) x : Int) ≤ 1125899906842624) : ∃ (m : Int) (b0 : List (Int × ((Int × (Int × (List Int × Unit))) × Unit))), laws_markEntryS.F k (x, l, ()) = some ((m, ()), (b0, ())) ∧ l ≤ m ∧ m ≤ l + 64 * (K.big (.sl kEntry) x : Int) ∧ laws_heldEntryS.F k (b0, l, ()) = some ((m, ()), ()) ∧ K.big (.sl kEntry) b0 = K.big (.sl kEntry) x := by
  have hl : x.length ≤ K.big (.sl kEntry) x := big_len (e := kEntry) x
  have hl : x.length ≤ K.big (.sl kEntry) x := big_len (e := kEntry) x
  have hsum : ∀ t : List (Int × ((Int × (Int × (List Int × Unit))) × Unit)), K.big (.sl kEntry) t = sumB (fun y : (Int × ((Int × (Int × (List Int × Unit))) × Unit)) => K.big kEntry y) t := fun _ => rfl
  obtain ⟨m, ys, e1, l1, u1, g1, _, g2, g3⟩ := mark_all (fun y : (Int × ((Int × (Int × (List Int × Unit))) × Unit)) => K.big kEntry y) 1125899906842624 (K.big (.sl kEntry) x) (fun n s i (t : List (Int × ((Int × (Int × (List Int × Unit))) × Unit))) => laws_markEntryS.l2 (ρ := ((Int × Unit) × (List (Int × ((Int × (Int × (List Int × Unit))) × Unit)) × Unit))) k (fun y => some ((y.1, ()), y.2)) n s i t) (fun y => some ((y.1, ()), y.2)) (fun n (u : List (Int × ((Int × (Int × (List Int × Unit))) × Unit))) s i => laws_heldEntryS.l2 (ρ := (Int × Unit) × Unit) k (fun e => some (e, ())) (fun e => some (e, ())) n u s i) (fun n s t => by simp only [laws_markEntryS.l2, lt_dec_f, cond_false]) (by
    intro n s i t hi h0 h1 hN hlen
    have hbe : K.big kEntry t[i] = (0 + ((0 + (0 + (K.big (.sl (.int .u8)) t[i].2.1.2.2.1 + 0))) + 0)) := rfl
    simp only [hbe] at h1 hN
    obtain ⟨m0, b0, e0, l0, u0, d0, g0⟩ := laws_markByteS.tot k t[i].2.1.2.2.1 (s + 1 + 1 + 1) (by omega) (by omega) (by omega) (by omega)
    refine ⟨?v, ?m, ?k1, ?k2, ?k3, ?k4, ?k5⟩
    case k1 =>
      simp (disch := omega) only [laws_markEntryS.l2, lt_dec hi, inBn hi, cond_true, share_eq, Int.toNat_natCast, List.length_set, getD_set _ hi, set_twice, getD_at _ hi, w64, e0, Option.bind_some]
      rfl
    case k2 => omega
    case k3 => simp only [hbe]; omega
    case k4 =>
      simp only [hbe]
      show (0 + ((0 + (0 + (K.big (.sl (.int .u8)) b0 + 0))) + 0)) = _
      omega
    case k5 =>
      intro n' u hu hul
      have hiu : i < u.length := (List.getElem?_eq_some_iff.1 hu).1
      simp (disch := omega) only [laws_heldEntryS.l2, lt_dec hiu, inBn hiu, cond_true, share_eq, Int.toNat_natCast, get_getD _ hu, bne_self_eq_false, BEq.rfl, Bool.not_true, cond_false, w64, d0, Option.bind_some, decide_eq_false (show ¬ m0 < 0 by omega)]
      rfl) x.length k 0 x l (by omega) (by omega) (Nat.zero_le _) h0 (by rw [List.drop_zero, ← hsum]; omega) (by rw [← hsum]; exact Nat.le_refl _)
  rw [List.drop_zero, List.drop_zero] at g2
  rw [List.drop_zero] at u1
  refine ⟨m, ys, ?_, l1, u1, ?_, g2⟩
  · unfold laws_markEntryS.F; exact e1
  · unfold laws_heldEntryS.F
    have h3 := g3 k (by omega)
    obtain ⟨q, hq⟩ : ∃ q, k - x.length = q + 1 := ⟨k - x.length - 1, by omega⟩
    rw [hq] at h3
    refine h3.trans ?_
    simp only [laws_heldEntryS.l2, lt_dec_f, cond_false]
theorem laws_markNodeS.tot (k : Nat) (x : List (Int × (Bool × (Int × (Int × (List (Int × ((Int × (Int × (List Int × Unit))) × Unit)) × (Int × (Int × (Int × (Int × Unit)))))))))) (l : Int) (hb : K.big (.sl kNode) x ≤ 4294967296) (hk : K.big (.sl kNode) x < k) (h0 : 0 ≤ l) (h1 : l + 64 * (K.big (.sl kNode) x : Int) ≤ 1125899906842624) : ∃ (m : Int) (b0 : List (Int × (Bool × (Int × (Int × (List (Int × ((Int × (Int × (List Int × Unit))) × Unit)) × (Int × (Int × (Int × (Int × Unit)))))))))), laws_markNodeS.F k (x, l, ()) = some ((m, ()), (b0, ())) ∧ l ≤ m ∧ m ≤ l + 64 * (K.big (.sl kNode) x : Int) ∧ laws_heldNodeS.F k (b0, l, ()) = some ((m, ()), ()) ∧ K.big (.sl kNode) b0 = K.big (.sl kNode) x := by
  have hl : x.length ≤ K.big (.sl kNode) x := big_len (e := kNode) x
  have hl : x.length ≤ K.big (.sl kNode) x := big_len (e := kNode) x
  have hsum : ∀ t : List (Int × (Bool × (Int × (Int × (List (Int × ((Int × (Int × (List Int × Unit))) × Unit)) × (Int × (Int × (Int × (Int × Unit))))))))), K.big (.sl kNode) t = sumB (fun y : (Int × (Bool × (Int × (Int × (List (Int × ((Int × (Int × (List Int × Unit))) × Unit)) × (Int × (Int × (Int × (Int × Unit))))))))) => K.big kNode y) t := fun _ => rfl
  obtain ⟨m, ys, e1, l1, u1, g1, _, g2, g3⟩ := mark_all (fun y : (Int × (Bool × (Int × (Int × (List (Int × ((Int × (Int × (List Int × Unit))) × Unit)) × (Int × (Int × (Int × (Int × Unit))))))))) => K.big kNode y) 1125899906842624 (K.big (.sl kNode) x) (fun n s i (t : List (Int × (Bool × (Int × (Int × (List (Int × ((Int × (Int × (List Int × Unit))) × Unit)) × (Int × (Int × (Int × (Int × Unit)))))))))) => laws_markNodeS.l2 (ρ := ((Int × Unit) × (List (Int × (Bool × (Int × (Int × (List (Int × ((Int × (Int × (List Int × Unit))) × Unit)) × (Int × (Int × (Int × (Int × Unit))))))))) × Unit))) k (fun y => some ((y.1, ()), y.2)) n s i t) (fun y => some ((y.1, ()), y.2)) (fun n (u : List (Int × (Bool × (Int × (Int × (List (Int × ((Int × (Int × (List Int × Unit))) × Unit)) × (Int × (Int × (Int × (Int × Unit)))))))))) s i => laws_heldNodeS.l2 (ρ := (Int × Unit) × Unit) k (fun e => some (e, ())) (fun e => some (e, ())) n u s i) (fun n s t => by simp only [laws_markNodeS.l2, lt_dec_f, cond_false]) (by
    intro n s i t hi h0 h1 hN hlen
    have hbe : K.big kNode t[i] = (0 + (0 + (0 + (0 + (K.big (.sl kEntry) t[i].2.2.2.2.1 + (0 + (0 + (0 + (0 + 0))))))))) := rfl
    simp only [hbe] at h1 hN
    obtain ⟨m0, b0, e0, l0, u0, d0, g0⟩ := laws_markEntryS.tot k t[i].2.2.2.2.1 (s + 1 + 1 + 1 + 1) (by omega) (by omega) (by omega) (by omega)
    refine ⟨?v, ?m, ?k1, ?k2, ?k3, ?k4, ?k5⟩
    case k1 =>
      simp (disch := omega) only [laws_markNodeS.l2, lt_dec hi, inBn hi, cond_true, share_eq, Int.toNat_natCast, List.length_set, getD_set _ hi, set_twice, getD_at _ hi, w64, e0, Option.bind_some]
      rfl
    case k2 => omega
    case k3 => simp only [hbe]; omega
    case k4 =>
      simp only [hbe]
      show (0 + (0 + (0 + (0 + (K.big (.sl kEntry) b0 + (0 + (0 + (0 + (0 + 0))))))))) = _
      omega
    case k5 =>
      intro n' u hu hul
      have hiu : i < u.length := (List.getElem?_eq_some_iff.1 hu).1
      simp (disch := omega) only [laws_heldNodeS.l2, lt_dec hiu, inBn hiu, cond_true, share_eq, Int.toNat_natCast, get_getD _ hu, bne_self_eq_false, BEq.rfl, Bool.not_true, cond_false, w64, d0, Option.bind_some, decide_eq_false (show ¬ m0 < 0 by omega)]
      rfl) x.length k 0 x l (by omega) (by omega) (Nat.zero_le _) h0 (by rw [List.drop_zero, ← hsum]; omega) (by rw [← hsum]; exact Nat.le_refl _)
  rw [List.drop_zero, List.drop_zero] at g2
  rw [List.drop_zero] at u1
  refine ⟨m, ys, ?_, l1, u1, ?_, g2⟩
  · unfold laws_markNodeS.F; exact e1
  · unfold laws_heldNodeS.F
    have h3 := g3 k (by omega)
    obtain ⟨q, hq⟩ : ∃ q, k - x.length = q + 1 := ⟨k - x.length - 1, by omega⟩
    rw [hq] at h3
    refine h3.trans ?_
    simp only [laws_heldNodeS.l2, lt_dec_f, cond_false]
theorem laws_markPair.tot (k : Nat) (x : (((Int × (Int × (Int × Unit))) × (Int × (List ((Int × (Int × Unit)) × (Int × (Int × (Int × (Bool × (Int × (Int × Unit))))))) × (List ((Int × (Int × Unit)) × (Int × (Int × (Int × (Bool × (Int × (Int × Unit))))))) × Unit)))) × (List (Int × (Bool × (Int × (Int × (List (Int × ((Int × (Int × (List Int × Unit))) × Unit)) × (Int × (Int × (Int × (Int × Unit))))))))) × (List (Int × (List Int × (Int × (List Int × Unit)))) × (List (Int × (Int × (Int × (Int × (Int × (Bool × ((Int × ((Int × (Int × (List Int × Unit))) × Unit)) × Unit))))))) × (List (Int × ((Int × (Int × (List Int × Unit))) × Unit)) × Unit)))))) (l : Int) (hb : K.big kPair x ≤ 4294967296) (hk : K.big kPair x < k) (h0 : 0 ≤ l) (h1 : l + 64 * (K.big kPair x : Int) ≤ 1125899906842624) : ∃ (m : Int) (b0 : List ((Int × (Int × Unit)) × (Int × (Int × (Int × (Bool × (Int × (Int × Unit)))))))) (b1 : List ((Int × (Int × Unit)) × (Int × (Int × (Int × (Bool × (Int × (Int × Unit)))))))) (b2 : List (Int × (Bool × (Int × (Int × (List (Int × ((Int × (Int × (List Int × Unit))) × Unit)) × (Int × (Int × (Int × (Int × Unit)))))))))) (b3 : List (Int × (List Int × (Int × (List Int × Unit))))) (b4 : List (Int × (Int × (Int × (Int × (Int × (Bool × ((Int × ((Int × (Int × (List Int × Unit))) × Unit)) × Unit)))))))) (b5 : List (Int × ((Int × (Int × (List Int × Unit))) × Unit))), laws_markPair.F k (x, l, ()) = some ((m, ()), (((x.1.1, (x.1.2.1, (b0, (b1, ())))), (b2, (b3, (b4, (b5, ()))))), ())) ∧ l ≤ m ∧ m ≤ l + 64 * (K.big kPair x : Int) ∧ laws_heldPair.F k (((x.1.1, (x.1.2.1, (b0, (b1, ())))), (b2, (b3, (b4, (b5, ()))))), l, ()) = some ((m, ()), ()) ∧ K.big (.sl kRule) b0 = K.big (.sl kRule) x.1.2.2.1 ∧ K.big (.sl kRule) b1 = K.big (.sl kRule) x.1.2.2.2.1 ∧ K.big (.sl kNode) b2 = K.big (.sl kNode) x.2.1 ∧ K.big (.sl kWire) b3 = K.big (.sl kWire) x.2.2.1 ∧ K.big (.sl kMail) b4 = K.big (.sl kMail) x.2.2.2.1 ∧ K.big (.sl kEntry) b5 = K.big (.sl kEntry) x.2.2.2.2.1 := by
  obtain ⟨m0, b0_0, b0_1, e0, l0, u0, d0, g0_0, g0_1⟩ := laws_markSettings.tot k x.1 l (by (try simp only [bigp, bigi, bigb, bigu, bigs, kerrorAddressString, kPrefix, kl1Src, kConfig, kFrame, kboundsError, kEvent, kAttrs, kWire, kSession, kEntry, kTold, kRule, kUpdate, kRoute, kAttrsResult, kWireResult, kToldResult, kRouteResult, kUpdatesResult, kLink, kNode, kSettings, kMail, kRouter, kMessage, kRouterResult, kNodeResult, kPair, kPairResult] at *); omega) (by (try simp only [bigp, bigi, bigb, bigu, bigs, kerrorAddressString, kPrefix, kl1Src, kConfig, kFrame, kboundsError, kEvent, kAttrs, kWire, kSession, kEntry, kTold, kRule, kUpdate, kRoute, kAttrsResult, kWireResult, kToldResult, kRouteResult, kUpdatesResult, kLink, kNode, kSettings, kMail, kRouter, kMessage, kRouterResult, kNodeResult, kPair, kPairResult] at *); omega) (by omega) (by (try simp only [bigp, bigi, bigb, bigu, bigs, kerrorAddressString, kPrefix, kl1Src, kConfig, kFrame, kboundsError, kEvent, kAttrs, kWire, kSession, kEntry, kTold, kRule, kUpdate, kRoute, kAttrsResult, kWireResult, kToldResult, kRouteResult, kUpdatesResult, kLink, kNode, kSettings, kMail, kRouter, kMessage, kRouterResult, kNodeResult, kPair, kPairResult] at *); omega)
  obtain ⟨m1, b1_0, e1, l1, u1, d1, g1_0⟩ := laws_markNodeS.tot k x.2.1 m0 (by (try simp only [bigp, bigi, bigb, bigu, bigs, kerrorAddressString, kPrefix, kl1Src, kConfig, kFrame, kboundsError, kEvent, kAttrs, kWire, kSession, kEntry, kTold, kRule, kUpdate, kRoute, kAttrsResult, kWireResult, kToldResult, kRouteResult, kUpdatesResult, kLink, kNode, kSettings, kMail, kRouter, kMessage, kRouterResult, kNodeResult, kPair, kPairResult] at *); omega) (by (try simp only [bigp, bigi, bigb, bigu, bigs, kerrorAddressString, kPrefix, kl1Src, kConfig, kFrame, kboundsError, kEvent, kAttrs, kWire, kSession, kEntry, kTold, kRule, kUpdate, kRoute, kAttrsResult, kWireResult, kToldResult, kRouteResult, kUpdatesResult, kLink, kNode, kSettings, kMail, kRouter, kMessage, kRouterResult, kNodeResult, kPair, kPairResult] at *); omega) (by omega) (by (try simp only [bigp, bigi, bigb, bigu, bigs, kerrorAddressString, kPrefix, kl1Src, kConfig, kFrame, kboundsError, kEvent, kAttrs, kWire, kSession, kEntry, kTold, kRule, kUpdate, kRoute, kAttrsResult, kWireResult, kToldResult, kRouteResult, kUpdatesResult, kLink, kNode, kSettings, kMail, kRouter, kMessage, kRouterResult, kNodeResult, kPair, kPairResult] at *); omega)
  obtain ⟨m2, b2_0, e2, l2, u2, d2, g2_0⟩ := laws_markWireS.tot k x.2.2.1 m1 (by (try simp only [bigp, bigi, bigb, bigu, bigs, kerrorAddressString, kPrefix, kl1Src, kConfig, kFrame, kboundsError, kEvent, kAttrs, kWire, kSession, kEntry, kTold, kRule, kUpdate, kRoute, kAttrsResult, kWireResult, kToldResult, kRouteResult, kUpdatesResult, kLink, kNode, kSettings, kMail, kRouter, kMessage, kRouterResult, kNodeResult, kPair, kPairResult] at *); omega) (by (try simp only [bigp, bigi, bigb, bigu, bigs, kerrorAddressString, kPrefix, kl1Src, kConfig, kFrame, kboundsError, kEvent, kAttrs, kWire, kSession, kEntry, kTold, kRule, kUpdate, kRoute, kAttrsResult, kWireResult, kToldResult, kRouteResult, kUpdatesResult, kLink, kNode, kSettings, kMail, kRouter, kMessage, kRouterResult, kNodeResult, kPair, kPairResult] at *); omega) (by omega) (by (try simp only [bigp, bigi, bigb, bigu, bigs, kerrorAddressString, kPrefix, kl1Src, kConfig, kFrame, kboundsError, kEvent, kAttrs, kWire, kSession, kEntry, kTold, kRule, kUpdate, kRoute, kAttrsResult, kWireResult, kToldResult, kRouteResult, kUpdatesResult, kLink, kNode, kSettings, kMail, kRouter, kMessage, kRouterResult, kNodeResult, kPair, kPairResult] at *); omega)
  obtain ⟨m3, b3_0, e3, l3, u3, d3, g3_0⟩ := laws_markMailS.tot k x.2.2.2.1 m2 (by (try simp only [bigp, bigi, bigb, bigu, bigs, kerrorAddressString, kPrefix, kl1Src, kConfig, kFrame, kboundsError, kEvent, kAttrs, kWire, kSession, kEntry, kTold, kRule, kUpdate, kRoute, kAttrsResult, kWireResult, kToldResult, kRouteResult, kUpdatesResult, kLink, kNode, kSettings, kMail, kRouter, kMessage, kRouterResult, kNodeResult, kPair, kPairResult] at *); omega) (by (try simp only [bigp, bigi, bigb, bigu, bigs, kerrorAddressString, kPrefix, kl1Src, kConfig, kFrame, kboundsError, kEvent, kAttrs, kWire, kSession, kEntry, kTold, kRule, kUpdate, kRoute, kAttrsResult, kWireResult, kToldResult, kRouteResult, kUpdatesResult, kLink, kNode, kSettings, kMail, kRouter, kMessage, kRouterResult, kNodeResult, kPair, kPairResult] at *); omega) (by omega) (by (try simp only [bigp, bigi, bigb, bigu, bigs, kerrorAddressString, kPrefix, kl1Src, kConfig, kFrame, kboundsError, kEvent, kAttrs, kWire, kSession, kEntry, kTold, kRule, kUpdate, kRoute, kAttrsResult, kWireResult, kToldResult, kRouteResult, kUpdatesResult, kLink, kNode, kSettings, kMail, kRouter, kMessage, kRouterResult, kNodeResult, kPair, kPairResult] at *); omega)
  obtain ⟨m4, b4_0, e4, l4, u4, d4, g4_0⟩ := laws_markEntryS.tot k x.2.2.2.2.1 m3 (by (try simp only [bigp, bigi, bigb, bigu, bigs, kerrorAddressString, kPrefix, kl1Src, kConfig, kFrame, kboundsError, kEvent, kAttrs, kWire, kSession, kEntry, kTold, kRule, kUpdate, kRoute, kAttrsResult, kWireResult, kToldResult, kRouteResult, kUpdatesResult, kLink, kNode, kSettings, kMail, kRouter, kMessage, kRouterResult, kNodeResult, kPair, kPairResult] at *); omega) (by (try simp only [bigp, bigi, bigb, bigu, bigs, kerrorAddressString, kPrefix, kl1Src, kConfig, kFrame, kboundsError, kEvent, kAttrs, kWire, kSession, kEntry, kTold, kRule, kUpdate, kRoute, kAttrsResult, kWireResult, kToldResult, kRouteResult, kUpdatesResult, kLink, kNode, kSettings, kMail, kRouter, kMessage, kRouterResult, kNodeResult, kPair, kPairResult] at *); omega) (by omega) (by (try simp only [bigp, bigi, bigb, bigu, bigs, kerrorAddressString, kPrefix, kl1Src, kConfig, kFrame, kboundsError, kEvent, kAttrs, kWire, kSession, kEntry, kTold, kRule, kUpdate, kRoute, kAttrsResult, kWireResult, kToldResult, kRouteResult, kUpdatesResult, kLink, kNode, kSettings, kMail, kRouter, kMessage, kRouterResult, kNodeResult, kPair, kPairResult] at *); omega)
  refine ⟨m4, b0_0, b0_1, b1_0, b2_0, b3_0, b4_0, ?_, by omega, (by (try simp only [bigp, bigi, bigb, bigu, bigs, kerrorAddressString, kPrefix, kl1Src, kConfig, kFrame, kboundsError, kEvent, kAttrs, kWire, kSession, kEntry, kTold, kRule, kUpdate, kRoute, kAttrsResult, kWireResult, kToldResult, kRouteResult, kUpdatesResult, kLink, kNode, kSettings, kMail, kRouter, kMessage, kRouterResult, kNodeResult, kPair, kPairResult] at *); omega), ?_, g0_0, g0_1, g1_0, g2_0, g3_0, g4_0⟩
  · unfold laws_markPair.F
    simp only [e0, Option.bind_some]
    simp only [e1, Option.bind_some]
    simp only [e2, Option.bind_some]
    simp only [e3, Option.bind_some]
    simp only [e4, Option.bind_some]
  · unfold laws_heldPair.F
    simp only [d0, Option.bind_some]
    (try rw [decide_eq_false (by omega), cond_false])
    simp only [d1, Option.bind_some]
    (try rw [decide_eq_false (by omega), cond_false])
    simp only [d2, Option.bind_some]
    (try rw [decide_eq_false (by omega), cond_false])
    simp only [d3, Option.bind_some]
    (try rw [decide_eq_false (by omega), cond_false])
    simp only [d4, Option.bind_some]
    (try rw [decide_eq_false (by omega), cond_false])
theorem laws_markPairResult.tot (k : Nat) (x : (Int × (List Int × ((((Int × (Int × (Int × Unit))) × (Int × (List ((Int × (Int × Unit)) × (Int × (Int × (Int × (Bool × (Int × (Int × Unit))))))) × (List ((Int × (Int × Unit)) × (Int × (Int × (Int × (Bool × (Int × (Int × Unit))))))) × Unit)))) × (List (Int × (Bool × (Int × (Int × (List (Int × ((Int × (Int × (List Int × Unit))) × Unit)) × (Int × (Int × (Int × (Int × Unit))))))))) × (List (Int × (List Int × (Int × (List Int × Unit)))) × (List (Int × (Int × (Int × (Int × (Int × (Bool × ((Int × ((Int × (Int × (List Int × Unit))) × Unit)) × Unit))))))) × (List (Int × ((Int × (Int × (List Int × Unit))) × Unit)) × Unit))))) × Unit)))) (l : Int) (hb : K.big kPairResult x ≤ 4294967296) (hk : K.big kPairResult x < k) (h0 : 0 ≤ l) (h1 : l + 64 * (K.big kPairResult x : Int) ≤ 1125899906842624) : ∃ (m : Int) (b0 : List Int) (b1 : List ((Int × (Int × Unit)) × (Int × (Int × (Int × (Bool × (Int × (Int × Unit)))))))) (b2 : List ((Int × (Int × Unit)) × (Int × (Int × (Int × (Bool × (Int × (Int × Unit)))))))) (b3 : List (Int × (Bool × (Int × (Int × (List (Int × ((Int × (Int × (List Int × Unit))) × Unit)) × (Int × (Int × (Int × (Int × Unit)))))))))) (b4 : List (Int × (List Int × (Int × (List Int × Unit))))) (b5 : List (Int × (Int × (Int × (Int × (Int × (Bool × ((Int × ((Int × (Int × (List Int × Unit))) × Unit)) × Unit)))))))) (b6 : List (Int × ((Int × (Int × (List Int × Unit))) × Unit))), laws_markPairResult.F k (x, l, ()) = some ((m, ()), ((x.1, (b0, (((x.2.2.1.1.1, (x.2.2.1.1.2.1, (b1, (b2, ())))), (b3, (b4, (b5, (b6, ()))))), ()))), ())) ∧ l ≤ m ∧ m ≤ l + 64 * (K.big kPairResult x : Int) ∧ laws_heldPairResult.F k ((x.1, (b0, (((x.2.2.1.1.1, (x.2.2.1.1.2.1, (b1, (b2, ())))), (b3, (b4, (b5, (b6, ()))))), ()))), l, ()) = some ((m, ()), ()) ∧ K.big (.sl (.int .u8)) b0 = K.big (.sl (.int .u8)) x.2.1 ∧ K.big (.sl kRule) b1 = K.big (.sl kRule) x.2.2.1.1.2.2.1 ∧ K.big (.sl kRule) b2 = K.big (.sl kRule) x.2.2.1.1.2.2.2.1 ∧ K.big (.sl kNode) b3 = K.big (.sl kNode) x.2.2.1.2.1 ∧ K.big (.sl kWire) b4 = K.big (.sl kWire) x.2.2.1.2.2.1 ∧ K.big (.sl kMail) b5 = K.big (.sl kMail) x.2.2.1.2.2.2.1 ∧ K.big (.sl kEntry) b6 = K.big (.sl kEntry) x.2.2.1.2.2.2.2.1 := by
  obtain ⟨m0, b0_0, e0, l0, u0, d0, g0_0⟩ := laws_markByteS.tot k x.2.1 l (by (try simp only [bigp, bigi, bigb, bigu, bigs, kerrorAddressString, kPrefix, kl1Src, kConfig, kFrame, kboundsError, kEvent, kAttrs, kWire, kSession, kEntry, kTold, kRule, kUpdate, kRoute, kAttrsResult, kWireResult, kToldResult, kRouteResult, kUpdatesResult, kLink, kNode, kSettings, kMail, kRouter, kMessage, kRouterResult, kNodeResult, kPair, kPairResult] at *); omega) (by (try simp only [bigp, bigi, bigb, bigu, bigs, kerrorAddressString, kPrefix, kl1Src, kConfig, kFrame, kboundsError, kEvent, kAttrs, kWire, kSession, kEntry, kTold, kRule, kUpdate, kRoute, kAttrsResult, kWireResult, kToldResult, kRouteResult, kUpdatesResult, kLink, kNode, kSettings, kMail, kRouter, kMessage, kRouterResult, kNodeResult, kPair, kPairResult] at *); omega) (by omega) (by (try simp only [bigp, bigi, bigb, bigu, bigs, kerrorAddressString, kPrefix, kl1Src, kConfig, kFrame, kboundsError, kEvent, kAttrs, kWire, kSession, kEntry, kTold, kRule, kUpdate, kRoute, kAttrsResult, kWireResult, kToldResult, kRouteResult, kUpdatesResult, kLink, kNode, kSettings, kMail, kRouter, kMessage, kRouterResult, kNodeResult, kPair, kPairResult] at *); omega)
  obtain ⟨m1, b1_0, b1_1, b1_2, b1_3, b1_4, b1_5, e1, l1, u1, d1, g1_0, g1_1, g1_2, g1_3, g1_4, g1_5⟩ := laws_markPair.tot k x.2.2.1 m0 (by (try simp only [bigp, bigi, bigb, bigu, bigs, kerrorAddressString, kPrefix, kl1Src, kConfig, kFrame, kboundsError, kEvent, kAttrs, kWire, kSession, kEntry, kTold, kRule, kUpdate, kRoute, kAttrsResult, kWireResult, kToldResult, kRouteResult, kUpdatesResult, kLink, kNode, kSettings, kMail, kRouter, kMessage, kRouterResult, kNodeResult, kPair, kPairResult] at *); omega) (by (try simp only [bigp, bigi, bigb, bigu, bigs, kerrorAddressString, kPrefix, kl1Src, kConfig, kFrame, kboundsError, kEvent, kAttrs, kWire, kSession, kEntry, kTold, kRule, kUpdate, kRoute, kAttrsResult, kWireResult, kToldResult, kRouteResult, kUpdatesResult, kLink, kNode, kSettings, kMail, kRouter, kMessage, kRouterResult, kNodeResult, kPair, kPairResult] at *); omega) (by omega) (by (try simp only [bigp, bigi, bigb, bigu, bigs, kerrorAddressString, kPrefix, kl1Src, kConfig, kFrame, kboundsError, kEvent, kAttrs, kWire, kSession, kEntry, kTold, kRule, kUpdate, kRoute, kAttrsResult, kWireResult, kToldResult, kRouteResult, kUpdatesResult, kLink, kNode, kSettings, kMail, kRouter, kMessage, kRouterResult, kNodeResult, kPair, kPairResult] at *); omega)
  refine ⟨m1, b0_0, b1_0, b1_1, b1_2, b1_3, b1_4, b1_5, ?_, by omega, (by (try simp only [bigp, bigi, bigb, bigu, bigs, kerrorAddressString, kPrefix, kl1Src, kConfig, kFrame, kboundsError, kEvent, kAttrs, kWire, kSession, kEntry, kTold, kRule, kUpdate, kRoute, kAttrsResult, kWireResult, kToldResult, kRouteResult, kUpdatesResult, kLink, kNode, kSettings, kMail, kRouter, kMessage, kRouterResult, kNodeResult, kPair, kPairResult] at *); omega), ?_, g0_0, g1_0, g1_1, g1_2, g1_3, g1_4, g1_5⟩
  · unfold laws_markPairResult.F
    simp only [e0, Option.bind_some]
    simp only [e1, Option.bind_some]
  · unfold laws_heldPairResult.F
    simp only [d0, Option.bind_some]
    (try rw [decide_eq_false (by omega), cond_false])
    simp only [d1, Option.bind_some]
    (try rw [decide_eq_false (by omega), cond_false])
end Go.Proofs.Ythnidahfdnnboaa
/- What the small functions compute, in plain words: numbers, prefixes. -/
set_option linter.unusedVariables false
set_option linter.unusedSimpArgs false
namespace Go.Proofs.Ythnidahfdnnboaa
open Go Go.Dn
theorem cond_some {α : Type} (b : Bool) (x y : α) : (bif b then some x else some y) = some (bif b then x else y) := by cases b <;> rfl
theorem cond_pair {α β : Type} (b : Bool) (x y : α) (u v : β) : (bif b then (x, u) else (y, v)) = (bif b then x else y, bif b then u else v) := by cases b <;> rfl
theorem cond_same {α : Type} (b : Bool) (x : α) : (bif b then x else x) = x := by cases b <;> rfl

def inR (x lo hi : Int) : Bool := decide (lo ≤ x) && decide (x ≤ hi)
theorem inR_iff {x lo hi : Int} : inR x lo hi = true ↔ lo ≤ x ∧ x ≤ hi := by simp [inR]
theorem in_form (x lo hi : Int) : (bif decide (x ≥ lo) then some ((decide (x ≤ hi), ()), ()) else some ((false, ()), ())) = some ((inR x lo hi, ()), ()) := by
  unfold inR
  by_cases h : lo ≤ x <;> simp [h]
theorem impl_in.eq (k : Nat) (x : Int × Int × Int × Unit) : impl_in.F k x = some ((inR x.1 x.2.1 x.2.2.1, ()), ()) := in_form _ _ _
theorem spec_l1In.eq (k : Nat) (x : Int × Int × Int × Unit) : spec_l1In.F k x = some ((inR x.1 x.2.1 x.2.2.1, ()), ()) := in_form _ _ _
theorem impl_isAddr.eq (k : Nat) (x : Int × Unit) : impl_isAddr.F k x = some ((inR x.1 0 65535, ()), ()) := by
  unfold impl_isAddr.F; rw [impl_in.eq]; rfl
theorem spec_l2Addr.eq (k : Nat) (x : Int × Unit) : spec_l2Addr.F k x = some ((inR x.1 0 65535, ()), ()) := by
  unfold spec_l2Addr.F; rw [spec_l1In.eq]; rfl

/-! ### Prefixes -/
def rest (n : Int) : Int := IntKind.wrap .i64 (shlV .i64 1 (16 - n) - 1)
def prefixFault (x : Int × Int × Unit) : Int :=
  bif !inR x.1 0 65535 then 3 else bif !inR x.2.1 0 16 then 3 else bif andV .i64 x.1 (rest x.2.1) != 0 then 1 else 0
theorem impl_PrefixFault.eq (k : Nat) (x : (Int × Int × Unit) × Unit) : impl_PrefixFault.F k x = some ((prefixFault x.1, ()), ()) := by
  unfold impl_PrefixFault.F prefixFault
  rw [impl_isAddr.eq, impl_in.eq]
  simp only [Option.bind_some]
  cases h1 : inR x.1.1 0 65535
  · rfl
  · cases h2 : inR x.1.2.1 0 16
    · rfl
    · have h3 := inR_iff.1 h2
      simp only [Bool.not_true, cond_false]
      rw [w64 (n := 16 - x.1.2.1) (by omega) (by omega), decide_eq_false (by omega), cond_false, cond_some, cond_pair, cond_pair]
      rfl
theorem spec_l2Rest.eq (k : Nat) (x : Int × Unit) (h : 0 ≤ x.1 ∧ x.1 ≤ 16) : spec_l2Rest.F k x = some ((rest x.1, ()), ()) := by
  unfold spec_l2Rest.F rest
  rw [w64 (n := 16 - x.1) (by omega) (by omega), wu64 (by omega) (by omega), decide_eq_false (by omega), cond_false]
theorem spec_PrefixFault.eq (k : Nat) (x : (Int × Int × Unit) × Unit) : spec_PrefixFault.F k x = some ((prefixFault x.1, ()), ()) := by
  unfold spec_PrefixFault.F prefixFault
  rw [spec_l2Addr.eq, spec_l1In.eq]
  simp only [Option.bind_some]
  cases h1 : inR x.1.1 0 65535
  · rfl
  · cases h2 : inR x.1.2.1 0 16
    · rfl
    · simp only [Bool.not_true, cond_false]
      rw [spec_l2Rest.eq k _ (inR_iff.1 h2)]
      simp only [Option.bind_some]
      rw [cond_some, cond_pair, cond_pair, cond_same]
theorem drop_step {α : Type} {l : List α} {i : Nat} (h : i < l.length) : l.drop i = l[i] :: l.drop (i + 1) := List.drop_eq_getElem_cons h
/-- The first fault in a list. -/
def firstF {α : Type} (f : α → Int) : List α → Int
  | [] => 0
  | x :: r => bif f x != 0 then f x else firstF f r
theorem bne_zero {n : Int} (h : n ≠ 0) : (n != 0) = true := by simp [h]
end Go.Proofs.Ythnidahfdnnboaa
/- Rules, configurations, settings: what is not right of them. -/
set_option linter.unusedVariables false
set_option linter.unusedSimpArgs false
namespace Go.Proofs.Ythnidahfdnnboaa
open Go Go.Dn
abbrev TRule := (Int × Int × Unit) × Int × Int × Int × Bool × Int × Int × Unit
abbrev TConfig := Int × Int × Int × Unit
abbrev TSettings := TConfig × Int × List TRule × List TRule × Unit
theorem impl_isTwo.eq (k : Nat) (x : Int × Unit) : impl_isTwo.F k x = some ((inR x.1 0 65535, ()), ()) := by
  unfold impl_isTwo.F; rw [impl_in.eq]; rfl
theorem spec_l3Word.eq (k : Nat) (x : Int × Unit) : spec_l3Word.F k x = some ((inR x.1 0 65535, ()), ()) := by
  unfold spec_l3Word.F; rw [spec_l1In.eq]; rfl
theorem impl_isSystem.eq (k : Nat) (x : Int × Unit) : impl_isSystem.F k x = some ((inR x.1 1 65535, ()), ()) := by
  unfold impl_isSystem.F; rw [impl_in.eq]; rfl
def isHold (x : Int) : Bool := bif x == 0 then true else inR x 3 200
theorem impl_isHold.eq (k : Nat) (x : Int × Unit) : impl_isHold.F k x = some ((isHold x.1, ()), ()) := by
  unfold impl_isHold.F isHold; rw [impl_in.eq]; simp only [Option.bind_some, cond_some, cond_pair, cond_same]
theorem spec_l4Hold.eq (k : Nat) (x : Int × Unit) : spec_l4Hold.F k x = some ((isHold x.1, ()), ()) := by
  unfold spec_l4Hold.F isHold; rw [spec_l1In.eq]; simp only [Option.bind_some, cond_some, cond_pair, cond_same]
def configFault (x : TConfig) : Int := bif !inR x.1 1 65535 then 3 else bif !inR x.2.1 1 65535 then 3 else bif !isHold x.2.2.1 then 3 else 0
theorem impl_ConfigFault.eq (k : Nat) (x : TConfig × Unit) : impl_ConfigFault.F k x = some ((configFault x.1, ()), ()) := by
  unfold impl_ConfigFault.F configFault
  rw [impl_isSystem.eq, impl_isSystem.eq, impl_isHold.eq]
  simp only [Option.bind_some, cond_some, cond_pair, cond_same]
theorem spec_ConfigFault.eq (k : Nat) (x : TConfig × Unit) : spec_ConfigFault.F k x = some ((configFault x.1, ()), ()) := by
  unfold spec_ConfigFault.F configFault
  rw [spec_l1In.eq, spec_l1In.eq, spec_l4Hold.eq]
  simp only [Option.bind_some, cond_some, cond_pair, cond_same]
def ruleFault (x : TRule) : Int :=
  bif prefixFault x.1 != 0 then prefixFault x.1 else bif !inR x.2.1 0 16 then 3 else bif !inR x.2.2.1 0 16 then 3 else bif !inR x.2.2.2.1 0 65535 then 3 else
  bif !inR x.2.2.2.2.2.1 (-1) 65535 then 3 else bif !inR x.2.2.2.2.2.2.1 0 3 then 3 else bif decide (x.2.1 > x.2.2.1) then 1 else
  bif x.2.2.2.2.1 then (bif x.2.2.2.2.2.1 != -1 then 1 else bif x.2.2.2.2.2.2.1 != 0 then 1 else 0) else 0
theorem impl_RuleFault.eq (k : Nat) (x : TRule × Unit) : impl_RuleFault.F k x = some ((ruleFault x.1, ()), ()) := by
  unfold impl_RuleFault.F ruleFault
  rw [impl_PrefixFault.eq, impl_in.eq, impl_in.eq, impl_isTwo.eq, impl_in.eq, impl_in.eq]
  simp only [Option.bind_some, cond_some, cond_pair, cond_same]
theorem spec_RuleFault.eq (k : Nat) (x : TRule × Unit) : spec_RuleFault.F k x = some ((ruleFault x.1, ()), ()) := by
  unfold spec_RuleFault.F ruleFault
  rw [spec_PrefixFault.eq, spec_l1In.eq, spec_l1In.eq, spec_l3Word.eq, spec_l1In.eq, spec_l1In.eq]
  simp only [Option.bind_some, cond_some, cond_pair, cond_same]
def rulesFault (x : List TRule) : Int := bif decide ((x.length : Int) > 8) then 2 else firstF ruleFault x
theorem impl_RulesFault.eq (k : Nat) (x : List TRule × Unit) (hk : 8 < k) : impl_RulesFault.F k x = some ((rulesFault x.1, ()), ()) := by
  obtain ⟨x, _⟩ := x
  unfold impl_RulesFault.F rulesFault
  by_cases hl : (x.length : Int) > 8
  · simp only [decide_eq_true hl, cond_true]
  simp only [decide_eq_false hl, cond_false]
  refine loop_up (len := x.length) (fun n i (_ : Unit) => impl_RulesFault.l4 k _ _ n x x.length i) (fun _ _ => True) (fun i _ => some ((firstF ruleFault (x.drop i), ()), ())) ?_ ?_ k 0 () (Nat.zero_le _) trivial (by omega)
  · rintro n s -
    simp only [impl_RulesFault.l4, lt_dec_f, cond_false, List.drop_length, firstF]
  · rintro n i s hi -
    simp only [impl_RulesFault.l4, lt_dec hi, inBn hi, cond_true, share_eq, getD_get _ hi]
    rw [impl_RuleFault.eq]
    simp only [Option.bind_some, drop_step hi, firstF]
    cases h : ruleFault x[i] != 0
    · exact .inr ⟨(), by rw [cond_false, next_i (by omega)], trivial, by simp only [cond_false]⟩
    · exact .inl (by simp only [cond_true])
theorem spec_RulesFault.eq (k : Nat) (x : List TRule × Unit) (hk : 8 < k) : spec_RulesFault.F k x = some ((rulesFault x.1, ()), ()) := by
  obtain ⟨x, _⟩ := x
  unfold spec_RulesFault.F rulesFault
  by_cases hl : (x.length : Int) > 8
  · simp only [decide_eq_true hl, cond_true]
  simp only [decide_eq_false hl, cond_false]
  refine loop_up (len := x.length) (fun n i (_ : Unit) => spec_RulesFault.l4 k _ _ n x i) (fun _ _ => True) (fun i _ => some ((firstF ruleFault (x.drop i), ()), ())) ?_ ?_ k 0 () (Nat.zero_le _) trivial (by omega)
  · rintro n s -
    simp only [spec_RulesFault.l4, lt_dec_f, cond_false, List.drop_length, firstF]
  · rintro n i s hi -
    simp only [spec_RulesFault.l4, lt_dec hi, inBn hi, cond_true, share_eq, getD_get _ hi]
    rw [spec_RuleFault.eq]
    simp only [Option.bind_some, drop_step hi, firstF]
    cases h : ruleFault x[i] != 0
    · exact .inr ⟨(), by rw [cond_false, next_i (by omega)], trivial, by simp only [cond_false]⟩
    · exact .inl (by simp only [cond_true])
def settingsFault (x : TSettings) : Int :=
  bif configFault x.1 != 0 then configFault x.1 else bif !inR x.2.1 0 65535 then 3 else bif rulesFault x.2.2.1 != 0 then rulesFault x.2.2.1 else rulesFault x.2.2.2.1
theorem impl_SettingsFault.eq (k : Nat) (x : TSettings × Unit) (hk : 8 < k) : impl_SettingsFault.F k x = some ((settingsFault x.1, ()), ()) := by
  unfold impl_SettingsFault.F settingsFault
  rw [impl_ConfigFault.eq, impl_isAddr.eq, impl_RulesFault.eq k _ hk, impl_RulesFault.eq k _ hk]
  simp only [Option.bind_some, cond_some, cond_pair, cond_same]
theorem spec_SettingsFault.eq (k : Nat) (x : TSettings × Unit) (hk : 8 < k) : spec_SettingsFault.F k x = some ((settingsFault x.1, ()), ()) := by
  unfold spec_SettingsFault.F settingsFault
  rw [spec_ConfigFault.eq, spec_l2Addr.eq, spec_RulesFault.eq k _ hk, spec_RulesFault.eq k _ hk]
  simp only [Option.bind_some, cond_some, cond_pair, cond_same]
end Go.Proofs.Ythnidahfdnnboaa
/- NewPair: the program's and the reference's answers are one, in plain words. -/
set_option linter.unusedVariables false
set_option linter.unusedSimpArgs false
namespace Go.Proofs.Ythnidahfdnnboaa
open Go Go.Dn
abbrev TPair := TSettings × List (Int × Bool × Int × Int × List (Int × (Int × Int × List Int × Unit) × Unit) × Int × Int × Int × Int × Unit) × List (Int × List Int × Int × List Int × Unit) × List (Int × Int × Int × Int × Int × Bool × (Int × (Int × Int × List Int × Unit) × Unit) × Unit) × List (Int × (Int × Int × List Int × Unit) × Unit) × Unit
abbrev TPairResult := Int × List Int × TPair × Unit
theorem agree_self {ρ : Type} (a : Option ρ) : agree a a = a := by unfold agree; simp
theorem slices_Clone_impl_Rule_impl_Rule.eq (k : Nat) (x : List TRule × Unit) (hb : x.1.length ≤ 4294967296) : slices_Clone_impl_Rule_impl_Rule.F k x = some ((x.1, ()), ()) := by
  obtain ⟨x, _⟩ := x
  unfold slices_Clone_impl_Rule_impl_Rule.F
  cases x with
  | nil => exact agree_self _
  | cons a x =>
    simp only at hb
    simp only [List.length_nil, Nat.zero_add, List.nil_append, share_eq]
    rw [roomy_le 4294967296 hb (by decide)]
    rfl
theorem impl_isNode.eq (k : Nat) (x : Int × Unit) : impl_isNode.F k x = some ((inR x.1 0 1, ()), ()) := by
  unfold impl_isNode.F; rw [impl_in.eq]; rfl
def newPair (x : TSettings) : TPairResult :=
  bif settingsFault x != 0 then (settingsFault x, [], (((0, 0, 0, ()), 0, [], [], ()), [], [], [], [], ()), ()) else
  (0, [], (x, [(0, true, 0, 0, [], 0, 0, 0, 0, ()), (1, true, 0, 0, [], 0, 0, 0, 0, ())], [(0, [], 0, [], ()), (0, [], 0, [], ()), (0, [], 0, [], ())], [], [], ()), ())
theorem spec_l9Settings.eq (k : Nat) (x : TSettings × Unit) (h1 : x.1.2.2.1.length ≤ 4294967296) (h2 : x.1.2.2.2.1.length ≤ 4294967296) : spec_l9Settings.F k x = some ((x.1, ()), ()) := by
  unfold spec_l9Settings.F
  simp only [List.length_nil, Nat.zero_add, List.nil_append, share_eq]
  rw [roomy_le 4294967296 h1 (by decide), roomy_le 4294967296 h2 (by decide)]
  rfl
theorem spec_NewPair.nodes {ρ : Type} (k n : Nat) (c0 : _ → Option ρ) (a b c d e f g h i : Int) (r1 r2 : List TRule) :
    spec_NewPair.l6 k c0 (n + 4) 0 a b c d e f g h i r1 r2 [] = c0 (a, b, c, d, e, f, g, h, i, r1, r2, [(0, true, 0, 0, [], 0, 0, 0, 0, ()), (1, true, 0, 0, [], 0, 0, 0, 0, ())], ()) := rfl
theorem spec_NewPair.wires {ρ : Type} (k n : Nat) (c0 : _ → Option ρ) (a b c d e f g h i : Int) (r1 r2 : List TRule) (ns : List (Int × Bool × Int × Int × List (Int × (Int × Int × List Int × Unit) × Unit) × Int × Int × Int × Int × Unit)) :
    spec_NewPair.l10 k c0 (n + 4) 0 a b c d e f g h i r1 r2 ns [] = c0 (a, b, c, d, e, f, g, h, i, r1, r2, ns, [(0, [], 0, [], ()), (0, [], 0, [], ()), (0, [], 0, [], ())], ()) := rfl
theorem impl_NewPair.nodes {ρ : Type} (k n : Nat) (c0 : _ → Option ρ) (a b c d e f g h i : Int) (r1 r2 : List TRule) (ws : List (Int × List Int × Int × List Int × Unit)) :
    impl_NewPair.l6 k c0 (n + 4) 0 a b c d e f g h i r1 r2 [] ws = c0 (a, b, c, d, e, f, g, h, i, r1, r2, [(0, true, 0, 0, [], 0, 0, 0, 0, ()), (1, true, 0, 0, [], 0, 0, 0, 0, ())], ws, ()) := rfl
theorem spec_NewPair.eq (k : Nat) (x : TSettings × Unit) (h1 : x.1.2.2.1.length ≤ 4294967296) (h2 : x.1.2.2.2.1.length ≤ 4294967296) (hk : 200 < k) : spec_NewPair.F k x = some ((newPair x.1, ()), ()) := by
  obtain ⟨n, rfl⟩ : ∃ n, k = n + 4 := ⟨k - 4, by omega⟩
  unfold spec_NewPair.F newPair
  rw [spec_SettingsFault.eq _ _ (by omega)]
  simp only [Option.bind_some]
  cases h0 : settingsFault x.1 != 0
  · simp only [cond_false]
    rw [spec_l9Settings.eq _ x h1 h2]
    simp only [Option.bind_some]
    rw [spec_NewPair.nodes]
    simp only
    rw [spec_NewPair.wires]
  · rfl
theorem impl_NewPair.eq (k : Nat) (x : TSettings × Unit) (h1 : x.1.2.2.1.length ≤ 4294967296) (h2 : x.1.2.2.2.1.length ≤ 4294967296) (hk : 200 < k) : impl_NewPair.F k x = some ((newPair x.1, ()), ()) := by
  obtain ⟨n, rfl⟩ : ∃ n, k = n + 4 := ⟨k - 4, by omega⟩
  unfold impl_NewPair.F impl_NewRouter.F newPair
  rw [impl_SettingsFault.eq _ _ (by omega)]
  simp only [Option.bind_some]
  cases h0 : settingsFault x.1 != 0
  · simp only [cond_false]
    rw [slices_Clone_impl_Rule_impl_Rule.eq _ _ h1, slices_Clone_impl_Rule_impl_Rule.eq _ _ h2]
    simp only [Option.bind_some, bne_self_eq_false, cond_false]
    rw [impl_NewPair.nodes]
    rfl
  · simp only [cond_true, Option.bind_some, h0]
theorem newPair_big (x : TSettings) : kPairResult.big (newPair x) ≤ kSettings.big x + 5 := by
  unfold newPair
  cases settingsFault x != 0
  · have h : kPairResult.big (0, [], (x, [(0, true, 0, 0, [], 0, 0, 0, 0, ()), (1, true, 0, 0, [], 0, 0, 0, 0, ())], [(0, [], 0, [], ()), (0, [], 0, [], ()), (0, [], 0, [], ())], [], [], ()), ()) = 0 + (0 + ((kSettings.big x + (2 + (3 + (0 + (0 + 0))))) + 0)) := rfl
    exact Nat.le_trans (Nat.le_of_eq h) (by omega)
  · have h : kPairResult.big (settingsFault x, [], (((0, 0, 0, ()), 0, [], [], ()), [], [], [], [], ()), ()) = 0 := rfl
    exact Nat.le_trans (Nat.le_of_eq h) (by omega)
theorem FnExactNewPairPure (x : TSettings) (hw : kSettings.wf x) (hb : kSettings.big x ≤ 1048576) : ∃ k, laws_FnExactNewPair.F k (x, ()) = some ((true, ()), ()) := by
  refine ⟨8589934592, ?_⟩
  have hs : kSettings.big x = (0 + (0 + (0 + 0))) + (0 + (K.big (.sl kRule) x.2.2.1 + (K.big (.sl kRule) x.2.2.2.1 + 0))) := rfl
  have l1 : x.2.2.1.length ≤ K.big (.sl kRule) x.2.2.1 := big_len (e := kRule) _
  have l2 : x.2.2.2.1.length ≤ K.big (.sl kRule) x.2.2.2.1 := big_len (e := kRule) _
  have hbig := newPair_big x
  unfold laws_FnExactNewPair.F
  obtain ⟨c, h1, h2, h3⟩ := laws_szSettings.tot 8589934592 (x, 1048576, ()) (by simp only; omega) (by simp only; omega) (by simp only; omega) (by simp only; omega)
  simp only [h1, Option.bind_some]
  by_cases hc : c < 0
  · rw [decide_eq_true hc]; rfl
  rw [decide_eq_false hc, cond_false, laws_toSettings.eq _ _ (by simp only; omega) (by simp only; omega)]
  simp only [Option.bind_some]
  rw [spec_NewPair.eq _ _ (by simp only; omega) (by simp only; omega) (by omega), impl_NewPair.eq _ _ (by simp only; omega) (by simp only; omega) (by omega)]
  simp only [Option.bind_some]
  have e0 := laws_eqPairResult.refl 8589934592 (newPair x, newPair x, ()) rfl (by simp only; omega) (by simp only; omega)
  simp only [e0, Option.bind_some, Bool.not_true, cond_false]
  rw [laws_eqSettings.refl _ _ rfl (by simp only; omega) (by simp only; omega)]
  simp only [Option.bind_some, Bool.not_true, cond_false]
  obtain ⟨m, b0, b1, e1, j1, u1, _, _⟩ := laws_markSettings.tot 8589934592 x 1 (by omega) (by omega) (by omega) (by omega)
  simp only [e1, Option.bind_some]
  rw [decide_eq_false (by omega), cond_false]
  obtain ⟨m', c0, c1, c2, c3, c4, c5, c6, e2, j2, u2, e3, g0, g1, g2, g3, g4, g5, g6⟩ := laws_markPairResult.tot 8589934592 (newPair x) 1 (by omega) (by omega) (by omega) (by omega)
  simp only [e2, Option.bind_some, e3, bne_self_eq_false, cond_false]
  rw [decide_eq_false (by omega)]
  rfl
end Go.Proofs.Ythnidahfdnnboaa
/- FnExactNewPair: for every input of the second form's bound the law returns true and its arguments read as before. -/
namespace Go.Proofs.Ythnidahfdnnboaa.fnExactNewPair
open Go.ChangeShapes Go.WideShapes Go.ChangeAt Go.RowKit Go.Dn
set_option linter.unusedVariables false
set_option maxRecDepth 100000
theorem own : ownKnob Try.prog.godebug = none := by kernel_rfl
theorem laidOut : laidOutB Try.prog = true := by kernel_rfl
theorem bulkOk (H : Type) : BulkOk (H := H) Rows.uptoBulk Rows.uptoBulkAll := by
  refine ⟨fun _ _ => ?_, fun _ => ?_, fun _ => ?_, ?_, fun _ _ => ?_, fun _ => ?_, ?_, fun _ _ => ?_⟩ <;> simp [Rows.uptoBulk, Rows.uptoBulkAll]
theorem contract (H : Type) (enc : TypeId × Value → H) (W : World) (base : Nat) (args : Array Value) (ds gs : List (DataW H)) (before : List MemPlace)
    (hval0 : ∀ (j : Nat) t v, Try.f8.params[j]? = some t → args[j]? = some v → Value.okWide Try.prog W .any base t v)
    (hW : DataW.Whole enc Try.prog Try.f8.params.toList Rows.fnExactNewPairSpec.vars false W args.toList ds gs before) (hk : Rows.uptoSmall H (ds ++ gs) = true) :
    Calls Try.prog 8 args W fun e W' => ∃ v, e = .returned v ∧ Rows.fnExactNewPairSpec.post enc Try.prog Try.f8 false true false false W args v W' := by
  have hval : ∀ (j : Nat) t v, Try.f8.params[j]? = some t → args[j]? = some v → Value.okWide Try.prog W .any base t v := hval0
  have hW' := hW
  obtain ⟨p, q, hA0, hV, rfl, hfz, hnd⟩ := hW
  have hA : DataW.TrodAll enc Try.prog W 0 (fun _ => true) true Try.f8.params.toList args.toList ds p := hA0
  rw [Try.params8] at hA hval
  obtain ⟨v0, vs0, d0, ds0, p0, q0, hargs, rfl, rfl, h0, r0⟩ := trodAll_cons hA
  obtain ⟨rfl, rfl, rfl⟩ := trodAll_nil r0
  obtain rfl : args = #[v0] := by cases args; simp_all
  obtain ⟨rfl, rfl⟩ := trodVars_none hV
  have hb : Rows.uptoBulkAll [d0] ≤ 1048576 := by simpa [Rows.uptoSmall] using hk
  obtain ⟨y0, us0, pk0, hh0, wf0, bg0⟩ := open_arg (bulkOk H) (κ := _) (t := 111) (tysOk0.1 111 _ rfl) (hval 0 111 v0 rfl rfl) h0
  have k0 := h0
  have lt0 : ∀ x ∈ p0, x.block < W.heap.size := by obtain ⟨m, hm⟩ := k0; exact DataW.trod_lt m _ _ _ hm
  have bi0 := (bulkOk H).le [d0] d0 (by simp)
  obtain ⟨k, hF⟩ := FnExactNewPairPure y0 wf0 (by omega)
  have hcall := law_of (laws_FnExactNewPair.ok k) hF (w := W) (vs := [v0]) ⟨v0, us0, _, rfl, pk0, hh0, rfl⟩
  refine hcall.mono fun e W' ⟨he, bel⟩ => ?_
  subst he
  exact ⟨_, rfl, _, _, _, [], _, [], hW', trodAll_mk1 (shut_bool Try.underlying4 _), (trodAll_cons_mk (Below.trod laidOut (by kernel_rfl) (of_decide_eq_true (by kernel_rfl)) k0 bel lt0) trodAll_mk0), rfl, bel.frame _, fun h => by cases h⟩
theorem lifted (os : Os) (started : os.Started) (H : Type) (enc : TypeId × Value → H) (F : Stop.Interp) :
    ReturnsInHanded {} Try.checked os 8 .any ((Rows.OpenSpec.upto Rows.fnExactNewPairSpec).pre6 enc Try.prog Try.f8 Rows.fnExactNewPairUptoRow.domain false) (((Rows.OpenSpec.upto Rows.fnExactNewPairSpec).at F).post enc Try.prog Try.f8 false true false false) := by
  refine returnsInHanded_of_cond (C := Try.checked) (s := Rows.OpenSpec.upto Rows.fnExactNewPairSpec) (k := Rows.uptoSmall) rfl own started (by kernel_rfl) Try.func8
    (OpenSpec.witness (enc := enc) (C := Try.checked) (s := Rows.OpenSpec.upto Rows.fnExactNewPairSpec) (k := Rows.uptoSmall) rfl false ⟨#[], #[.agg #[.int .i64 0, .int .i64 0, .int .i64 0, .int .i64 0, .slice none 0 0, .slice none 0 0]], []⟩ 8 (by kernel_rfl) (by kernel_rfl) (by kernel_rfl)
      (x := ([.agg [.agg [.lit (.int .i64 0), .lit (.int .i64 0), .lit (.int .i64 0)], .lit (.int .i64 0), .nil, .nil]], [], [])) (by kernel_rfl) rfl (by kernel_rfl)) ?_
  intro W base args ds gs before hval hW _ hk _
  exact contract H enc W base args ds gs before hval hW hk
abbrev rc := Rows.fnExactNewPairUptoRow
noncomputable abbrev rP := Try.pinned.checked.prog
noncomputable abbrev rf := Try.f8
noncomputable abbrev rs := (Rows.OpenSpec.upto Rows.fnExactNewPairSpec).bare
theorem j0 : (rc.wf (OpenSpec.ofChange rs) && laidOutB rP && mapsRowed rP && rf.params.all (rP.readableRec ·) && namedTie rP rc.named rs.vars && (rc.stops == []) && (rP.stops == []) && (rc.knobs == []) && (rP.stopKnobs == [])) = true := by kernel_rfl
theorem j1 : ((rc.inPlace == rP.inPlace 8)) = true := by kernel_rfl
theorem j2 : ((rc.unfollowed == rP.unfollowed 8)) = true := by kernel_rfl
theorem j3 : ((rc.recurses == rP.recurses 8)) = true := by kernel_rfl
theorem j4 : ((rc.named == rP.varsNamed 8)) = true := by kernel_rfl
theorem j5 : ((rc.maps == (rf.params.toList ++ rs.plain.varTypes rP).any (rP.mapsRec ·))) = true := by kernel_rfl
theorem j6 : ((rc.ifaces == (rf.params.toList ++ rs.plain.varTypes rP).any (rP.ifacesRec ·))) = true := by kernel_rfl
theorem j7 : ((rc.mapsOut == rP.mapsAmong rf.resultTypes.toList)) = true := by kernel_rfl
theorem j8 : ((rc.loops == (rf.params.toList ++ rs.plain.varTypes rP).any (rP.loopsFrom ·))) = true := by kernel_rfl
theorem j9 : ((rc.wideKeys == (rf.params.toList ++ rs.plain.varTypes rP ++ rf.resultTypes.toList).any (rP.wideKeysFrom ·))) = true := by kernel_rfl
theorem j10 : (rs.vars.all (rP.varReadable ·)) = true := by kernel_rfl
theorem j11 : (rf.resultTypes.all (fun t => rP.readableRec t && decide (t < rP.types.size))) = true := by kernel_rfl
theorem j12 : ((rc.ifacesOut == rf.resultTypes.toList.any (rP.ifacesRec ·))) = true := by kernel_rfl
theorem j13 : ((rc.loopsOut == rf.resultTypes.toList.any (rP.loopsFrom ·))) = true := by kernel_rfl
theorem j14 : ((rc.plainKeys == rP.plainKeys)) = true := by kernel_rfl
theorem j15 : (rc.shortTexts.isNone) = true := by kernel_rfl
theorem j16 : (rP.stopsHeard) = true := by kernel_rfl
theorem j17 : (rP.mayEnter) = true := by kernel_rfl
theorem j18 : ((rc.lifted == rP.liftsFinal)) = true := by kernel_rfl
theorem j19 : ((rP.make == some rc.make)) = true := by kernel_rfl
theorem j20 : ((rc.kinds == (if rc.domain.isEmpty then [] else rf.params.toList.map fun t => match rP.underlying t with | some (.int k) => some k | _ => none))) = true := by kernel_rfl
theorem j21 : ((rc.pinned == rc.pinnedBy)) = true := by kernel_rfl
theorem j22 : ((rc.veiled == (rf.params.toList ++ rs.plain.varTypes rP ++ rf.resultTypes.toList).any (rP.veiledRec ·))) = true := by kernel_rfl
theorem j23 : (rc.veiledFits rP rf.params.toList (rf.params.toList ++ rs.plain.varTypes rP ++ rf.resultTypes.toList)) = true := by kernel_rfl
theorem and2 {a b : Bool} (h : a = true) (h2 : b = true) : (a && b) = true := by rw [h, h2]; rfl
theorem facts : joinedFacts rP 8 rf rs rc = true := (and2 (and2 (and2 (and2 (and2 (and2 (and2 (and2 (and2 (and2 (and2 (and2 (and2 (and2 (and2 (and2 (and2 (and2 (and2 (and2 (and2 (and2 (and2 j0 j1) j2) j3) j4) j5) j6) j7) j8) j9) j10) j11) j12) j13) j14) j15) j16) j17) j18) j19) j20) j21) j22) j23)
theorem named : Try.pinned.checked.prog.funcNamed Rows.fnExactNewPairUptoRow.func = some 8 := by kernel_rfl
theorem inst : Try.f8.isInstance Try.pinned.checked.prog Rows.fnExactNewPairUptoRow.origin Rows.fnExactNewPairUptoRow.targs := of_decide_eq_true (by kernel_rfl)
theorem wrap : Try.f8.isWrapper Try.pinned.checked.prog Rows.fnExactNewPairUptoRow.wrapper Rows.fnExactNewPairUptoRow.mainSum := by unfold Func.isWrapper; first | (rw [if_pos (by decide +kernel)]; kernel_rfl) | (rw [if_neg (by decide +kernel)]; exact ⟨rfl, rfl⟩)
theorem over : Rows.fnExactNewPairUptoRow.holds Try.pinned (Rows.OpenSpec.upto Rows.fnExactNewPairSpec) :=
  OpenClaim.holds_of_cond 8 Try.f8 rfl rfl rfl rfl rfl rfl rfl ⟨rfl, rfl, rfl, rfl, rfl⟩ rfl rfl rfl rfl rfl named Try.func8 facts
    inst wrap
    (fun os started H enc _ F => lifted os started H enc F)
theorem proved : Rows.FnExactNewPairUptoSaid := over
end Go.Proofs.Ythnidahfdnnboaa.fnExactNewPair
namespace Go.Proofs.Ythnidahfdnnboaa
/-- The row, under a short name, for the claim. -/
theorem fnExactNewPair_holds : Rows.FnExactNewPairUptoSaid := fnExactNewPair.proved
end Go.Proofs.Ythnidahfdnnboaa
